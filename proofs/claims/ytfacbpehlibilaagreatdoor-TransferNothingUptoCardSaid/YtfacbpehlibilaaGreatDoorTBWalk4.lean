import Derived.Test.YtfacbpehlibilaaGreatDoorTBWalk3
set_option linter.unusedVariables false
set_option linter.unusedSimpArgs false
set_option maxHeartbeats 2000000
set_option maxRecDepth 100000
namespace Go.Proofs.YtfacbpehlibilaaGreatDoor
open Go Go.Am
theorem d0m:∀(n:Nat) (a1:Ox) (OQ:(List Oz)) (Ph:Int) (m1:(List (Bs×Int))) (l2:(List Oy)) (r:Ox×Int) (h:Qz n a1 OQ Ph m1 l2=some r),∀(st:St) (o0 o1 o2 q2:Nat) (hnd: [o0,o1,o2].Nodup) (Qr:Am.look st o0=some (.arr 0 4 0 [[.sl false 11 216 (rows Oz.cells OQ),.mp o1,.ref false o2 q2 0 l2.length,.int .i64 Ph]])) (Sd:Am.look st o1=some (.mps false (mrw Tw m1))) (Tz:Am.look st o2=some (.arr q2 2 16 (rows Oy.cells l2))),Am.Spec Tryz.prog gl 63 [.ptr o0 0 0 0,.agg [.int .i64 a1.kind,.str a1.name,.sl false 1 16 (rows OC a1.words),.sl false 4 72 (rows Ox.cells a1.subs)],.Xu] st (fun d st'=>d= .agg [.int .i64 r.1.kind,.str r.1.name,.sl false 1 16 (rows OC r.1.words),.sl false 4 72 (rows Ox.cells r.1.subs)]∧st'=puts st [(o0,(.arr 0 4 0 [[.sl false 11 216 (rows Oz.cells OQ),.mp o1,.ref false o2 q2 0 l2.length,.int .i64 r.2]])),(o1,(.mps false (mrw Tw m1))),(o2,(.arr q2 2 16 (rows Oy.cells l2)))]):=by
 intro n
 induction n with
 |zero=>intro a1 OQ Ph m1 l2 r h;cases h
 |succ n ih=>
  intro a1 OQ Ph m1 l2 r h st o0 o1 o2 q2 hnd Qr Sd Tz
  unfold Qz at h
  have ho0:=OM Qr
  have ho1:=OM Sd
  have ho2:=OM Tz
  have fx:=fa (fa (fa (idf ho0) (idf ho1)) (idf ho2)) (nd3 hnd)
  refine fb 84 [.cell 6 31] [0,1,2,4,6,7,9,10,11,12,13,14,16,23,24,25,26,35,45,48,50,67,68,69,70] Tryz.func63 fun hsc=>?_
  refine SZ (s':=(OT st [(o0,(.arr 0 4 0 [[.sl false 11 216 (rows Oz.cells OQ),.mp o1,.ref false o2 q2 0 l2.length,.int .i64 Ph]])),(o1,(.mps false (mrw Tw m1))),(o2,(.arr q2 2 16 (rows Oy.cells l2)))])) (OW (by simp[Qr,Sd,Tz])) ?_
  refine r0 ?_
  refine r0 ?_
  refine r0 ?_
  (repeat apply sq_)
  refine RO 1 16 ?_
  try simp only[List.append_assoc,List.cons_append,List.nil_append]
  refine Rj (F:=[(0,.ptr o0 0 0 0),(2,.Xu),(4,.ptr st.length 0 0 0),(6,.ptr (st.length+1) 0 0 0),(7,.ptr (st.length+2) 0 0 0),(23,.sl false 1 16 (rows OC a1.words)),(24,.int .i64 (↑a1.words.length:Int)),(25,.int .i64 0)]) (T:=(OT st [(o0,(.arr 0 4 0 [[.sl false 11 216 (rows Oz.cells OQ),.mp o1,.ref false o2 q2 0 l2.length,.int .i64 Ph]])),(o1,(.mps false (mrw Tw m1))),(o2,(.arr q2 2 16 (rows Oy.cells l2)))])++[some (.arr 0 4 0 [[.int .i64 a1.kind,.str a1.name,.sl false 1 16 (rows OC a1.words),.sl false 4 72 (rows Ox.cells a1.subs)]]),some (.arr 0 4 0 [[.int .i64 0,.str [],.OI,.OI]]),some (.arr 0 4 0 [[.int .i64 a1.kind,.str a1.name,.ref false (st.length+3) 0 0 0,.OI]]),some (.arr 0 1 16 (rows OC []))]) (Vi (by simp) (QX hsc (by simp<;>omega)) (.lv (.lv (.live _ _ _ _ (.arr _ _ _ _ _ (.cons _ _ _ _ (.cons _ _ _ _ .s (.cons _ _ _ _ .s (.cons _ _ _ _ (.nref _ _ _ _ _ _ (Pa.trans rfl)) (.cons _ _ _ _ .s .nil)))) (.same _))) (.lv (.nil _))))) (by simp<;>omega) ⟨.s,.s,.s,.s,.s,.s,.s,.s,trivial⟩ (by simp<;>omega)) ?_
  refine aln 23 fun hl0=>?_
  refine rng (body:=SC a1) (kk:=SD (Qz n) n a1 OQ Ph m1 l2) (n:=a1.words.length) (s0:=[])
   (fun(gs0:Nat) (k0:Nat) (s0:(List Bs))=>[(0,.ptr o0 0 0 0),(2,.Xu),(4,.ptr st.length 0 0 0),(6,.ptr (st.length+1) 0 0 0),(7,.ptr (st.length+2) 0 0 0),(23,.sl false 1 16 (rows OC a1.words)),(24,.int .i64 (↑a1.words.length:Int)),(25,.int .i64 (↑k0:Int))])
   (fun(gs0:Nat) (k0:Nat) (s0:(List Bs))=>(OT st [(o0,(.arr 0 4 0 [[.sl false 11 216 (rows Oz.cells OQ),.mp o1,.ref false o2 q2 0 l2.length,.int .i64 Ph]])),(o1,(.mps false (mrw Tw m1))),(o2,(.arr q2 2 16 (rows Oy.cells l2)))])++[some (.arr 0 4 0 [[.int .i64 a1.kind,.str a1.name,.sl false 1 16 (rows OC a1.words),.sl false 4 72 (rows Ox.cells a1.subs)]]),some (.arr 0 4 0 [[.int .i64 0,.str [],.OI,.OI]]),some (.arr 0 4 0 [[.int .i64 a1.kind,.str a1.name,.ref false (st.length+3) gs0 0 s0.length,.OI]]),some (.arr gs0 1 16 (rows OC s0))])
   (fun(gt0:Nat) (t0:(List Bs))=>[(0,.ptr o0 0 0 0),(2,.Xu),(4,.ptr st.length 0 0 0),(6,.ptr (st.length+1) 0 0 0),(7,.ptr (st.length+2) 0 0 0)])
   (fun(gt0:Nat) (t0:(List Bs))=>(OT st [(o0,(.arr 0 4 0 [[.sl false 11 216 (rows Oz.cells OQ),.mp o1,.ref false o2 q2 0 l2.length,.int .i64 Ph]])),(o1,(.mps false (mrw Tw m1))),(o2,(.arr q2 2 16 (rows Oy.cells l2)))])++[some (.arr 0 4 0 [[.int .i64 a1.kind,.str a1.name,.sl false 1 16 (rows OC a1.words),.sl false 4 72 (rows Ox.cells a1.subs)]]),some (.arr 0 4 0 [[.int .i64 0,.str [],.OI,.OI]]),some (.arr 0 4 0 [[.int .i64 a1.kind,.str a1.name,.ref false (st.length+3) gt0 0 t0.length,.OI]]),some (.arr gt0 1 16 (rows OC t0))])
   0 fx hl0 h (bu hsc)
   (fun gs0 k0 s0 b0 fx h hx0=>?_) (fun gs0 s0=>?_) (fun gt0 t0 fr1 st1 h hb=>?_)
  ·unfold SC at h
   refine ct ?_
   refine cd h (fun hc h=>?_) fun hc h=>?_
   ·refine r0 ?_
    obtain⟨c14,i5E,h⟩:=Xg h
    have fy:=(show rows OC s0++[[.str ([]:Bs)]]=rows OC c14 from by rw[i5E];first|exact Pp (E:=OC) s0 [([]:Bs)]|simp only[go_sem,rows,List.map_append,List.map_cons,List.map_nil])
    have fy:=fa fy (show s0.length+1=c14.length from by rw[i5E];simp)
    obtain⟨fx,h⟩:=ck fx h
    refine r1 ?_
    refine rn ?_
    cases h
    exact Vh (gs0+1) (bu hsc)
   ·refine r0 ?_
    obtain⟨c20,i8e,h⟩:=Xg h
    have fy:=(show rows OC s0++[[.str (get a1.words k0)]]=rows OC c20 from by rw[i8e];first|exact Pp (E:=OC) s0 [(get a1.words k0)]|simp only[go_sem,rows,List.map_append,List.map_cons,List.map_nil])
    have fy:=fa fy (show s0.length+1=c20.length from by rw[i8e];simp)
    obtain⟨fx,h⟩:=ck fx h
    refine r1 ?_
    refine rn ?_
    cases h
    exact Vh (gs0+1) (bu hsc)
  ·refine cf ?_
   refine VK ?_;simp only[go_sem,fx]
   exact⟨gs0,(bu hsc)⟩
  ·try simp only[go_sem,fx]
   unfold SD at h
   refine Rj hb ?_
   refine cl h (Pj _) fun v25 h=>?_
   refine cd h (fun hc h=>?_) fun hc h=>?_
   ·refine r0 ?_
    first|refine sq_ (d4x (b:=47) (tI:=12) (tE:=2) (tk:=13) (tv:=14) (id2:=2) (id3:=3) (i1:=12) (i2:=13) (i3:=14) (i4:=15) (F:=[(0,.ptr o0 0 0 0),(4,.ptr st.length 0 0 0),(6,.ptr (st.length+1) 0 0 0),(7,.ptr (st.length+2) 0 0 0),(12,.mp (st.length+4))]) Tryz.underlying126 (by decide) rfl (by simp[Fr.leq,Fr.get]) rfl ?_)|refine d4x (b:=47) (tI:=12) (tE:=2) (tk:=13) (tv:=14) (id2:=2) (id3:=3) (i1:=12) (i2:=13) (i3:=14) (i4:=15) (F:=[(0,.ptr o0 0 0 0),(4,.ptr st.length 0 0 0),(6,.ptr (st.length+1) 0 0 0),(7,.ptr (st.length+2) 0 0 0),(12,.mp (st.length+4))]) Tryz.underlying126 (by decide) rfl (by simp[Fr.leq,Fr.get]) rfl ?_
    try simp only[go_sem,fx]
    refine rn ?_
    obtain⟨v26,hv26,h⟩:=Rs h
    refine(VI _ _ _ _ _ hv26 _ _ _ _ q2 hnd (by simp only[go_sem,fx]) (by simp only[go_sem,fx]) (by simp only[go_sem,fx])).mono ?_
    rintro d1 st1 ⟨rfl,rfl⟩
    try simp only[go_sem,fx]
    obtain⟨c27,i8K,h⟩:=Xg h
    have fy:=(show [(a1.name,[.str v26.1])]=mrw OC c27 from by rw[i8K];exact XY (κ:=Bs) (E:=OC) a1.name v26.1 [])
    have fy:=fa fy (show OU a1.name [.str v26.1] (mrw OC [])=mrw OC c27 from by rw[i8K];exact XY (κ:=Bs) (E:=OC) a1.name v26.1 [])
    refine r1 ?_
    refine r0 ?_
    refine r0 ?_
    (repeat apply sq_)
    refine RO 4 72 ?_
    try simp only[List.append_assoc,List.cons_append,List.nil_append]
    refine Rj (F:=[(0,.ptr o0 0 0 0),(2,.mp (st.length+4)),(6,.ptr (st.length+1) 0 0 0),(7,.ptr (st.length+2) 0 0 0),(67,.sl false 4 72 (rows Ox.cells a1.subs)),(68,.int .i64 (↑a1.subs.length:Int)),(69,.int .i64 0)]) (T:=(OT st [(o0,(.arr 0 4 0 [[.sl false 11 216 (rows Oz.cells OQ),.mp o1,.ref false o2 q2 0 l2.length,.int .i64 v26.2]])),(o1,(.mps false (mrw Tw m1))),(o2,(.arr q2 2 16 (rows Oy.cells l2)))])++[some (.arr 0 4 0 [[.int .i64 a1.kind,.str a1.name,.sl false 1 16 (rows OC a1.words),.sl false 4 72 (rows Ox.cells a1.subs)]]),some (.arr 0 4 0 [[.int .i64 0,.str [],.OI,.OI]]),some (.arr 0 4 0 [[.int .i64 a1.kind,.str v26.1,.ref false (st.length+3) gt0 0 t0.length,.ref false (st.length+5) 0 0 0]]),some (.arr gt0 1 16 (rows OC t0)),some (.mps false (mrw OC c27)),some (.arr 0 4 72 (rows Ox.cells []))]) (Vi (by simp) (QX hsc (by simp<;>omega)) (.lv (.lv (.live _ _ _ _ (.arr _ _ _ _ _ (.cons _ _ _ _ (.cons _ _ _ _ .s (.cons _ _ _ _ .s (.cons _ _ _ _ .s (.cons _ _ _ _ (.nref _ _ _ _ _ _ (Pa.trans rfl)) .nil)))) (.same _))) (.lv (.lv (.lv (.nil _))))))) (by simp<;>omega) ⟨.s,.s,.s,.s,.s,.s,.s,trivial⟩ (by simp<;>omega)) ?_
    refine aln 67 fun hl1=>?_
    refine rng (body:=SE n a1 OQ m1 l2 c27) (kk:=SF a1 v26 t0) (n:=a1.subs.length) (s0:=(v26.2,[]))
     (fun(gs1:Nat) (k1:Nat) (s1:Int×(List Ox))=>[(0,.ptr o0 0 0 0),(2,.mp (st.length+4)),(6,.ptr (st.length+1) 0 0 0),(7,.ptr (st.length+2) 0 0 0),(67,.sl false 4 72 (rows Ox.cells a1.subs)),(68,.int .i64 (↑a1.subs.length:Int)),(69,.int .i64 (↑k1:Int))])
     (fun(gs1:Nat) (k1:Nat) (s1:Int×(List Ox))=>(OT st [(o0,(.arr 0 4 0 [[.sl false 11 216 (rows Oz.cells OQ),.mp o1,.ref false o2 q2 0 l2.length,.int .i64 s1.1]])),(o1,(.mps false (mrw Tw m1))),(o2,(.arr q2 2 16 (rows Oy.cells l2)))])++[none,some (.arr 0 4 0 [[.int .i64 0,.str [],.OI,.OI]]),some (.arr 0 4 0 [[.int .i64 a1.kind,.str v26.1,.ref false (st.length+3) gt0 0 t0.length,.ref false (st.length+5) gs1 0 s1.2.length]]),some (.arr gt0 1 16 (rows OC t0)),some (.mps false (mrw OC c27)),some (.arr gs1 4 72 (rows Ox.cells s1.2))])
     (fun(gt1:Nat) (t1:Int×(List Ox))=>[(6,.ptr (st.length+1) 0 0 0),(7,.ptr (st.length+2) 0 0 0)])
     (fun(gt1:Nat) (t1:Int×(List Ox))=>(OT st [(o0,(.arr 0 4 0 [[.sl false 11 216 (rows Oz.cells OQ),.mp o1,.ref false o2 q2 0 l2.length,.int .i64 t1.1]])),(o1,(.mps false (mrw Tw m1))),(o2,(.arr q2 2 16 (rows Oy.cells l2)))])++[none,some (.arr 0 4 0 [[.int .i64 0,.str [],.OI,.OI]]),some (.arr 0 4 0 [[.int .i64 a1.kind,.str v26.1,.ref false (st.length+3) gt0 0 t0.length,.ref false (st.length+5) gt1 0 t1.2.length]]),some (.arr gt0 1 16 (rows OC t0)),none,some (.arr gt1 4 72 (rows Ox.cells t1.2))])
     0 fx hl1 h (bu hsc)
     (fun gs1 k1 s1 b1 fx h hx1=>?_) (fun gs1 s1=>?_) (fun gt1 t1 fr1 st1 h hb=>?_)
    ·unfold SE at h
     refine ct ?_
     refine rn ?_
     refine dw [1,5] 2 ?_
     obtain⟨v37,hv37,h⟩:=Rs h
     refine WO [o0,o1,o2,(st.length+4)] (fun st2 h2=>(Zr n _ _ _ _ _ _ _ hv37 st2 o0 o1 o2 (st.length+4) q2 (by simp[fx]<;>omega) ((h2 _ (by simp)).trans (by simp only[go_sem,fx])) ((h2 _ (by simp)).trans (by simp only[go_sem,fx])) ((h2 _ (by simp)).trans (by simp only[go_sem,fx])) ((h2 _ (by simp)).trans (OZ.trans rfl)))) (by simp) (by simp only[List.mem_cons,List.not_mem_nil,or_false,forall_eq_or_imp,forall_eq];exact⟨⟨by first|omega|(simp<;>omega),_,(by simp only[go_sem,fx]<;>rfl),Ob.noConfusion⟩,⟨by first|omega|(simp<;>omega),_,(by simp only[go_sem,fx]<;>rfl),Ob.noConfusion⟩,⟨by first|omega|(simp<;>omega),_,(by simp only[go_sem,fx]<;>rfl),Ob.noConfusion⟩,⟨by first|omega|(simp<;>omega),_,(OZ.trans rfl),Ob.noConfusion⟩⟩) (by simp) ?_
     obtain⟨c39,i8f,h⟩:=Xg h
     have fy:=(show rows Ox.cells s1.2++[[.int .i64 v37.1.kind,.str v37.1.name,.sl false 1 16 (rows OC v37.1.words),.sl false 4 72 (rows Ox.cells v37.1.subs)]]=rows Ox.cells c39 from by rw[i8f];first|exact Pp (E:=Ox.cells) s1.2 [v37.1]|simp only[go_sem,rows,List.map_append,List.map_cons,List.map_nil])
     have fy:=fa fy (show s1.2.length+1=c39.length from by rw[i8f];simp)
     obtain⟨fx,h⟩:=ck fx h
     try simp only[go_sem,fx,fy]
     try refine⟨by first|omega|(simp<;>omega),?_⟩
     refine rn ?_
     cases h
     exact Vh (gs1+1) (bu hsc)
    ·refine cf ?_
     refine VK ?_;simp only[go_sem,fx]
     exact⟨gs1,(bu hsc)⟩
    ·try simp only[go_sem,fx]
     unfold SF at h
     refine Rj hb ?_
     refine rr ?_
     exact fuo (.agg [.int .i64 a1.kind,.str v26.1,.sl false 1 16 (rows OC t0),.sl false 4 72 (rows Ox.cells t1.2)]) (.agg _ _ (.cons _ _ _ _ .s (.cons _ _ _ _ .s (.cons _ _ _ _ (.ref _ _ _ _ _ _ _ _ _ (Pa.trans rfl) RP (by decide) (YP _) (by simp only[go_sem])) (.cons _ _ _ _ (.ref _ _ _ _ _ _ _ _ _ (Pa.trans rfl) RP (by decide) (YP _) (by simp only[go_sem])) .nil))))) h hsc
   ·refine r0 ?_
    refine r0 ?_
    (repeat apply sq_)
    refine RO 4 72 ?_
    try simp only[List.append_assoc,List.cons_append,List.nil_append]
    refine Rj (F:=[(0,.ptr o0 0 0 0),(2,.Xu),(6,.ptr (st.length+1) 0 0 0),(7,.ptr (st.length+2) 0 0 0),(67,.sl false 4 72 (rows Ox.cells a1.subs)),(68,.int .i64 (↑a1.subs.length:Int)),(69,.int .i64 0)]) (T:=(OT st [(o0,(.arr 0 4 0 [[.sl false 11 216 (rows Oz.cells OQ),.mp o1,.ref false o2 q2 0 l2.length,.int .i64 Ph]])),(o1,(.mps false (mrw Tw m1))),(o2,(.arr q2 2 16 (rows Oy.cells l2)))])++[some (.arr 0 4 0 [[.int .i64 a1.kind,.str a1.name,.sl false 1 16 (rows OC a1.words),.sl false 4 72 (rows Ox.cells a1.subs)]]),some (.arr 0 4 0 [[.int .i64 0,.str [],.OI,.OI]]),some (.arr 0 4 0 [[.int .i64 a1.kind,.str a1.name,.ref false (st.length+3) gt0 0 t0.length,.ref false (st.length+4) 0 0 0]]),some (.arr gt0 1 16 (rows OC t0)),some (.arr 0 4 72 (rows Ox.cells []))]) (Vi (by simp) (QX hsc (by simp<;>omega)) (.lv (.lv (.live _ _ _ _ (.arr _ _ _ _ _ (.cons _ _ _ _ (.cons _ _ _ _ .s (.cons _ _ _ _ .s (.cons _ _ _ _ .s (.cons _ _ _ _ (.nref _ _ _ _ _ _ (Pa.trans rfl)) .nil)))) (.same _))) (.lv (.lv (.nil _)))))) (by simp<;>omega) ⟨.s,.s,.s,.s,.s,.s,.s,trivial⟩ (by simp<;>omega)) ?_
    refine aln 67 fun hl2=>?_
    refine rng (body:=SG (Qz n) a1 OQ m1 l2) (kk:=SH a1 t0) (n:=a1.subs.length) (s0:=(Ph,[]))
     (fun(gs2:Nat) (k2:Nat) (s2:Int×(List Ox))=>[(0,.ptr o0 0 0 0),(2,.Xu),(6,.ptr (st.length+1) 0 0 0),(7,.ptr (st.length+2) 0 0 0),(67,.sl false 4 72 (rows Ox.cells a1.subs)),(68,.int .i64 (↑a1.subs.length:Int)),(69,.int .i64 (↑k2:Int))])
     (fun(gs2:Nat) (k2:Nat) (s2:Int×(List Ox))=>(OT st [(o0,(.arr 0 4 0 [[.sl false 11 216 (rows Oz.cells OQ),.mp o1,.ref false o2 q2 0 l2.length,.int .i64 s2.1]])),(o1,(.mps false (mrw Tw m1))),(o2,(.arr q2 2 16 (rows Oy.cells l2)))])++[none,some (.arr 0 4 0 [[.int .i64 0,.str [],.OI,.OI]]),some (.arr 0 4 0 [[.int .i64 a1.kind,.str a1.name,.ref false (st.length+3) gt0 0 t0.length,.ref false (st.length+4) gs2 0 s2.2.length]]),some (.arr gt0 1 16 (rows OC t0)),some (.arr gs2 4 72 (rows Ox.cells s2.2))])
     (fun(gt2:Nat) (t2:Int×(List Ox))=>[(6,.ptr (st.length+1) 0 0 0),(7,.ptr (st.length+2) 0 0 0)])
     (fun(gt2:Nat) (t2:Int×(List Ox))=>(OT st [(o0,(.arr 0 4 0 [[.sl false 11 216 (rows Oz.cells OQ),.mp o1,.ref false o2 q2 0 l2.length,.int .i64 t2.1]])),(o1,(.mps false (mrw Tw m1))),(o2,(.arr q2 2 16 (rows Oy.cells l2)))])++[none,some (.arr 0 4 0 [[.int .i64 0,.str [],.OI,.OI]]),some (.arr 0 4 0 [[.int .i64 a1.kind,.str a1.name,.ref false (st.length+3) gt0 0 t0.length,.ref false (st.length+4) gt2 0 t2.2.length]]),some (.arr gt0 1 16 (rows OC t0)),some (.arr gt2 4 72 (rows Ox.cells t2.2))])
     0 fx hl2 h (bu hsc)
     (fun gs2 k2 s2 b2 fx h hx2=>?_) (fun gs2 s2=>?_) (fun gt2 t2 fr1 st1 h hb=>?_)
    ·unfold SG at h
     refine ct ?_
     refine rn ?_
     refine dw [1,5] 2 ?_
     obtain⟨v51,hv51,h⟩:=Rs h
     refine WO [o0,o1,o2] (fun st2 h2=>(ih _ _ _ _ _ _ hv51 st2 _ _ _ q2 hnd ((h2 _ (by simp)).trans (by simp only[go_sem,fx])) ((h2 _ (by simp)).trans (by simp only[go_sem,fx])) ((h2 _ (by simp)).trans (by simp only[go_sem,fx])))) (by simp) (by simp only[List.mem_cons,List.not_mem_nil,or_false,forall_eq_or_imp,forall_eq];exact⟨⟨by first|omega|(simp<;>omega),_,(by simp only[go_sem,fx]<;>rfl),Ob.noConfusion⟩,⟨by first|omega|(simp<;>omega),_,(by simp only[go_sem,fx]<;>rfl),Ob.noConfusion⟩,⟨by first|omega|(simp<;>omega),_,(by simp only[go_sem,fx]<;>rfl),Ob.noConfusion⟩⟩) (by simp) ?_
     obtain⟨c53,p0K,h⟩:=Xg h
     have fy:=(show rows Ox.cells s2.2++[[.int .i64 v51.1.kind,.str v51.1.name,.sl false 1 16 (rows OC v51.1.words),.sl false 4 72 (rows Ox.cells v51.1.subs)]]=rows Ox.cells c53 from by rw[p0K];first|exact Pp (E:=Ox.cells) s2.2 [v51.1]|simp only[go_sem,rows,List.map_append,List.map_cons,List.map_nil])
     have fy:=fa fy (show s2.2.length+1=c53.length from by rw[p0K];simp)
     obtain⟨fx,h⟩:=ck fx h
     try simp only[go_sem,fx,fy]
     try refine⟨by first|omega|(simp<;>omega),?_⟩
     refine rn ?_
     cases h
     exact Vh (gs2+1) (bu hsc)
    ·refine cf ?_
     refine VK ?_;simp only[go_sem,fx]
     exact⟨gs2,(bu hsc)⟩
    ·try simp only[go_sem,fx]
     unfold SH at h
     refine Rj hb ?_
     refine rr ?_
     exact fuo (.agg [.int .i64 a1.kind,.str a1.name,.sl false 1 16 (rows OC t0),.sl false 4 72 (rows Ox.cells t2.2)]) (.agg _ _ (.cons _ _ _ _ .s (.cons _ _ _ _ .s (.cons _ _ _ _ (.ref _ _ _ _ _ _ _ _ _ (Pa.trans rfl) RP (by decide) (YP _) (by simp only[go_sem])) (.cons _ _ _ _ (.ref _ _ _ _ _ _ _ _ _ (Pa.trans rfl) RP (by decide) (YP _) (by simp only[go_sem])) .nil))))) h hsc
theorem ZO:∀(n:Nat) (a1:Ox) (a2:Bs) (OQ:(List Oz)) (Ph:Int) (m1:(List (Bs×Int))) (l2:(List Oy)) (r:(List (Bs×Int))) (h:QN n a1 a2 OQ Ph m1 l2=some r),∀(st:St) (o0 o1 o2 q2:Nat) (hnd: [o0,o1,o2].Nodup) (Qr:Am.look st o0=some (.arr 0 4 0 [[.sl false 11 216 (rows Oz.cells OQ),.mp o1,.ref false o2 q2 0 l2.length,.int .i64 Ph]])) (Sd:Am.look st o1=some (.mps false (mrw Tw m1))) (Tz:Am.look st o2=some (.arr q2 2 16 (rows Oy.cells l2))),Am.Spec Tryz.prog gl 64 [.ptr o0 0 0 0,.agg [.int .i64 a1.kind,.str a1.name,.sl false 1 16 (rows OC a1.words),.sl false 4 72 (rows Ox.cells a1.subs)],.str a2] st (fun d st'=>d= .tup []∧st'=puts st [(o0,(.arr 0 4 0 [[.sl false 11 216 (rows Oz.cells OQ),.mp o1,.ref false o2 q2 0 l2.length,.int .i64 Ph]])),(o1,(.mps false (mrw Tw r))),(o2,(.arr q2 2 16 (rows Oy.cells l2)))]):=by
 intro n
 induction n with
 |zero=>intro a1 a2 OQ Ph m1 l2 r h;cases h
 |succ n ih=>
  intro a1 a2 OQ Ph m1 l2 r h st o0 o1 o2 q2 hnd Qr Sd Tz
  unfold QN at h
  have ho0:=OM Qr
  have ho1:=OM Sd
  have ho2:=OM Tz
  have fx:=fa (fa (fa (idf ho0) (idf ho1)) (idf ho2)) (nd3 hnd)
  refine fb 34 [] [0,1,2,4,6,7,19,20,21,22] Tryz.func64 fun hsc=>?_
  refine SZ (s':=(OT st [(o0,(.arr 0 4 0 [[.sl false 11 216 (rows Oz.cells OQ),.mp o1,.ref false o2 q2 0 l2.length,.int .i64 Ph]])),(o1,(.mps false (mrw Tw m1))),(o2,(.arr q2 2 16 (rows Oy.cells l2)))])) (OW (by simp[Qr,Sd,Tz])) ?_
  refine rn ?_
  obtain⟨c1,hc1,h⟩:=Xg h
  have fy:=(show OU a2 [.int .i64 (↑m1.length:Int)] (mrw Tw m1)=mrw Tw c1 from by rw[hc1];exact XY (κ:=Bs) (E:=Tw) a2 (↑m1.length:Int) m1)
  refine dwy [] 0 ?_
  refine aln 19 fun hl0=>?_
  refine rng (body:=Sf (QN n) a2 a1 OQ Ph l2) (kk:=Sg) (n:=a1.subs.length) (s0:=c1)
   (fun(gs0:Unit) (k0:Nat) (s0:(List (Bs×Int)))=>[(0,.ptr o0 0 0 0),(2,.str a2),(19,.sl false 4 72 (rows Ox.cells a1.subs)),(20,.int .i64 (↑a1.subs.length:Int)),(21,.int .i64 (↑k0:Int))])
   (fun(gs0:Unit) (k0:Nat) (s0:(List (Bs×Int)))=>(OT st [(o0,(.arr 0 4 0 [[.sl false 11 216 (rows Oz.cells OQ),.mp o1,.ref false o2 q2 0 l2.length,.int .i64 Ph]])),(o1,(.mps false (mrw Tw s0))),(o2,(.arr q2 2 16 (rows Oy.cells l2)))]))
   (fun(gt0:Unit) (t0:(List (Bs×Int)))=>[])
   (fun(gt0:Unit) (t0:(List (Bs×Int)))=>(OT st [(o0,(.arr 0 4 0 [[.sl false 11 216 (rows Oz.cells OQ),.mp o1,.ref false o2 q2 0 l2.length,.int .i64 Ph]])),(o1,(.mps false (mrw Tw t0))),(o2,(.arr q2 2 16 (rows Oy.cells l2)))]))
   () fx hl0 h (bu0 hsc)
   (fun gs0 k0 s0 b0 fx h hx0=>?_) (fun gs0 s0=>?_) (fun gt0 t0 fr1 st1 h hb=>?_)
  ·unfold Sf at h
   refine ct ?_
   refine rn ?_
   refine dw [6] 0 ?_
   obtain⟨v6,hv6,h⟩:=Rs h
   refine TF (d1z _ _ hv6) ?_
   obtain⟨fx,h⟩:=ck fx h
   try simp only[go_sem,fx]
   obtain⟨v8,hv8,h⟩:=Rs h
   refine WO [o0,o1,o2] (fun st2 h2=>(ih _ _ _ _ _ _ _ hv8 st2 _ _ _ q2 hnd ((h2 _ (by simp)).trans (by simp only[go_sem,fx])) ((h2 _ (by simp)).trans (by simp only[go_sem,fx])) ((h2 _ (by simp)).trans (by simp only[go_sem,fx])))) (by simp) (by simp only[List.mem_cons,List.not_mem_nil,or_false,forall_eq_or_imp,forall_eq];exact⟨⟨by first|omega|(simp<;>omega),_,(by simp only[go_sem,fx]<;>rfl),Ob.noConfusion⟩,⟨by first|omega|(simp<;>omega),_,(by simp only[go_sem,fx]<;>rfl),Ob.noConfusion⟩,⟨by first|omega|(simp<;>omega),_,(by simp only[go_sem,fx]<;>rfl),Ob.noConfusion⟩⟩) (by simp) ?_
   try simp only[go_sem,fx]
   try refine⟨by first|omega|(simp<;>omega),?_⟩
   refine rn ?_
   cases h
   exact Vh () (bu0 hsc)
  ·refine cf ?_
   refine VK ?_;simp only[go_sem,fx]
   exact⟨(),(i0V hsc)⟩
  ·try simp only[go_sem,fx]
   unfold Sg at h
   refine d2q hb ?_
   refine rr ?_
   exact fus (.tup []) (.same _) h hsc
theorem d0n:∀(n:Nat) (a0:Ox) (a1:(List Bs)) (OQ:Int) (Qo:Bs) (Qp:(List Bs)) (Ph:(List Ox)) (Qi:(List Bs)) (Qn:(List Bs)) (Qq:(List Bs)) (r:Ox) (h:Ra n a0 a1 OQ Qo Qp Ph Qi Qn Qq=some r),∀(st:St) (o0 o1:Nat) (hnd: [o0,o1].Nodup) (Qr:Am.look st o0=some (.arr 0 7 0 [[.int .i64 OQ,.str Qo,.sl false 1 16 (rows OC Qp),.sl false 4 72 (rows Ox.cells Ph),.sl false 1 16 (rows OC Qi),.sl false 1 16 (rows OC Qn),.sl false 1 16 (rows OC Qq)]])) (Sd:Am.look st o1=some (.arr 0 1 0 [[.fn 140 [] [.ptr o0 0 0 0,.ptr o1 0 0 0]]])),Am.Spec Tryz.prog gl 140 [.agg [.int .i64 a0.kind,.str a0.name,.sl false 1 16 (rows OC a0.words),.sl false 4 72 (rows Ox.cells a0.subs)],.sl false 1 16 (rows OC a1),.ptr o0 0 0 0,.ptr o1 0 0 0] st (fun d st'=>d= .agg [.int .i64 r.kind,.str r.name,.sl false 1 16 (rows OC r.words),.sl false 4 72 (rows Ox.cells r.subs)]∧st'=puts st []):=by
 intro n
 induction n with
 |zero=>intro a0 a1 OQ Qo Qp Ph Qi Qn Qq r h;cases h
 |succ n ih=>
  intro a0 a1 OQ Qo Qp Ph Qi Qn Qq r h st o0 o1 hnd Qr Sd
  unfold Ra at h
  have ho0:=OM Qr
  have ho1:=OM Sd
  have fx:=fa (fa (idf ho0) (idf ho1)) (nd2 hnd)
  refine fb 98 [.cell 6 31] [0,1,2,3,4,6,7,9,11,18,19,20,21,24,30,44,57,65,70,71,72,73,74,81,82,83,84] Tryz.func140 fun hsc=>?_
  refine SZ (s':=(OT st [(o0,(.arr 0 7 0 [[.int .i64 OQ,.str Qo,.sl false 1 16 (rows OC Qp),.sl false 4 72 (rows Ox.cells Ph),.sl false 1 16 (rows OC Qi),.sl false 1 16 (rows OC Qn),.sl false 1 16 (rows OC Qq)]])),(o1,(.arr 0 1 0 [[.fn 140 [] [.ptr o0 0 0 0,.ptr o1 0 0 0]]]))])) (OW (by simp[Qr,Sd])) ?_
  refine r0 ?_
  refine r0 ?_
  refine r0 ?_
  (repeat apply sq_)
  refine RO 1 16 ?_
  try simp only[List.append_assoc,List.cons_append,List.nil_append]
  refine Rj (F:=[(1,.sl false 1 16 (rows OC a1)),(2,.ptr o0 0 0 0),(3,.ptr o1 0 0 0),(4,.ptr st.length 0 0 0),(6,.ptr (st.length+1) 0 0 0),(7,.ptr (st.length+2) 0 0 0),(18,.sl false 1 16 (rows OC a0.words)),(19,.int .i64 (↑a0.words.length:Int)),(20,.int .i64 0)]) (T:=(OT st [(o0,(.arr 0 7 0 [[.int .i64 OQ,.str Qo,.sl false 1 16 (rows OC Qp),.sl false 4 72 (rows Ox.cells Ph),.sl false 1 16 (rows OC Qi),.sl false 1 16 (rows OC Qn),.sl false 1 16 (rows OC Qq)]])),(o1,(.arr 0 1 0 [[.fn 140 [] [.ptr o0 0 0 0,.ptr o1 0 0 0]]]))])++[some (.arr 0 4 0 [[.int .i64 a0.kind,.str a0.name,.sl false 1 16 (rows OC a0.words),.sl false 4 72 (rows Ox.cells a0.subs)]]),some (.arr 0 4 0 [[.int .i64 0,.str [],.OI,.OI]]),some (.arr 0 4 0 [[.int .i64 a0.kind,.str a0.name,.ref false (st.length+3) 0 0 0,.OI]]),some (.arr 0 1 16 (rows OC []))]) (Vi (by simp) (QX hsc (by simp<;>omega)) (.lv (.lv (.live _ _ _ _ (.arr _ _ _ _ _ (.cons _ _ _ _ (.cons _ _ _ _ .s (.cons _ _ _ _ .s (.cons _ _ _ _ (.nref _ _ _ _ _ _ (Pa.trans rfl)) (.cons _ _ _ _ .s .nil)))) (.same _))) (.lv (.nil _))))) (by simp<;>omega) ⟨.s,.s,.s,.s,.s,.s,.s,.s,.s,trivial⟩ (by simp<;>omega)) ?_
  refine aln 18 fun hl0=>?_
  refine rng (body:=UE a1 a0 Qi) (kk:=UH (Ra n) a0 a1 OQ Qo Qp Ph Qi Qn Qq) (n:=a0.words.length) (s0:=[])
   (fun(gs0:Nat) (k0:Nat) (s0:(List Bs))=>[(1,.sl false 1 16 (rows OC a1)),(2,.ptr o0 0 0 0),(3,.ptr o1 0 0 0),(4,.ptr st.length 0 0 0),(6,.ptr (st.length+1) 0 0 0),(7,.ptr (st.length+2) 0 0 0),(18,.sl false 1 16 (rows OC a0.words)),(19,.int .i64 (↑a0.words.length:Int)),(20,.int .i64 (↑k0:Int))])
   (fun(gs0:Nat) (k0:Nat) (s0:(List Bs))=>(OT st [(o0,(.arr 0 7 0 [[.int .i64 OQ,.str Qo,.sl false 1 16 (rows OC Qp),.sl false 4 72 (rows Ox.cells Ph),.sl false 1 16 (rows OC Qi),.sl false 1 16 (rows OC Qn),.sl false 1 16 (rows OC Qq)]])),(o1,(.arr 0 1 0 [[.fn 140 [] [.ptr o0 0 0 0,.ptr o1 0 0 0]]]))])++[some (.arr 0 4 0 [[.int .i64 a0.kind,.str a0.name,.sl false 1 16 (rows OC a0.words),.sl false 4 72 (rows Ox.cells a0.subs)]]),some (.arr 0 4 0 [[.int .i64 0,.str [],.OI,.OI]]),some (.arr 0 4 0 [[.int .i64 a0.kind,.str a0.name,.ref false (st.length+3) gs0 0 s0.length,.OI]]),some (.arr gs0 1 16 (rows OC s0))])
   (fun(gt0:Nat) (t0:(List Bs))=>[(1,.sl false 1 16 (rows OC a1)),(2,.ptr o0 0 0 0),(3,.ptr o1 0 0 0),(4,.ptr st.length 0 0 0),(6,.ptr (st.length+1) 0 0 0),(7,.ptr (st.length+2) 0 0 0)])
   (fun(gt0:Nat) (t0:(List Bs))=>(OT st [(o0,(.arr 0 7 0 [[.int .i64 OQ,.str Qo,.sl false 1 16 (rows OC Qp),.sl false 4 72 (rows Ox.cells Ph),.sl false 1 16 (rows OC Qi),.sl false 1 16 (rows OC Qn),.sl false 1 16 (rows OC Qq)]])),(o1,(.arr 0 1 0 [[.fn 140 [] [.ptr o0 0 0 0,.ptr o1 0 0 0]]]))])++[some (.arr 0 4 0 [[.int .i64 a0.kind,.str a0.name,.sl false 1 16 (rows OC a0.words),.sl false 4 72 (rows Ox.cells a0.subs)]]),some (.arr 0 4 0 [[.int .i64 0,.str [],.OI,.OI]]),some (.arr 0 4 0 [[.int .i64 a0.kind,.str a0.name,.ref false (st.length+3) gt0 0 t0.length,.OI]]),some (.arr gt0 1 16 (rows OC t0))])
   0 fx hl0 h (bu hsc)
   (fun gs0 k0 s0 b0 fx h hx0=>?_) (fun gs0 s0=>?_) (fun gt0 t0 fr1 st1 h hb=>?_)
  ·unfold UE at h
   refine ct ?_
   refine cl h (OH _ _) fun v23 h=>?_
   refine cd h (fun hc h=>?_) fun hc h=>?_
   ·obtain⟨fx,h⟩:=ck fx h
    refine r0 ?_
    obtain⟨c26,i8g,h⟩:=Xg h
    have fy:=(show rows OC s0++[[.str (ZS [63] (get a0.words k0))]]=rows OC c26 from by rw[i8g];first|exact Pp (E:=OC) s0 [(ZS [63] (get a0.words k0))]|simp only[go_sem,rows,List.map_append,List.map_cons,List.map_nil])
    have fy:=fa fy (show s0.length+1=c26.length from by rw[i8g];simp)
    obtain⟨fx,h⟩:=ck fx h
    refine r1 ?_
    refine rn ?_
    cases h
    exact Vh (gs0+1) (bu hsc)
   ·refine cl h (OH _ _) fun v31 h=>?_
    refine cd h (fun hc h=>?_) fun hc h=>?_
    ·obtain⟨fx,h⟩:=ck fx h
     refine r0 ?_
     obtain⟨c34,p0L,h⟩:=Xg h
     have fy:=(show rows OC s0++[[.str (ZS [46] (get a0.words k0))]]=rows OC c34 from by rw[p0L];first|exact Pp (E:=OC) s0 [(ZS [46] (get a0.words k0))]|simp only[go_sem,rows,List.map_append,List.map_cons,List.map_nil])
     have fy:=fa fy (show s0.length+1=c34.length from by rw[p0L];simp)
     obtain⟨fx,h⟩:=ck fx h
     refine r1 ?_
     refine rn ?_
     cases h
     exact Vh (gs0+1) (bu hsc)
    ·refine r0 ?_
     obtain⟨c40,i8h,h⟩:=Xg h
     have fy:=(show rows OC s0++[[.str (get a0.words k0)]]=rows OC c40 from by rw[i8h];first|exact Pp (E:=OC) s0 [(get a0.words k0)]|simp only[go_sem,rows,List.map_append,List.map_cons,List.map_nil])
     have fy:=fa fy (show s0.length+1=c40.length from by rw[i8h];simp)
     obtain⟨fx,h⟩:=ck fx h
     refine r1 ?_
     refine rn ?_
     cases h
     exact Vh (gs0+1) (bu hsc)
  ·refine cf ?_
   refine VK ?_;simp only[go_sem,fx]
   exact⟨gs0,(bu hsc)⟩
  ·try simp only[go_sem,fx]
   unfold UH at h
   refine Rj hb ?_
   refine cl h (Pj _) fun v45 h=>?_
   refine rn ?_
   refine VN (QO (Ra n) a0 OQ Qo Qp Ph Qi Qn Qq t0) r (fun(gj1:Unit) (j1:Bs×(List Bs))=>[(1,.sl false 1 16 (rows OC j1.2)),(3,.ptr o1 0 0 0),(4,.ptr st.length 0 0 0),(6,.ptr (st.length+1) 0 0 0),(7,.ptr (st.length+2) 0 0 0)]) (fun(gj1:Unit) (j1:Bs×(List Bs))=>(OT st [(o0,(.arr 0 7 0 [[.int .i64 OQ,.str Qo,.sl false 1 16 (rows OC Qp),.sl false 4 72 (rows Ox.cells Ph),.sl false 1 16 (rows OC Qi),.sl false 1 16 (rows OC Qn),.sl false 1 16 (rows OC Qq)]])),(o1,(.arr 0 1 0 [[.fn 140 [] [.ptr o0 0 0 0,.ptr o1 0 0 0]]]))])++[some (.arr 0 4 0 [[.int .i64 a0.kind,.str a0.name,.sl false 1 16 (rows OC a0.words),.sl false 4 72 (rows Ox.cells a0.subs)]]),some (.arr 0 4 0 [[.int .i64 0,.str [],.OI,.OI]]),some (.arr 0 4 0 [[.int .i64 a0.kind,.str j1.1,.ref false (st.length+3) gt0 0 t0.length,.OI]]),some (.arr gt0 1 16 (rows OC t0))]) (fun gj1 j1 fr1 st1 h hb=>?_) (fun hj1=>?_)
   ·try simp only[go_sem,fx]
    unfold QO at h
    refine Rj hb ?_
    (repeat apply sq_)
    refine Rj (F:=[(1,.sl false 1 16 (rows OC j1.2)),(3,.ptr o1 0 0 0),(4,.ptr st.length 0 0 0),(6,.ptr (st.length+1) 0 0 0),(7,.ptr (st.length+2) 0 0 0)]) (T:=(OT st [(o0,(.arr 0 7 0 [[.int .i64 OQ,.str Qo,.sl false 1 16 (rows OC Qp),.sl false 4 72 (rows Ox.cells Ph),.sl false 1 16 (rows OC Qi),.sl false 1 16 (rows OC Qn),.sl false 1 16 (rows OC Qq)]])),(o1,(.arr 0 1 0 [[.fn 140 [] [.ptr o0 0 0 0,.ptr o1 0 0 0]]]))])++[some (.arr 0 4 0 [[.int .i64 a0.kind,.str a0.name,.sl false 1 16 (rows OC a0.words),.sl false 4 72 (rows Ox.cells a0.subs)]]),some (.arr 0 4 0 [[.int .i64 0,.str [],.OI,.OI]]),some (.arr 0 4 0 [[.int .i64 a0.kind,.str j1.1,.sl false 1 16 (rows OC t0),.OI]])]) (Vi (by simp) (QX hsc (by simp<;>omega)) (.lv (.lv (.live _ _ _ _ (.arr _ _ _ _ _ (.cons _ _ _ _ (.cons _ _ _ _ .s (.cons _ _ _ _ .s (.cons _ _ _ _ (.ref _ _ _ _ _ _ _ _ _ (Pa.trans rfl) (VU (by first|decide|simp)) (by decide) (YP _) (by simp only[go_sem])) (.cons _ _ _ _ .s .nil)))) (.same _))) (.nil _)))) (by simp<;>omega) ⟨.s,.s,.s,.s,.s,trivial⟩ (by simp<;>omega)) ?_
    refine r0 ?_
    (repeat apply sq_)
    refine RO 4 72 ?_
    try simp only[List.append_assoc,List.cons_append,List.nil_append]
    refine Rj (F:=[(1,.sl false 1 16 (rows OC j1.2)),(3,.ptr o1 0 0 0),(6,.ptr (st.length+1) 0 0 0),(7,.ptr (st.length+2) 0 0 0),(81,.sl false 4 72 (rows Ox.cells a0.subs)),(82,.int .i64 (↑a0.subs.length:Int)),(83,.int .i64 0)]) (T:=(OT st [(o0,(.arr 0 7 0 [[.int .i64 OQ,.str Qo,.sl false 1 16 (rows OC Qp),.sl false 4 72 (rows Ox.cells Ph),.sl false 1 16 (rows OC Qi),.sl false 1 16 (rows OC Qn),.sl false 1 16 (rows OC Qq)]])),(o1,(.arr 0 1 0 [[.fn 140 [] [.ptr o0 0 0 0,.ptr o1 0 0 0]]]))])++[some (.arr 0 4 0 [[.int .i64 a0.kind,.str a0.name,.sl false 1 16 (rows OC a0.words),.sl false 4 72 (rows Ox.cells a0.subs)]]),some (.arr 0 4 0 [[.int .i64 0,.str [],.OI,.OI]]),some (.arr 0 4 0 [[.int .i64 a0.kind,.str j1.1,.sl false 1 16 (rows OC t0),.ref false (st.length+3) 0 0 0]]),some (.arr 0 4 72 (rows Ox.cells []))]) (Vi (by simp) (QX hsc (by simp<;>omega)) (.lv (.lv (.live _ _ _ _ (.arr _ _ _ _ _ (.cons _ _ _ _ (.cons _ _ _ _ .s (.cons _ _ _ _ .s (.cons _ _ _ _ .s (.cons _ _ _ _ (.nref _ _ _ _ _ _ (Pa.trans rfl)) .nil)))) (.same _))) (.lv (.nil _))))) (by simp<;>omega) ⟨.s,.s,.s,.s,.s,.s,.s,trivial⟩ (by simp<;>omega)) ?_
    refine aln 81 fun hl2=>?_
    refine rng (body:=UF (Ra n) a0 j1 OQ Qo Qp Ph Qi Qn Qq) (kk:=UG a0 j1 t0) (n:=a0.subs.length) (s0:=[])
     (fun(gs2:Nat) (k2:Nat) (s2:(List Ox))=>[(1,.sl false 1 16 (rows OC j1.2)),(3,.ptr o1 0 0 0),(6,.ptr (st.length+1) 0 0 0),(7,.ptr (st.length+2) 0 0 0),(81,.sl false 4 72 (rows Ox.cells a0.subs)),(82,.int .i64 (↑a0.subs.length:Int)),(83,.int .i64 (↑k2:Int))])
     (fun(gs2:Nat) (k2:Nat) (s2:(List Ox))=>(OT st [(o0,(.arr 0 7 0 [[.int .i64 OQ,.str Qo,.sl false 1 16 (rows OC Qp),.sl false 4 72 (rows Ox.cells Ph),.sl false 1 16 (rows OC Qi),.sl false 1 16 (rows OC Qn),.sl false 1 16 (rows OC Qq)]])),(o1,(.arr 0 1 0 [[.fn 140 [] [.ptr o0 0 0 0,.ptr o1 0 0 0]]]))])++[none,some (.arr 0 4 0 [[.int .i64 0,.str [],.OI,.OI]]),some (.arr 0 4 0 [[.int .i64 a0.kind,.str j1.1,.sl false 1 16 (rows OC t0),.ref false (st.length+3) gs2 0 s2.length]]),some (.arr gs2 4 72 (rows Ox.cells s2))])
     (fun(gt2:Nat) (t2:(List Ox))=>[(6,.ptr (st.length+1) 0 0 0),(7,.ptr (st.length+2) 0 0 0)])
     (fun(gt2:Nat) (t2:(List Ox))=>(OT st [(o0,(.arr 0 7 0 [[.int .i64 OQ,.str Qo,.sl false 1 16 (rows OC Qp),.sl false 4 72 (rows Ox.cells Ph),.sl false 1 16 (rows OC Qi),.sl false 1 16 (rows OC Qn),.sl false 1 16 (rows OC Qq)]])),(o1,(.arr 0 1 0 [[.fn 140 [] [.ptr o0 0 0 0,.ptr o1 0 0 0]]]))])++[none,some (.arr 0 4 0 [[.int .i64 0,.str [],.OI,.OI]]),some (.arr 0 4 0 [[.int .i64 a0.kind,.str j1.1,.sl false 1 16 (rows OC t0),.ref false (st.length+3) gt2 0 t2.length]]),some (.arr gt2 4 72 (rows Ox.cells t2))])
     0 fx hl2 h (bu hsc)
     (fun gs2 k2 s2 b2 fx h hx2=>?_) (fun gs2 s2=>?_) (fun gt2 t2 fr1 st1 h hb=>?_)
    ·unfold UF at h
     refine ct ?_
     refine rn ?_
     refine dw [1,5] 2 ?_
     obtain⟨v65,hv65,h⟩:=Rs h
     refine WO [o0,o1] (fun st2 h2=>(ih _ _ _ _ _ _ _ _ _ _ hv65 st2 _ _ hnd ((h2 _ (by simp)).trans (by simp only[go_sem,fx])) ((h2 _ (by simp)).trans (by simp only[go_sem,fx])))) (by simp) (by simp only[List.mem_cons,List.not_mem_nil,or_false,forall_eq_or_imp,forall_eq];exact⟨⟨by first|omega|(simp<;>omega),_,(by simp only[go_sem,fx]<;>rfl),Ob.noConfusion⟩,⟨by first|omega|(simp<;>omega),_,(by simp only[go_sem,fx]<;>rfl),Ob.noConfusion⟩⟩) (by simp) ?_
     obtain⟨c67,p0M,h⟩:=Xg h
     have fy:=(show rows Ox.cells s2++[[.int .i64 v65.kind,.str v65.name,.sl false 1 16 (rows OC v65.words),.sl false 4 72 (rows Ox.cells v65.subs)]]=rows Ox.cells c67 from by rw[p0M];first|exact Pp (E:=Ox.cells) s2 [v65]|simp only[go_sem,rows,List.map_append,List.map_cons,List.map_nil])
     have fy:=fa fy (show s2.length+1=c67.length from by rw[p0M];simp)
     obtain⟨fx,h⟩:=ck fx h
     try simp only[go_sem,fx,fy]
     try refine⟨by first|omega|(simp<;>omega),?_⟩
     refine rn ?_
     cases h
     exact Vh (gs2+1) (bu hsc)
    ·refine cf ?_
     refine VK ?_;simp only[go_sem,fx]
     exact⟨gs2,(bu hsc)⟩
    ·try simp only[go_sem,fx]
     unfold UG at h
     refine Rj hb ?_
     refine rr ?_
     exact fuo (.agg [.int .i64 a0.kind,.str j1.1,.sl false 1 16 (rows OC t0),.sl false 4 72 (rows Ox.cells t2)]) (.agg _ _ (.cons _ _ _ _ .s (.cons _ _ _ _ .s (.cons _ _ _ _ .s (.cons _ _ _ _ (.ref _ _ _ _ _ _ _ _ _ (Pa.trans rfl) RP (by decide) (YP _) (by simp only[go_sem])) .nil))))) h hsc (hr:=by rintro rfl;exact⟨rfl,OW (by simp[Qr,Sd])⟩)
   ·refine cd h (fun hc h=>?_) fun hc h=>?_
    ·(repeat apply sq_)
     refine RO 1 16 ?_
     try simp only[List.append_assoc,List.cons_append,List.nil_append]
     refine Rj (F:=[(1,.sl false 1 16 (rows OC a1)),(2,.ptr o0 0 0 0),(3,.ptr o1 0 0 0),(4,.ptr st.length 0 0 0),(6,.ptr (st.length+1) 0 0 0),(7,.ptr (st.length+2) 0 0 0),(44,.bool v45)]) (T:=(OT st [(o0,(.arr 0 7 0 [[.int .i64 OQ,.str Qo,.sl false 1 16 (rows OC Qp),.sl false 4 72 (rows Ox.cells Ph),.sl false 1 16 (rows OC Qi),.sl false 1 16 (rows OC Qn),.sl false 1 16 (rows OC Qq)]])),(o1,(.arr 0 1 0 [[.fn 140 [] [.ptr o0 0 0 0,.ptr o1 0 0 0]]]))])++[some (.arr 0 4 0 [[.int .i64 a0.kind,.str a0.name,.sl false 1 16 (rows OC a0.words),.sl false 4 72 (rows Ox.cells a0.subs)]]),some (.arr 0 4 0 [[.int .i64 0,.str [],.OI,.OI]]),some (.arr 0 4 0 [[.int .i64 a0.kind,.str a0.name,.ref false (st.length+3) gt0 0 t0.length,.OI]]),some (.arr gt0 1 16 (rows OC t0)),some (.arr 0 1 16 (rows OC []))]) (Vi (by simp) (QX hsc (by simp<;>omega)) (.lv (.lv (.lv (.lv (.lv (.nil _)))))) (by simp<;>omega) ⟨.s,.s,.s,.s,.s,.s,.s,trivial⟩ (by simp<;>omega)) ?_
     refine rs ?_
     refine dw [1,3] 2 ?_
     obtain⟨v46,hv46,h⟩:=Rs h
     refine WO [(st.length+4)] (fun st2 h2=>(Qc _ _ _ hv46 st2 (st.length+4) 0 (by simp) ((h2 _ (by simp)).trans (OZ.trans rfl)))) (by simp) (by simp only[List.mem_cons,List.not_mem_nil,or_false,forall_eq_or_imp,forall_eq];exact⟨by first|omega|(simp<;>omega),_,(OZ.trans rfl),Ob.noConfusion⟩) (by simp) ?_
     obtain⟨c48,p0N,h⟩:=Xg h
     have fy:=(show rows OC v46++[[.str a0.name]]=rows OC c48 from by rw[p0N];first|exact Pp (E:=OC) v46 [a0.name]|simp only[go_sem,rows,List.map_append,List.map_cons,List.map_nil])
     have fy:=fa fy (show v46.length+1=c48.length from by rw[p0N];simp)
     obtain⟨fx,h⟩:=ck fx h
     try simp only[go_sem,fx,fy]
     try refine⟨by first|omega|(simp<;>omega),?_⟩
     obtain⟨fx,h⟩:=ck fx h
     refine r0 ?_
     refine hj1 () _ _ _ h ?_;exact(bu hsc (hf:=⟨.ref _ _ _ _ _ _ _ _ _ (Pa.trans rfl) (VU (by first|decide|simp)) (by decide) (YP _) (by simp only[go_sem]),.s,.s,.s,.s,trivial⟩))
    ·refine cl h (Rb _ _) fun v54 h=>?_
     refine cd h (fun hc h=>?_) fun hc h=>?_
     ·obtain⟨fx,h⟩:=ck fx h
      refine r0 ?_
      refine hj1 () _ _ _ h ?_;exact(bu hsc)
     ·refine rn ?_
      obtain⟨v56,hv56,h⟩:=Rs h
      refine TD (fun hG=>(OH _ _ _ (d5D hv56 (by simpa using hG)))) ?_
      refine cd h (fun hc h=>?_) fun hc h=>?_
      ·obtain⟨fx,h⟩:=ck fx h
       refine r0 ?_
       refine hj1 () _ _ _ h ?_;exact(bu hsc)
      ·refine r0 ?_
       refine hj1 () _ _ _ h ?_;exact(bu hsc)
end Go.Proofs.YtfacbpehlibilaaGreatDoor
