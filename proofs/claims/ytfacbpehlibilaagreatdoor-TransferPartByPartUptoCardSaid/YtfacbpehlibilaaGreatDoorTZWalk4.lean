import Derived.Test.YtfacbpehlibilaaGreatDoorTZWalk3
set_option linter.unusedVariables false
set_option linter.unusedSimpArgs false
set_option maxHeartbeats 2000000
set_option maxRecDepth 100000
namespace Go.Proofs.YtfacbpehlibilaaGreatDoor
open Go Go.Am
theorem mV:∀(n:Nat) (a1:u5) (B7:(List u6)) (D7:Int) (m1:(List (Bs×Int))) (l2:(List u7)) (r:u5×Int) (h:N9 n a1 B7 D7 m1 l2=some r),∀(st:St) (o0 o1 o2 q2:Nat) (hnd: [o0,o1,o2].Nodup) (M9:Am.look st o0=some (.arr 0 4 0 [[.sl false 11 216 (rows u6.cells B7),.mp o1,.ref false o2 q2 0 l2.length,.int .i64 D7]])) (Z6:Am.look st o1=some (.mps false (mrw bX m1))) (bY:Am.look st o2=some (.arr q2 2 16 (rows u7.cells l2))),Am.Spec Tryz.prog gl 63 [.ptr o0 0 0 0,.agg [.int .i64 a1.kind,.str a1.name,.sl false 1 16 (rows w7 a1.words),.sl false 4 72 (rows u5.cells a1.subs)],.iL] st (fun d st'=>d= .agg [.int .i64 r.1.kind,.str r.1.name,.sl false 1 16 (rows w7 r.1.words),.sl false 4 72 (rows u5.cells r.1.subs)]∧st'=puts st [(o0,(.arr 0 4 0 [[.sl false 11 216 (rows u6.cells B7),.mp o1,.ref false o2 q2 0 l2.length,.int .i64 r.2]])),(o1,(.mps false (mrw bX m1))),(o2,(.arr q2 2 16 (rows u7.cells l2)))]):=by
 intro n
 induction n with
 |zero=>intro a1 B7 D7 m1 l2 r h;cases h
 |succ n ih=>
  intro a1 B7 D7 m1 l2 r h st o0 o1 o2 q2 hnd M9 Z6 bY
  unfold N9 at h
  have ho0:=B3 M9
  have ho1:=B3 Z6
  have ho2:=B3 bY
  have fx:=fa (fa (fa (idf ho0) (idf ho1)) (idf ho2)) (nd3 hnd)
  refine fb 84 [.cell 6 31] [0,1,2,4,6,7,9,10,11,12,13,14,16,23,24,25,26,35,45,48,50,67,68,69,70] Tryz.func63 fun hsc=>?_
  refine bD (s':=(B8 st [(o0,(.arr 0 4 0 [[.sl false 11 216 (rows u6.cells B7),.mp o1,.ref false o2 q2 0 l2.length,.int .i64 D7]])),(o1,(.mps false (mrw bX m1))),(o2,(.arr q2 2 16 (rows u7.cells l2)))])) (C7 (by simp[M9,Z6,bY])) ?_
  refine r0 ?_
  refine r0 ?_
  refine r0 ?_
  (repeat apply sq_)
  refine W6 1 16 ?_
  try simp only[List.append_assoc,List.cons_append,List.nil_append]
  refine Q9 (F:=[(0,.ptr o0 0 0 0),(2,.iL),(4,.ptr st.length 0 0 0),(6,.ptr (st.length+1) 0 0 0),(7,.ptr (st.length+2) 0 0 0),(23,.sl false 1 16 (rows w7 a1.words)),(24,.int .i64 (↑a1.words.length:Int)),(25,.int .i64 0)]) (T:=(B8 st [(o0,(.arr 0 4 0 [[.sl false 11 216 (rows u6.cells B7),.mp o1,.ref false o2 q2 0 l2.length,.int .i64 D7]])),(o1,(.mps false (mrw bX m1))),(o2,(.arr q2 2 16 (rows u7.cells l2)))])++[some (.arr 0 4 0 [[.int .i64 a1.kind,.str a1.name,.sl false 1 16 (rows w7 a1.words),.sl false 4 72 (rows u5.cells a1.subs)]]),some (.arr 0 4 0 [[.int .i64 0,.str [],.A9,.A9]]),some (.arr 0 4 0 [[.int .i64 a1.kind,.str a1.name,.ref false (st.length+3) 0 0 0,.A9]]),some (.arr 0 1 16 (rows w7 []))]) (eG (by simp) (R6 hsc (by simp<;>omega)) (.lv (.lv (.live _ _ _ _ (.arr _ _ _ _ _ (.cons _ _ _ _ (.cons _ _ _ _ .s (.cons _ _ _ _ .s (.cons _ _ _ _ (.nref _ _ _ _ _ _ (D3.trans rfl)) (.cons _ _ _ _ .s .nil)))) (.same _))) (.lv (.nil _))))) (by simp<;>omega) ⟨.s,.s,.s,.s,.s,.s,.s,.s,trivial⟩ (by simp<;>omega)) ?_
  refine aln 23 fun hl0=>?_
  refine rng (body:=bk a1) (kk:=bn (N9 n) n a1 B7 D7 m1 l2) (n:=a1.words.length) (s0:=[])
   (fun(gs0:Nat) (k0:Nat) (s0:(List Bs))=>[(0,.ptr o0 0 0 0),(2,.iL),(4,.ptr st.length 0 0 0),(6,.ptr (st.length+1) 0 0 0),(7,.ptr (st.length+2) 0 0 0),(23,.sl false 1 16 (rows w7 a1.words)),(24,.int .i64 (↑a1.words.length:Int)),(25,.int .i64 (↑k0:Int))])
   (fun(gs0:Nat) (k0:Nat) (s0:(List Bs))=>(B8 st [(o0,(.arr 0 4 0 [[.sl false 11 216 (rows u6.cells B7),.mp o1,.ref false o2 q2 0 l2.length,.int .i64 D7]])),(o1,(.mps false (mrw bX m1))),(o2,(.arr q2 2 16 (rows u7.cells l2)))])++[some (.arr 0 4 0 [[.int .i64 a1.kind,.str a1.name,.sl false 1 16 (rows w7 a1.words),.sl false 4 72 (rows u5.cells a1.subs)]]),some (.arr 0 4 0 [[.int .i64 0,.str [],.A9,.A9]]),some (.arr 0 4 0 [[.int .i64 a1.kind,.str a1.name,.ref false (st.length+3) gs0 0 s0.length,.A9]]),some (.arr gs0 1 16 (rows w7 s0))])
   (fun(gt0:Nat) (t0:(List Bs))=>[(0,.ptr o0 0 0 0),(2,.iL),(4,.ptr st.length 0 0 0),(6,.ptr (st.length+1) 0 0 0),(7,.ptr (st.length+2) 0 0 0)])
   (fun(gt0:Nat) (t0:(List Bs))=>(B8 st [(o0,(.arr 0 4 0 [[.sl false 11 216 (rows u6.cells B7),.mp o1,.ref false o2 q2 0 l2.length,.int .i64 D7]])),(o1,(.mps false (mrw bX m1))),(o2,(.arr q2 2 16 (rows u7.cells l2)))])++[some (.arr 0 4 0 [[.int .i64 a1.kind,.str a1.name,.sl false 1 16 (rows w7 a1.words),.sl false 4 72 (rows u5.cells a1.subs)]]),some (.arr 0 4 0 [[.int .i64 0,.str [],.A9,.A9]]),some (.arr 0 4 0 [[.int .i64 a1.kind,.str a1.name,.ref false (st.length+3) gt0 0 t0.length,.A9]]),some (.arr gt0 1 16 (rows w7 t0))])
   0 fx hl0 h (bu hsc)
   (fun gs0 k0 s0 b0 fx h hx0=>?_) (fun gs0 s0=>?_) (fun gt0 t0 fr1 st1 h hb=>?_)
  ·unfold bk at h
   refine ct ?_
   refine cd h (fun hc h=>?_) fun hc h=>?_
   ·refine r0 ?_
    obtain⟨c14,LD,h⟩:=gX h
    have fy:=(show rows w7 s0++[[.str ([]:Bs)]]=rows w7 c14 from by rw[LD];first|exact E1 (E:=w7) s0 [([]:Bs)]|simp only[go_sem,rows,List.map_append,List.map_cons,List.map_nil])
    have fy:=fa fy (show s0.length+1=c14.length from by rw[LD];simp)
    obtain⟨fx,h⟩:=ck fx h
    refine r1 ?_
    refine rn ?_
    cases h
    exact eE (gs0+1) (bu hsc)
   ·refine r0 ?_
    obtain⟨c20,OW,h⟩:=gX h
    have fy:=(show rows w7 s0++[[.str (get a1.words k0)]]=rows w7 c20 from by rw[OW];first|exact E1 (E:=w7) s0 [(get a1.words k0)]|simp only[go_sem,rows,List.map_append,List.map_cons,List.map_nil])
    have fy:=fa fy (show s0.length+1=c20.length from by rw[OW];simp)
    obtain⟨fx,h⟩:=ck fx h
    refine r1 ?_
    refine rn ?_
    cases h
    exact eE (gs0+1) (bu hsc)
  ·refine cf ?_
   refine fA ?_;simp only[go_sem,fx]
   exact⟨gs0,(bu hsc)⟩
  ·try simp only[go_sem,fx]
   unfold bn at h
   refine Q9 hb ?_
   refine cl h (E0 _) fun v25 h=>?_
   refine cd h (fun hc h=>?_) fun hc h=>?_
   ·refine r0 ?_
    first|refine sq_ (uN (b:=47) (tI:=12) (tE:=2) (tk:=13) (tv:=14) (id2:=2) (id3:=3) (i1:=12) (i2:=13) (i3:=14) (i4:=15) (F:=[(0,.ptr o0 0 0 0),(4,.ptr st.length 0 0 0),(6,.ptr (st.length+1) 0 0 0),(7,.ptr (st.length+2) 0 0 0),(12,.mp (st.length+4))]) Tryz.underlying126 (by decide) rfl (by simp[Fr.leq,Fr.get]) rfl ?_)|refine uN (b:=47) (tI:=12) (tE:=2) (tk:=13) (tv:=14) (id2:=2) (id3:=3) (i1:=12) (i2:=13) (i3:=14) (i4:=15) (F:=[(0,.ptr o0 0 0 0),(4,.ptr st.length 0 0 0),(6,.ptr (st.length+1) 0 0 0),(7,.ptr (st.length+2) 0 0 0),(12,.mp (st.length+4))]) Tryz.underlying126 (by decide) rfl (by simp[Fr.leq,Fr.get]) rfl ?_
    try simp only[go_sem,fx]
    refine rn ?_
    obtain⟨v26,hv26,h⟩:=P8 h
    refine(fu _ _ _ _ _ hv26 _ _ _ _ q2 hnd (by simp only[go_sem,fx]) (by simp only[go_sem,fx]) (by simp only[go_sem,fx])).mono ?_
    rintro d1 st1 ⟨rfl,rfl⟩
    try simp only[go_sem,fx]
    obtain⟨c27,PG,h⟩:=gX h
    have fy:=(show [(a1.name,[.str v26.1])]=mrw w7 c27 from by rw[PG];exact jq (κ:=Bs) (E:=w7) a1.name v26.1 [])
    have fy:=fa fy (show B6 a1.name [.str v26.1] (mrw w7 [])=mrw w7 c27 from by rw[PG];exact jq (κ:=Bs) (E:=w7) a1.name v26.1 [])
    refine r1 ?_
    refine r0 ?_
    refine r0 ?_
    (repeat apply sq_)
    refine W6 4 72 ?_
    try simp only[List.append_assoc,List.cons_append,List.nil_append]
    refine Q9 (F:=[(0,.ptr o0 0 0 0),(2,.mp (st.length+4)),(6,.ptr (st.length+1) 0 0 0),(7,.ptr (st.length+2) 0 0 0),(67,.sl false 4 72 (rows u5.cells a1.subs)),(68,.int .i64 (↑a1.subs.length:Int)),(69,.int .i64 0)]) (T:=(B8 st [(o0,(.arr 0 4 0 [[.sl false 11 216 (rows u6.cells B7),.mp o1,.ref false o2 q2 0 l2.length,.int .i64 v26.2]])),(o1,(.mps false (mrw bX m1))),(o2,(.arr q2 2 16 (rows u7.cells l2)))])++[some (.arr 0 4 0 [[.int .i64 a1.kind,.str a1.name,.sl false 1 16 (rows w7 a1.words),.sl false 4 72 (rows u5.cells a1.subs)]]),some (.arr 0 4 0 [[.int .i64 0,.str [],.A9,.A9]]),some (.arr 0 4 0 [[.int .i64 a1.kind,.str v26.1,.ref false (st.length+3) gt0 0 t0.length,.ref false (st.length+5) 0 0 0]]),some (.arr gt0 1 16 (rows w7 t0)),some (.mps false (mrw w7 c27)),some (.arr 0 4 72 (rows u5.cells []))]) (eG (by simp) (R6 hsc (by simp<;>omega)) (.lv (.lv (.live _ _ _ _ (.arr _ _ _ _ _ (.cons _ _ _ _ (.cons _ _ _ _ .s (.cons _ _ _ _ .s (.cons _ _ _ _ .s (.cons _ _ _ _ (.nref _ _ _ _ _ _ (D3.trans rfl)) .nil)))) (.same _))) (.lv (.lv (.lv (.nil _))))))) (by simp<;>omega) ⟨.s,.s,.s,.s,.s,.s,.s,trivial⟩ (by simp<;>omega)) ?_
    refine aln 67 fun hl1=>?_
    refine rng (body:=bq n a1 B7 m1 l2 c27) (kk:=br a1 v26 t0) (n:=a1.subs.length) (s0:=(v26.2,[]))
     (fun(gs1:Nat) (k1:Nat) (s1:Int×(List u5))=>[(0,.ptr o0 0 0 0),(2,.mp (st.length+4)),(6,.ptr (st.length+1) 0 0 0),(7,.ptr (st.length+2) 0 0 0),(67,.sl false 4 72 (rows u5.cells a1.subs)),(68,.int .i64 (↑a1.subs.length:Int)),(69,.int .i64 (↑k1:Int))])
     (fun(gs1:Nat) (k1:Nat) (s1:Int×(List u5))=>(B8 st [(o0,(.arr 0 4 0 [[.sl false 11 216 (rows u6.cells B7),.mp o1,.ref false o2 q2 0 l2.length,.int .i64 s1.1]])),(o1,(.mps false (mrw bX m1))),(o2,(.arr q2 2 16 (rows u7.cells l2)))])++[none,some (.arr 0 4 0 [[.int .i64 0,.str [],.A9,.A9]]),some (.arr 0 4 0 [[.int .i64 a1.kind,.str v26.1,.ref false (st.length+3) gt0 0 t0.length,.ref false (st.length+5) gs1 0 s1.2.length]]),some (.arr gt0 1 16 (rows w7 t0)),some (.mps false (mrw w7 c27)),some (.arr gs1 4 72 (rows u5.cells s1.2))])
     (fun(gt1:Nat) (t1:Int×(List u5))=>[(6,.ptr (st.length+1) 0 0 0),(7,.ptr (st.length+2) 0 0 0)])
     (fun(gt1:Nat) (t1:Int×(List u5))=>(B8 st [(o0,(.arr 0 4 0 [[.sl false 11 216 (rows u6.cells B7),.mp o1,.ref false o2 q2 0 l2.length,.int .i64 t1.1]])),(o1,(.mps false (mrw bX m1))),(o2,(.arr q2 2 16 (rows u7.cells l2)))])++[none,some (.arr 0 4 0 [[.int .i64 0,.str [],.A9,.A9]]),some (.arr 0 4 0 [[.int .i64 a1.kind,.str v26.1,.ref false (st.length+3) gt0 0 t0.length,.ref false (st.length+5) gt1 0 t1.2.length]]),some (.arr gt0 1 16 (rows w7 t0)),none,some (.arr gt1 4 72 (rows u5.cells t1.2))])
     0 fx hl1 h (bu hsc)
     (fun gs1 k1 s1 b1 fx h hx1=>?_) (fun gs1 s1=>?_) (fun gt1 t1 fr1 st1 h hb=>?_)
    ·unfold bq at h
     refine ct ?_
     refine rn ?_
     refine dw [1,5] 2 ?_
     obtain⟨v37,hv37,h⟩:=P8 h
     refine gO [o0,o1,o2,(st.length+4)] (fun st2 h2=>(lu n _ _ _ _ _ _ _ hv37 st2 o0 o1 o2 (st.length+4) q2 (by simp[fx]<;>omega) ((h2 _ (by simp)).trans (by simp only[go_sem,fx])) ((h2 _ (by simp)).trans (by simp only[go_sem,fx])) ((h2 _ (by simp)).trans (by simp only[go_sem,fx])) ((h2 _ (by simp)).trans (D2.trans rfl)))) (by simp) (by simp only[List.mem_cons,List.not_mem_nil,or_false,forall_eq_or_imp,forall_eq];exact⟨⟨by first|omega|(simp<;>omega),_,(by simp only[go_sem,fx]<;>rfl),Ob.noConfusion⟩,⟨by first|omega|(simp<;>omega),_,(by simp only[go_sem,fx]<;>rfl),Ob.noConfusion⟩,⟨by first|omega|(simp<;>omega),_,(by simp only[go_sem,fx]<;>rfl),Ob.noConfusion⟩,⟨by first|omega|(simp<;>omega),_,(D2.trans rfl),Ob.noConfusion⟩⟩) (by simp) ?_
     obtain⟨c39,OX,h⟩:=gX h
     have fy:=(show rows u5.cells s1.2++[[.int .i64 v37.1.kind,.str v37.1.name,.sl false 1 16 (rows w7 v37.1.words),.sl false 4 72 (rows u5.cells v37.1.subs)]]=rows u5.cells c39 from by rw[OX];first|exact E1 (E:=u5.cells) s1.2 [v37.1]|simp only[go_sem,rows,List.map_append,List.map_cons,List.map_nil])
     have fy:=fa fy (show s1.2.length+1=c39.length from by rw[OX];simp)
     obtain⟨fx,h⟩:=ck fx h
     try simp only[go_sem,fx,fy]
     try refine⟨by first|omega|(simp<;>omega),?_⟩
     refine rn ?_
     cases h
     exact eE (gs1+1) (bu hsc)
    ·refine cf ?_
     refine fA ?_;simp only[go_sem,fx]
     exact⟨gs1,(bu hsc)⟩
    ·try simp only[go_sem,fx]
     unfold br at h
     refine Q9 hb ?_
     refine rr ?_
     exact fuo (.agg [.int .i64 a1.kind,.str v26.1,.sl false 1 16 (rows w7 t0),.sl false 4 72 (rows u5.cells t1.2)]) (.agg _ _ (.cons _ _ _ _ .s (.cons _ _ _ _ .s (.cons _ _ _ _ (.ref _ _ _ _ _ _ _ _ _ (D3.trans rfl) W7 (by decide) (jS _) (by simp only[go_sem])) (.cons _ _ _ _ (.ref _ _ _ _ _ _ _ _ _ (D3.trans rfl) W7 (by decide) (jS _) (by simp only[go_sem])) .nil))))) h hsc
   ·refine r0 ?_
    refine r0 ?_
    (repeat apply sq_)
    refine W6 4 72 ?_
    try simp only[List.append_assoc,List.cons_append,List.nil_append]
    refine Q9 (F:=[(0,.ptr o0 0 0 0),(2,.iL),(6,.ptr (st.length+1) 0 0 0),(7,.ptr (st.length+2) 0 0 0),(67,.sl false 4 72 (rows u5.cells a1.subs)),(68,.int .i64 (↑a1.subs.length:Int)),(69,.int .i64 0)]) (T:=(B8 st [(o0,(.arr 0 4 0 [[.sl false 11 216 (rows u6.cells B7),.mp o1,.ref false o2 q2 0 l2.length,.int .i64 D7]])),(o1,(.mps false (mrw bX m1))),(o2,(.arr q2 2 16 (rows u7.cells l2)))])++[some (.arr 0 4 0 [[.int .i64 a1.kind,.str a1.name,.sl false 1 16 (rows w7 a1.words),.sl false 4 72 (rows u5.cells a1.subs)]]),some (.arr 0 4 0 [[.int .i64 0,.str [],.A9,.A9]]),some (.arr 0 4 0 [[.int .i64 a1.kind,.str a1.name,.ref false (st.length+3) gt0 0 t0.length,.ref false (st.length+4) 0 0 0]]),some (.arr gt0 1 16 (rows w7 t0)),some (.arr 0 4 72 (rows u5.cells []))]) (eG (by simp) (R6 hsc (by simp<;>omega)) (.lv (.lv (.live _ _ _ _ (.arr _ _ _ _ _ (.cons _ _ _ _ (.cons _ _ _ _ .s (.cons _ _ _ _ .s (.cons _ _ _ _ .s (.cons _ _ _ _ (.nref _ _ _ _ _ _ (D3.trans rfl)) .nil)))) (.same _))) (.lv (.lv (.nil _)))))) (by simp<;>omega) ⟨.s,.s,.s,.s,.s,.s,.s,trivial⟩ (by simp<;>omega)) ?_
    refine aln 67 fun hl2=>?_
    refine rng (body:=bw (N9 n) a1 B7 m1 l2) (kk:=bA a1 t0) (n:=a1.subs.length) (s0:=(D7,[]))
     (fun(gs2:Nat) (k2:Nat) (s2:Int×(List u5))=>[(0,.ptr o0 0 0 0),(2,.iL),(6,.ptr (st.length+1) 0 0 0),(7,.ptr (st.length+2) 0 0 0),(67,.sl false 4 72 (rows u5.cells a1.subs)),(68,.int .i64 (↑a1.subs.length:Int)),(69,.int .i64 (↑k2:Int))])
     (fun(gs2:Nat) (k2:Nat) (s2:Int×(List u5))=>(B8 st [(o0,(.arr 0 4 0 [[.sl false 11 216 (rows u6.cells B7),.mp o1,.ref false o2 q2 0 l2.length,.int .i64 s2.1]])),(o1,(.mps false (mrw bX m1))),(o2,(.arr q2 2 16 (rows u7.cells l2)))])++[none,some (.arr 0 4 0 [[.int .i64 0,.str [],.A9,.A9]]),some (.arr 0 4 0 [[.int .i64 a1.kind,.str a1.name,.ref false (st.length+3) gt0 0 t0.length,.ref false (st.length+4) gs2 0 s2.2.length]]),some (.arr gt0 1 16 (rows w7 t0)),some (.arr gs2 4 72 (rows u5.cells s2.2))])
     (fun(gt2:Nat) (t2:Int×(List u5))=>[(6,.ptr (st.length+1) 0 0 0),(7,.ptr (st.length+2) 0 0 0)])
     (fun(gt2:Nat) (t2:Int×(List u5))=>(B8 st [(o0,(.arr 0 4 0 [[.sl false 11 216 (rows u6.cells B7),.mp o1,.ref false o2 q2 0 l2.length,.int .i64 t2.1]])),(o1,(.mps false (mrw bX m1))),(o2,(.arr q2 2 16 (rows u7.cells l2)))])++[none,some (.arr 0 4 0 [[.int .i64 0,.str [],.A9,.A9]]),some (.arr 0 4 0 [[.int .i64 a1.kind,.str a1.name,.ref false (st.length+3) gt0 0 t0.length,.ref false (st.length+4) gt2 0 t2.2.length]]),some (.arr gt0 1 16 (rows w7 t0)),some (.arr gt2 4 72 (rows u5.cells t2.2))])
     0 fx hl2 h (bu hsc)
     (fun gs2 k2 s2 b2 fx h hx2=>?_) (fun gs2 s2=>?_) (fun gt2 t2 fr1 st1 h hb=>?_)
    ·unfold bw at h
     refine ct ?_
     refine rn ?_
     refine dw [1,5] 2 ?_
     obtain⟨v51,hv51,h⟩:=P8 h
     refine gO [o0,o1,o2] (fun st2 h2=>(ih _ _ _ _ _ _ hv51 st2 _ _ _ q2 hnd ((h2 _ (by simp)).trans (by simp only[go_sem,fx])) ((h2 _ (by simp)).trans (by simp only[go_sem,fx])) ((h2 _ (by simp)).trans (by simp only[go_sem,fx])))) (by simp) (by simp only[List.mem_cons,List.not_mem_nil,or_false,forall_eq_or_imp,forall_eq];exact⟨⟨by first|omega|(simp<;>omega),_,(by simp only[go_sem,fx]<;>rfl),Ob.noConfusion⟩,⟨by first|omega|(simp<;>omega),_,(by simp only[go_sem,fx]<;>rfl),Ob.noConfusion⟩,⟨by first|omega|(simp<;>omega),_,(by simp only[go_sem,fx]<;>rfl),Ob.noConfusion⟩⟩) (by simp) ?_
     obtain⟨c53,Sf,h⟩:=gX h
     have fy:=(show rows u5.cells s2.2++[[.int .i64 v51.1.kind,.str v51.1.name,.sl false 1 16 (rows w7 v51.1.words),.sl false 4 72 (rows u5.cells v51.1.subs)]]=rows u5.cells c53 from by rw[Sf];first|exact E1 (E:=u5.cells) s2.2 [v51.1]|simp only[go_sem,rows,List.map_append,List.map_cons,List.map_nil])
     have fy:=fa fy (show s2.2.length+1=c53.length from by rw[Sf];simp)
     obtain⟨fx,h⟩:=ck fx h
     try simp only[go_sem,fx,fy]
     try refine⟨by first|omega|(simp<;>omega),?_⟩
     refine rn ?_
     cases h
     exact eE (gs2+1) (bu hsc)
    ·refine cf ?_
     refine fA ?_;simp only[go_sem,fx]
     exact⟨gs2,(bu hsc)⟩
    ·try simp only[go_sem,fx]
     unfold bA at h
     refine Q9 hb ?_
     refine rr ?_
     exact fuo (.agg [.int .i64 a1.kind,.str a1.name,.sl false 1 16 (rows w7 t0),.sl false 4 72 (rows u5.cells t2.2)]) (.agg _ _ (.cons _ _ _ _ .s (.cons _ _ _ _ .s (.cons _ _ _ _ (.ref _ _ _ _ _ _ _ _ _ (D3.trans rfl) W7 (by decide) (jS _) (by simp only[go_sem])) (.cons _ _ _ _ (.ref _ _ _ _ _ _ _ _ _ (D3.trans rfl) W7 (by decide) (jS _) (by simp only[go_sem])) .nil))))) h hsc
theorem lY:∀(n:Nat) (a1:u5) (a2:Bs) (B7:(List u6)) (D7:Int) (m1:(List (Bs×Int))) (l2:(List u7)) (r:(List (Bs×Int))) (h:P1 n a1 a2 B7 D7 m1 l2=some r),∀(st:St) (o0 o1 o2 q2:Nat) (hnd: [o0,o1,o2].Nodup) (M9:Am.look st o0=some (.arr 0 4 0 [[.sl false 11 216 (rows u6.cells B7),.mp o1,.ref false o2 q2 0 l2.length,.int .i64 D7]])) (Z6:Am.look st o1=some (.mps false (mrw bX m1))) (bY:Am.look st o2=some (.arr q2 2 16 (rows u7.cells l2))),Am.Spec Tryz.prog gl 64 [.ptr o0 0 0 0,.agg [.int .i64 a1.kind,.str a1.name,.sl false 1 16 (rows w7 a1.words),.sl false 4 72 (rows u5.cells a1.subs)],.str a2] st (fun d st'=>d= .tup []∧st'=puts st [(o0,(.arr 0 4 0 [[.sl false 11 216 (rows u6.cells B7),.mp o1,.ref false o2 q2 0 l2.length,.int .i64 D7]])),(o1,(.mps false (mrw bX r))),(o2,(.arr q2 2 16 (rows u7.cells l2)))]):=by
 intro n
 induction n with
 |zero=>intro a1 a2 B7 D7 m1 l2 r h;cases h
 |succ n ih=>
  intro a1 a2 B7 D7 m1 l2 r h st o0 o1 o2 q2 hnd M9 Z6 bY
  unfold P1 at h
  have ho0:=B3 M9
  have ho1:=B3 Z6
  have ho2:=B3 bY
  have fx:=fa (fa (fa (idf ho0) (idf ho1)) (idf ho2)) (nd3 hnd)
  refine fb 34 [] [0,1,2,4,6,7,19,20,21,22] Tryz.func64 fun hsc=>?_
  refine bD (s':=(B8 st [(o0,(.arr 0 4 0 [[.sl false 11 216 (rows u6.cells B7),.mp o1,.ref false o2 q2 0 l2.length,.int .i64 D7]])),(o1,(.mps false (mrw bX m1))),(o2,(.arr q2 2 16 (rows u7.cells l2)))])) (C7 (by simp[M9,Z6,bY])) ?_
  refine rn ?_
  obtain⟨c1,hc1,h⟩:=gX h
  have fy:=(show B6 a2 [.int .i64 (↑m1.length:Int)] (mrw bX m1)=mrw bX c1 from by rw[hc1];exact jq (κ:=Bs) (E:=bX) a2 (↑m1.length:Int) m1)
  refine dwy [] 0 ?_
  refine aln 19 fun hl0=>?_
  refine rng (body:=aq (P1 n) a2 a1 B7 D7 l2) (kk:=au) (n:=a1.subs.length) (s0:=c1)
   (fun(gs0:Unit) (k0:Nat) (s0:(List (Bs×Int)))=>[(0,.ptr o0 0 0 0),(2,.str a2),(19,.sl false 4 72 (rows u5.cells a1.subs)),(20,.int .i64 (↑a1.subs.length:Int)),(21,.int .i64 (↑k0:Int))])
   (fun(gs0:Unit) (k0:Nat) (s0:(List (Bs×Int)))=>(B8 st [(o0,(.arr 0 4 0 [[.sl false 11 216 (rows u6.cells B7),.mp o1,.ref false o2 q2 0 l2.length,.int .i64 D7]])),(o1,(.mps false (mrw bX s0))),(o2,(.arr q2 2 16 (rows u7.cells l2)))]))
   (fun(gt0:Unit) (t0:(List (Bs×Int)))=>[])
   (fun(gt0:Unit) (t0:(List (Bs×Int)))=>(B8 st [(o0,(.arr 0 4 0 [[.sl false 11 216 (rows u6.cells B7),.mp o1,.ref false o2 q2 0 l2.length,.int .i64 D7]])),(o1,(.mps false (mrw bX t0))),(o2,(.arr q2 2 16 (rows u7.cells l2)))]))
   () fx hl0 h (bu0 hsc)
   (fun gs0 k0 s0 b0 fx h hx0=>?_) (fun gs0 s0=>?_) (fun gt0 t0 fr1 st1 h hb=>?_)
  ·unfold aq at h
   refine ct ?_
   refine rn ?_
   refine dw [6] 0 ?_
   obtain⟨v6,hv6,h⟩:=P8 h
   refine cj (pI _ _ hv6) ?_
   obtain⟨fx,h⟩:=ck fx h
   try simp only[go_sem,fx]
   obtain⟨v8,hv8,h⟩:=P8 h
   refine gO [o0,o1,o2] (fun st2 h2=>(ih _ _ _ _ _ _ _ hv8 st2 _ _ _ q2 hnd ((h2 _ (by simp)).trans (by simp only[go_sem,fx])) ((h2 _ (by simp)).trans (by simp only[go_sem,fx])) ((h2 _ (by simp)).trans (by simp only[go_sem,fx])))) (by simp) (by simp only[List.mem_cons,List.not_mem_nil,or_false,forall_eq_or_imp,forall_eq];exact⟨⟨by first|omega|(simp<;>omega),_,(by simp only[go_sem,fx]<;>rfl),Ob.noConfusion⟩,⟨by first|omega|(simp<;>omega),_,(by simp only[go_sem,fx]<;>rfl),Ob.noConfusion⟩,⟨by first|omega|(simp<;>omega),_,(by simp only[go_sem,fx]<;>rfl),Ob.noConfusion⟩⟩) (by simp) ?_
   try simp only[go_sem,fx]
   try refine⟨by first|omega|(simp<;>omega),?_⟩
   refine rn ?_
   cases h
   exact eE () (bu0 hsc)
  ·refine cf ?_
   refine fA ?_;simp only[go_sem,fx]
   exact⟨(),(Fh hsc)⟩
  ·try simp only[go_sem,fx]
   unfold au at h
   refine qE hb ?_
   refine rr ?_
   exact fus (.tup []) (.same _) h hsc
theorem mW:∀(n:Nat) (a0:u5) (a1:(List Bs)) (B7:Int) (M6:Bs) (M7:(List Bs)) (D7:(List u5)) (L3:(List Bs)) (M4:(List Bs)) (M8:(List Bs)) (r:u5) (h:J3 n a0 a1 B7 M6 M7 D7 L3 M4 M8=some r),∀(st:St) (o0 o1:Nat) (hnd: [o0,o1].Nodup) (M9:Am.look st o0=some (.arr 0 7 0 [[.int .i64 B7,.str M6,.sl false 1 16 (rows w7 M7),.sl false 4 72 (rows u5.cells D7),.sl false 1 16 (rows w7 L3),.sl false 1 16 (rows w7 M4),.sl false 1 16 (rows w7 M8)]])) (Z6:Am.look st o1=some (.arr 0 1 0 [[.fn 140 [] [.ptr o0 0 0 0,.ptr o1 0 0 0]]])),Am.Spec Tryz.prog gl 140 [.agg [.int .i64 a0.kind,.str a0.name,.sl false 1 16 (rows w7 a0.words),.sl false 4 72 (rows u5.cells a0.subs)],.sl false 1 16 (rows w7 a1),.ptr o0 0 0 0,.ptr o1 0 0 0] st (fun d st'=>d= .agg [.int .i64 r.kind,.str r.name,.sl false 1 16 (rows w7 r.words),.sl false 4 72 (rows u5.cells r.subs)]∧st'=puts st []):=by
 intro n
 induction n with
 |zero=>intro a0 a1 B7 M6 M7 D7 L3 M4 M8 r h;cases h
 |succ n ih=>
  intro a0 a1 B7 M6 M7 D7 L3 M4 M8 r h st o0 o1 hnd M9 Z6
  unfold J3 at h
  have ho0:=B3 M9
  have ho1:=B3 Z6
  have fx:=fa (fa (idf ho0) (idf ho1)) (nd2 hnd)
  refine fb 98 [.cell 6 31] [0,1,2,3,4,6,7,9,11,18,19,20,21,24,30,44,57,65,70,71,72,73,74,81,82,83,84] Tryz.func140 fun hsc=>?_
  refine bD (s':=(B8 st [(o0,(.arr 0 7 0 [[.int .i64 B7,.str M6,.sl false 1 16 (rows w7 M7),.sl false 4 72 (rows u5.cells D7),.sl false 1 16 (rows w7 L3),.sl false 1 16 (rows w7 M4),.sl false 1 16 (rows w7 M8)]])),(o1,(.arr 0 1 0 [[.fn 140 [] [.ptr o0 0 0 0,.ptr o1 0 0 0]]]))])) (C7 (by simp[M9,Z6])) ?_
  refine r0 ?_
  refine r0 ?_
  refine r0 ?_
  (repeat apply sq_)
  refine W6 1 16 ?_
  try simp only[List.append_assoc,List.cons_append,List.nil_append]
  refine Q9 (F:=[(1,.sl false 1 16 (rows w7 a1)),(2,.ptr o0 0 0 0),(3,.ptr o1 0 0 0),(4,.ptr st.length 0 0 0),(6,.ptr (st.length+1) 0 0 0),(7,.ptr (st.length+2) 0 0 0),(18,.sl false 1 16 (rows w7 a0.words)),(19,.int .i64 (↑a0.words.length:Int)),(20,.int .i64 0)]) (T:=(B8 st [(o0,(.arr 0 7 0 [[.int .i64 B7,.str M6,.sl false 1 16 (rows w7 M7),.sl false 4 72 (rows u5.cells D7),.sl false 1 16 (rows w7 L3),.sl false 1 16 (rows w7 M4),.sl false 1 16 (rows w7 M8)]])),(o1,(.arr 0 1 0 [[.fn 140 [] [.ptr o0 0 0 0,.ptr o1 0 0 0]]]))])++[some (.arr 0 4 0 [[.int .i64 a0.kind,.str a0.name,.sl false 1 16 (rows w7 a0.words),.sl false 4 72 (rows u5.cells a0.subs)]]),some (.arr 0 4 0 [[.int .i64 0,.str [],.A9,.A9]]),some (.arr 0 4 0 [[.int .i64 a0.kind,.str a0.name,.ref false (st.length+3) 0 0 0,.A9]]),some (.arr 0 1 16 (rows w7 []))]) (eG (by simp) (R6 hsc (by simp<;>omega)) (.lv (.lv (.live _ _ _ _ (.arr _ _ _ _ _ (.cons _ _ _ _ (.cons _ _ _ _ .s (.cons _ _ _ _ .s (.cons _ _ _ _ (.nref _ _ _ _ _ _ (D3.trans rfl)) (.cons _ _ _ _ .s .nil)))) (.same _))) (.lv (.nil _))))) (by simp<;>omega) ⟨.s,.s,.s,.s,.s,.s,.s,.s,.s,trivial⟩ (by simp<;>omega)) ?_
  refine aln 18 fun hl0=>?_
  refine rng (body:=aY a1 a0 L3) (kk:=bg (J3 n) a0 a1 B7 M6 M7 D7 L3 M4 M8) (n:=a0.words.length) (s0:=[])
   (fun(gs0:Nat) (k0:Nat) (s0:(List Bs))=>[(1,.sl false 1 16 (rows w7 a1)),(2,.ptr o0 0 0 0),(3,.ptr o1 0 0 0),(4,.ptr st.length 0 0 0),(6,.ptr (st.length+1) 0 0 0),(7,.ptr (st.length+2) 0 0 0),(18,.sl false 1 16 (rows w7 a0.words)),(19,.int .i64 (↑a0.words.length:Int)),(20,.int .i64 (↑k0:Int))])
   (fun(gs0:Nat) (k0:Nat) (s0:(List Bs))=>(B8 st [(o0,(.arr 0 7 0 [[.int .i64 B7,.str M6,.sl false 1 16 (rows w7 M7),.sl false 4 72 (rows u5.cells D7),.sl false 1 16 (rows w7 L3),.sl false 1 16 (rows w7 M4),.sl false 1 16 (rows w7 M8)]])),(o1,(.arr 0 1 0 [[.fn 140 [] [.ptr o0 0 0 0,.ptr o1 0 0 0]]]))])++[some (.arr 0 4 0 [[.int .i64 a0.kind,.str a0.name,.sl false 1 16 (rows w7 a0.words),.sl false 4 72 (rows u5.cells a0.subs)]]),some (.arr 0 4 0 [[.int .i64 0,.str [],.A9,.A9]]),some (.arr 0 4 0 [[.int .i64 a0.kind,.str a0.name,.ref false (st.length+3) gs0 0 s0.length,.A9]]),some (.arr gs0 1 16 (rows w7 s0))])
   (fun(gt0:Nat) (t0:(List Bs))=>[(1,.sl false 1 16 (rows w7 a1)),(2,.ptr o0 0 0 0),(3,.ptr o1 0 0 0),(4,.ptr st.length 0 0 0),(6,.ptr (st.length+1) 0 0 0),(7,.ptr (st.length+2) 0 0 0)])
   (fun(gt0:Nat) (t0:(List Bs))=>(B8 st [(o0,(.arr 0 7 0 [[.int .i64 B7,.str M6,.sl false 1 16 (rows w7 M7),.sl false 4 72 (rows u5.cells D7),.sl false 1 16 (rows w7 L3),.sl false 1 16 (rows w7 M4),.sl false 1 16 (rows w7 M8)]])),(o1,(.arr 0 1 0 [[.fn 140 [] [.ptr o0 0 0 0,.ptr o1 0 0 0]]]))])++[some (.arr 0 4 0 [[.int .i64 a0.kind,.str a0.name,.sl false 1 16 (rows w7 a0.words),.sl false 4 72 (rows u5.cells a0.subs)]]),some (.arr 0 4 0 [[.int .i64 0,.str [],.A9,.A9]]),some (.arr 0 4 0 [[.int .i64 a0.kind,.str a0.name,.ref false (st.length+3) gt0 0 t0.length,.A9]]),some (.arr gt0 1 16 (rows w7 t0))])
   0 fx hl0 h (bu hsc)
   (fun gs0 k0 s0 b0 fx h hx0=>?_) (fun gs0 s0=>?_) (fun gt0 t0 fr1 st1 h hb=>?_)
  ·unfold aY at h
   refine ct ?_
   refine cl h (A8 _ _) fun v23 h=>?_
   refine cd h (fun hc h=>?_) fun hc h=>?_
   ·obtain⟨fx,h⟩:=ck fx h
    refine r0 ?_
    obtain⟨c26,OY,h⟩:=gX h
    have fy:=(show rows w7 s0++[[.str (lP [63] (get a0.words k0))]]=rows w7 c26 from by rw[OY];first|exact E1 (E:=w7) s0 [(lP [63] (get a0.words k0))]|simp only[go_sem,rows,List.map_append,List.map_cons,List.map_nil])
    have fy:=fa fy (show s0.length+1=c26.length from by rw[OY];simp)
    obtain⟨fx,h⟩:=ck fx h
    refine r1 ?_
    refine rn ?_
    cases h
    exact eE (gs0+1) (bu hsc)
   ·refine cl h (A8 _ _) fun v31 h=>?_
    refine cd h (fun hc h=>?_) fun hc h=>?_
    ·obtain⟨fx,h⟩:=ck fx h
     refine r0 ?_
     obtain⟨c34,Sg,h⟩:=gX h
     have fy:=(show rows w7 s0++[[.str (lP [46] (get a0.words k0))]]=rows w7 c34 from by rw[Sg];first|exact E1 (E:=w7) s0 [(lP [46] (get a0.words k0))]|simp only[go_sem,rows,List.map_append,List.map_cons,List.map_nil])
     have fy:=fa fy (show s0.length+1=c34.length from by rw[Sg];simp)
     obtain⟨fx,h⟩:=ck fx h
     refine r1 ?_
     refine rn ?_
     cases h
     exact eE (gs0+1) (bu hsc)
    ·refine r0 ?_
     obtain⟨c40,OZ,h⟩:=gX h
     have fy:=(show rows w7 s0++[[.str (get a0.words k0)]]=rows w7 c40 from by rw[OZ];first|exact E1 (E:=w7) s0 [(get a0.words k0)]|simp only[go_sem,rows,List.map_append,List.map_cons,List.map_nil])
     have fy:=fa fy (show s0.length+1=c40.length from by rw[OZ];simp)
     obtain⟨fx,h⟩:=ck fx h
     refine r1 ?_
     refine rn ?_
     cases h
     exact eE (gs0+1) (bu hsc)
  ·refine cf ?_
   refine fA ?_;simp only[go_sem,fx]
   exact⟨gs0,(bu hsc)⟩
  ·try simp only[go_sem,fx]
   unfold bg at h
   refine Q9 hb ?_
   refine cl h (E0 _) fun v45 h=>?_
   refine rn ?_
   refine eC (I8 (J3 n) a0 B7 M6 M7 D7 L3 M4 M8 t0) r (fun(gj1:Unit) (j1:Bs×(List Bs))=>[(1,.sl false 1 16 (rows w7 j1.2)),(3,.ptr o1 0 0 0),(4,.ptr st.length 0 0 0),(6,.ptr (st.length+1) 0 0 0),(7,.ptr (st.length+2) 0 0 0)]) (fun(gj1:Unit) (j1:Bs×(List Bs))=>(B8 st [(o0,(.arr 0 7 0 [[.int .i64 B7,.str M6,.sl false 1 16 (rows w7 M7),.sl false 4 72 (rows u5.cells D7),.sl false 1 16 (rows w7 L3),.sl false 1 16 (rows w7 M4),.sl false 1 16 (rows w7 M8)]])),(o1,(.arr 0 1 0 [[.fn 140 [] [.ptr o0 0 0 0,.ptr o1 0 0 0]]]))])++[some (.arr 0 4 0 [[.int .i64 a0.kind,.str a0.name,.sl false 1 16 (rows w7 a0.words),.sl false 4 72 (rows u5.cells a0.subs)]]),some (.arr 0 4 0 [[.int .i64 0,.str [],.A9,.A9]]),some (.arr 0 4 0 [[.int .i64 a0.kind,.str j1.1,.ref false (st.length+3) gt0 0 t0.length,.A9]]),some (.arr gt0 1 16 (rows w7 t0))]) (fun gj1 j1 fr1 st1 h hb=>?_) (fun hj1=>?_)
   ·try simp only[go_sem,fx]
    unfold I8 at h
    refine Q9 hb ?_
    (repeat apply sq_)
    refine Q9 (F:=[(1,.sl false 1 16 (rows w7 j1.2)),(3,.ptr o1 0 0 0),(4,.ptr st.length 0 0 0),(6,.ptr (st.length+1) 0 0 0),(7,.ptr (st.length+2) 0 0 0)]) (T:=(B8 st [(o0,(.arr 0 7 0 [[.int .i64 B7,.str M6,.sl false 1 16 (rows w7 M7),.sl false 4 72 (rows u5.cells D7),.sl false 1 16 (rows w7 L3),.sl false 1 16 (rows w7 M4),.sl false 1 16 (rows w7 M8)]])),(o1,(.arr 0 1 0 [[.fn 140 [] [.ptr o0 0 0 0,.ptr o1 0 0 0]]]))])++[some (.arr 0 4 0 [[.int .i64 a0.kind,.str a0.name,.sl false 1 16 (rows w7 a0.words),.sl false 4 72 (rows u5.cells a0.subs)]]),some (.arr 0 4 0 [[.int .i64 0,.str [],.A9,.A9]]),some (.arr 0 4 0 [[.int .i64 a0.kind,.str j1.1,.sl false 1 16 (rows w7 t0),.A9]])]) (eG (by simp) (R6 hsc (by simp<;>omega)) (.lv (.lv (.live _ _ _ _ (.arr _ _ _ _ _ (.cons _ _ _ _ (.cons _ _ _ _ .s (.cons _ _ _ _ .s (.cons _ _ _ _ (.ref _ _ _ _ _ _ _ _ _ (D3.trans rfl) (fK (by first|decide|simp)) (by decide) (jS _) (by simp only[go_sem])) (.cons _ _ _ _ .s .nil)))) (.same _))) (.nil _)))) (by simp<;>omega) ⟨.s,.s,.s,.s,.s,trivial⟩ (by simp<;>omega)) ?_
    refine r0 ?_
    (repeat apply sq_)
    refine W6 4 72 ?_
    try simp only[List.append_assoc,List.cons_append,List.nil_append]
    refine Q9 (F:=[(1,.sl false 1 16 (rows w7 j1.2)),(3,.ptr o1 0 0 0),(6,.ptr (st.length+1) 0 0 0),(7,.ptr (st.length+2) 0 0 0),(81,.sl false 4 72 (rows u5.cells a0.subs)),(82,.int .i64 (↑a0.subs.length:Int)),(83,.int .i64 0)]) (T:=(B8 st [(o0,(.arr 0 7 0 [[.int .i64 B7,.str M6,.sl false 1 16 (rows w7 M7),.sl false 4 72 (rows u5.cells D7),.sl false 1 16 (rows w7 L3),.sl false 1 16 (rows w7 M4),.sl false 1 16 (rows w7 M8)]])),(o1,(.arr 0 1 0 [[.fn 140 [] [.ptr o0 0 0 0,.ptr o1 0 0 0]]]))])++[some (.arr 0 4 0 [[.int .i64 a0.kind,.str a0.name,.sl false 1 16 (rows w7 a0.words),.sl false 4 72 (rows u5.cells a0.subs)]]),some (.arr 0 4 0 [[.int .i64 0,.str [],.A9,.A9]]),some (.arr 0 4 0 [[.int .i64 a0.kind,.str j1.1,.sl false 1 16 (rows w7 t0),.ref false (st.length+3) 0 0 0]]),some (.arr 0 4 72 (rows u5.cells []))]) (eG (by simp) (R6 hsc (by simp<;>omega)) (.lv (.lv (.live _ _ _ _ (.arr _ _ _ _ _ (.cons _ _ _ _ (.cons _ _ _ _ .s (.cons _ _ _ _ .s (.cons _ _ _ _ .s (.cons _ _ _ _ (.nref _ _ _ _ _ _ (D3.trans rfl)) .nil)))) (.same _))) (.lv (.nil _))))) (by simp<;>omega) ⟨.s,.s,.s,.s,.s,.s,.s,trivial⟩ (by simp<;>omega)) ?_
    refine aln 81 fun hl2=>?_
    refine rng (body:=aZ (J3 n) a0 j1 B7 M6 M7 D7 L3 M4 M8) (kk:=bf a0 j1 t0) (n:=a0.subs.length) (s0:=[])
     (fun(gs2:Nat) (k2:Nat) (s2:(List u5))=>[(1,.sl false 1 16 (rows w7 j1.2)),(3,.ptr o1 0 0 0),(6,.ptr (st.length+1) 0 0 0),(7,.ptr (st.length+2) 0 0 0),(81,.sl false 4 72 (rows u5.cells a0.subs)),(82,.int .i64 (↑a0.subs.length:Int)),(83,.int .i64 (↑k2:Int))])
     (fun(gs2:Nat) (k2:Nat) (s2:(List u5))=>(B8 st [(o0,(.arr 0 7 0 [[.int .i64 B7,.str M6,.sl false 1 16 (rows w7 M7),.sl false 4 72 (rows u5.cells D7),.sl false 1 16 (rows w7 L3),.sl false 1 16 (rows w7 M4),.sl false 1 16 (rows w7 M8)]])),(o1,(.arr 0 1 0 [[.fn 140 [] [.ptr o0 0 0 0,.ptr o1 0 0 0]]]))])++[none,some (.arr 0 4 0 [[.int .i64 0,.str [],.A9,.A9]]),some (.arr 0 4 0 [[.int .i64 a0.kind,.str j1.1,.sl false 1 16 (rows w7 t0),.ref false (st.length+3) gs2 0 s2.length]]),some (.arr gs2 4 72 (rows u5.cells s2))])
     (fun(gt2:Nat) (t2:(List u5))=>[(6,.ptr (st.length+1) 0 0 0),(7,.ptr (st.length+2) 0 0 0)])
     (fun(gt2:Nat) (t2:(List u5))=>(B8 st [(o0,(.arr 0 7 0 [[.int .i64 B7,.str M6,.sl false 1 16 (rows w7 M7),.sl false 4 72 (rows u5.cells D7),.sl false 1 16 (rows w7 L3),.sl false 1 16 (rows w7 M4),.sl false 1 16 (rows w7 M8)]])),(o1,(.arr 0 1 0 [[.fn 140 [] [.ptr o0 0 0 0,.ptr o1 0 0 0]]]))])++[none,some (.arr 0 4 0 [[.int .i64 0,.str [],.A9,.A9]]),some (.arr 0 4 0 [[.int .i64 a0.kind,.str j1.1,.sl false 1 16 (rows w7 t0),.ref false (st.length+3) gt2 0 t2.length]]),some (.arr gt2 4 72 (rows u5.cells t2))])
     0 fx hl2 h (bu hsc)
     (fun gs2 k2 s2 b2 fx h hx2=>?_) (fun gs2 s2=>?_) (fun gt2 t2 fr1 st1 h hb=>?_)
    ·unfold aZ at h
     refine ct ?_
     refine rn ?_
     refine dw [1,5] 2 ?_
     obtain⟨v65,hv65,h⟩:=P8 h
     refine gO [o0,o1] (fun st2 h2=>(ih _ _ _ _ _ _ _ _ _ _ hv65 st2 _ _ hnd ((h2 _ (by simp)).trans (by simp only[go_sem,fx])) ((h2 _ (by simp)).trans (by simp only[go_sem,fx])))) (by simp) (by simp only[List.mem_cons,List.not_mem_nil,or_false,forall_eq_or_imp,forall_eq];exact⟨⟨by first|omega|(simp<;>omega),_,(by simp only[go_sem,fx]<;>rfl),Ob.noConfusion⟩,⟨by first|omega|(simp<;>omega),_,(by simp only[go_sem,fx]<;>rfl),Ob.noConfusion⟩⟩) (by simp) ?_
     obtain⟨c67,Sh,h⟩:=gX h
     have fy:=(show rows u5.cells s2++[[.int .i64 v65.kind,.str v65.name,.sl false 1 16 (rows w7 v65.words),.sl false 4 72 (rows u5.cells v65.subs)]]=rows u5.cells c67 from by rw[Sh];first|exact E1 (E:=u5.cells) s2 [v65]|simp only[go_sem,rows,List.map_append,List.map_cons,List.map_nil])
     have fy:=fa fy (show s2.length+1=c67.length from by rw[Sh];simp)
     obtain⟨fx,h⟩:=ck fx h
     try simp only[go_sem,fx,fy]
     try refine⟨by first|omega|(simp<;>omega),?_⟩
     refine rn ?_
     cases h
     exact eE (gs2+1) (bu hsc)
    ·refine cf ?_
     refine fA ?_;simp only[go_sem,fx]
     exact⟨gs2,(bu hsc)⟩
    ·try simp only[go_sem,fx]
     unfold bf at h
     refine Q9 hb ?_
     refine rr ?_
     exact fuo (.agg [.int .i64 a0.kind,.str j1.1,.sl false 1 16 (rows w7 t0),.sl false 4 72 (rows u5.cells t2)]) (.agg _ _ (.cons _ _ _ _ .s (.cons _ _ _ _ .s (.cons _ _ _ _ .s (.cons _ _ _ _ (.ref _ _ _ _ _ _ _ _ _ (D3.trans rfl) W7 (by decide) (jS _) (by simp only[go_sem])) .nil))))) h hsc (hr:=by rintro rfl;exact⟨rfl,C7 (by simp[M9,Z6])⟩)
   ·refine cd h (fun hc h=>?_) fun hc h=>?_
    ·(repeat apply sq_)
     refine W6 1 16 ?_
     try simp only[List.append_assoc,List.cons_append,List.nil_append]
     refine Q9 (F:=[(1,.sl false 1 16 (rows w7 a1)),(2,.ptr o0 0 0 0),(3,.ptr o1 0 0 0),(4,.ptr st.length 0 0 0),(6,.ptr (st.length+1) 0 0 0),(7,.ptr (st.length+2) 0 0 0),(44,.bool v45)]) (T:=(B8 st [(o0,(.arr 0 7 0 [[.int .i64 B7,.str M6,.sl false 1 16 (rows w7 M7),.sl false 4 72 (rows u5.cells D7),.sl false 1 16 (rows w7 L3),.sl false 1 16 (rows w7 M4),.sl false 1 16 (rows w7 M8)]])),(o1,(.arr 0 1 0 [[.fn 140 [] [.ptr o0 0 0 0,.ptr o1 0 0 0]]]))])++[some (.arr 0 4 0 [[.int .i64 a0.kind,.str a0.name,.sl false 1 16 (rows w7 a0.words),.sl false 4 72 (rows u5.cells a0.subs)]]),some (.arr 0 4 0 [[.int .i64 0,.str [],.A9,.A9]]),some (.arr 0 4 0 [[.int .i64 a0.kind,.str a0.name,.ref false (st.length+3) gt0 0 t0.length,.A9]]),some (.arr gt0 1 16 (rows w7 t0)),some (.arr 0 1 16 (rows w7 []))]) (eG (by simp) (R6 hsc (by simp<;>omega)) (.lv (.lv (.lv (.lv (.lv (.nil _)))))) (by simp<;>omega) ⟨.s,.s,.s,.s,.s,.s,.s,trivial⟩ (by simp<;>omega)) ?_
     refine rs ?_
     refine dw [1,3] 2 ?_
     obtain⟨v46,hv46,h⟩:=P8 h
     refine gO [(st.length+4)] (fun st2 h2=>(K3 _ _ _ hv46 st2 (st.length+4) 0 (by simp) ((h2 _ (by simp)).trans (D2.trans rfl)))) (by simp) (by simp only[List.mem_cons,List.not_mem_nil,or_false,forall_eq_or_imp,forall_eq];exact⟨by first|omega|(simp<;>omega),_,(D2.trans rfl),Ob.noConfusion⟩) (by simp) ?_
     obtain⟨c48,Si,h⟩:=gX h
     have fy:=(show rows w7 v46++[[.str a0.name]]=rows w7 c48 from by rw[Si];first|exact E1 (E:=w7) v46 [a0.name]|simp only[go_sem,rows,List.map_append,List.map_cons,List.map_nil])
     have fy:=fa fy (show v46.length+1=c48.length from by rw[Si];simp)
     obtain⟨fx,h⟩:=ck fx h
     try simp only[go_sem,fx,fy]
     try refine⟨by first|omega|(simp<;>omega),?_⟩
     obtain⟨fx,h⟩:=ck fx h
     refine r0 ?_
     refine hj1 () _ _ _ h ?_;exact(bu hsc (hf:=⟨.ref _ _ _ _ _ _ _ _ _ (D3.trans rfl) (fK (by first|decide|simp)) (by decide) (jS _) (by simp only[go_sem]),.s,.s,.s,.s,trivial⟩))
    ·refine cl h (S0 _ _) fun v54 h=>?_
     refine cd h (fun hc h=>?_) fun hc h=>?_
     ·obtain⟨fx,h⟩:=ck fx h
      refine r0 ?_
      refine hj1 () _ _ _ h ?_;exact(bu hsc)
     ·refine rn ?_
      obtain⟨v56,hv56,h⟩:=P8 h
      refine aV (fun hG=>(A8 _ _ _ (qj hv56 (by simpa using hG)))) ?_
      refine cd h (fun hc h=>?_) fun hc h=>?_
      ·obtain⟨fx,h⟩:=ck fx h
       refine r0 ?_
       refine hj1 () _ _ _ h ?_;exact(bu hsc)
      ·refine r0 ?_
       refine hj1 () _ _ _ h ?_;exact(bu hsc)
end Go.Proofs.YtfacbpehlibilaaGreatDoor
