import Derived.Test.YtanlbioodbnakaaGreatDoorTTWalk3
set_option linter.unusedVariables false
set_option linter.unusedSimpArgs false
set_option maxHeartbeats 2000000
set_option maxRecDepth 100000
namespace Go.Proofs.YtanlbioodbnakaaGreatDoor
open Go Go.Am
theorem nN:∀(n:Nat) (a1:u5) (B7:(List u7)) (E0:Int) (m1:(List (Bs×Int))) (l2:(List u6)) (r:u5×Int) (h:N2 n a1 B7 E0 m1 l2=some r),∀(st:St) (o0 o1 o2 q2:Nat) (hnd: [o0,o1,o2].Nodup) (G2:Am.look st o0=some (.arr 0 4 0 [[.sl false 11 216 (rows u7.cells B7),.mp o1,.ref false o2 q2 0 l2.length,.int .i64 E0]])) (P9:Am.look st o1=some (.mps false (mrw K7 m1))) (aY:Am.look st o2=some (.arr q2 2 16 (rows u6.cells l2))),Am.Spec Tryz.prog gl 39 [.ptr o0 0 0 0,.agg [.int .i64 a1.kind,.str a1.name,.sl false 1 16 (rows w8 a1.words),.sl false 4 72 (rows u5.cells a1.subs)],.jc] st (fun d st'=>d= .agg [.int .i64 r.1.kind,.str r.1.name,.sl false 1 16 (rows w8 r.1.words),.sl false 4 72 (rows u5.cells r.1.subs)]∧st'=puts st [(o0,(.arr 0 4 0 [[.sl false 11 216 (rows u7.cells B7),.mp o1,.ref false o2 q2 0 l2.length,.int .i64 r.2]])),(o1,(.mps false (mrw K7 m1))),(o2,(.arr q2 2 16 (rows u6.cells l2)))]):=by
 intro n
 induction n with
 |zero=>intro a1 B7 E0 m1 l2 r h;cases h
 |succ n ih=>
  intro a1 B7 E0 m1 l2 r h st o0 o1 o2 q2 hnd G2 P9 aY
  unfold N2 at h
  have ho0:=B5 G2
  have ho1:=B5 P9
  have ho2:=B5 aY
  have fx:=fa (fa (fa (idf ho0) (idf ho1)) (idf ho2)) (nd3 hnd)
  refine fb 84 [.cell 6 29] [0,1,2,4,6,7,9,10,11,12,13,14,16,23,24,25,26,35,45,48,50,67,68,69,70] Tryz.func39 fun hsc=>?_
  refine T6 (s':=(C0 st [(o0,(.arr 0 4 0 [[.sl false 11 216 (rows u7.cells B7),.mp o1,.ref false o2 q2 0 l2.length,.int .i64 E0]])),(o1,(.mps false (mrw K7 m1))),(o2,(.arr q2 2 16 (rows u6.cells l2)))])) (B6 (by simp[G2,P9,aY])) ?_
  refine r0 ?_
  refine r0 ?_
  refine r0 ?_
  (repeat apply sq_)
  refine S4 1 16 ?_
  try simp only[List.append_assoc,List.cons_append,List.nil_append]
  refine L6 (F:=[(0,.ptr o0 0 0 0),(2,.jc),(4,.ptr st.length 0 0 0),(6,.ptr (st.length+1) 0 0 0),(7,.ptr (st.length+2) 0 0 0),(23,.sl false 1 16 (rows w8 a1.words)),(24,.int .i64 (↑a1.words.length:Int)),(25,.int .i64 0)]) (T:=(C0 st [(o0,(.arr 0 4 0 [[.sl false 11 216 (rows u7.cells B7),.mp o1,.ref false o2 q2 0 l2.length,.int .i64 E0]])),(o1,(.mps false (mrw K7 m1))),(o2,(.arr q2 2 16 (rows u6.cells l2)))])++[some (.arr 0 4 0 [[.int .i64 a1.kind,.str a1.name,.sl false 1 16 (rows w8 a1.words),.sl false 4 72 (rows u5.cells a1.subs)]]),some (.arr 0 4 0 [[.int .i64 0,.str [],.B2,.B2]]),some (.arr 0 4 0 [[.int .i64 a1.kind,.str a1.name,.ref false (st.length+3) 0 0 0,.B2]]),some (.arr 0 1 16 (rows w8 []))]) (ey (by simp) (P1 hsc (by simp<;>omega)) (.lv (.lv (.live _ _ _ _ (.arr _ _ _ _ _ (.cons _ _ _ _ (.cons _ _ _ _ .s (.cons _ _ _ _ .s (.cons _ _ _ _ (.nref _ _ _ _ _ _ (D1.trans rfl)) (.cons _ _ _ _ .s .nil)))) (.same _))) (.lv (.nil _))))) (by simp<;>omega) ⟨.s,.s,.s,.s,.s,.s,.s,.s,trivial⟩ (by simp<;>omega)) ?_
  refine aln 23 fun hl0=>?_
  refine rng (body:=aK a1) (kk:=aL (N2 n) n a1 B7 E0 m1 l2) (n:=a1.words.length) (s0:=[])
   (fun(gs0:Nat) (k0:Nat) (s0:(List Bs))=>[(0,.ptr o0 0 0 0),(2,.jc),(4,.ptr st.length 0 0 0),(6,.ptr (st.length+1) 0 0 0),(7,.ptr (st.length+2) 0 0 0),(23,.sl false 1 16 (rows w8 a1.words)),(24,.int .i64 (↑a1.words.length:Int)),(25,.int .i64 (↑k0:Int))])
   (fun(gs0:Nat) (k0:Nat) (s0:(List Bs))=>(C0 st [(o0,(.arr 0 4 0 [[.sl false 11 216 (rows u7.cells B7),.mp o1,.ref false o2 q2 0 l2.length,.int .i64 E0]])),(o1,(.mps false (mrw K7 m1))),(o2,(.arr q2 2 16 (rows u6.cells l2)))])++[some (.arr 0 4 0 [[.int .i64 a1.kind,.str a1.name,.sl false 1 16 (rows w8 a1.words),.sl false 4 72 (rows u5.cells a1.subs)]]),some (.arr 0 4 0 [[.int .i64 0,.str [],.B2,.B2]]),some (.arr 0 4 0 [[.int .i64 a1.kind,.str a1.name,.ref false (st.length+3) gs0 0 s0.length,.B2]]),some (.arr gs0 1 16 (rows w8 s0))])
   (fun(gt0:Nat) (t0:(List Bs))=>[(0,.ptr o0 0 0 0),(2,.jc),(4,.ptr st.length 0 0 0),(6,.ptr (st.length+1) 0 0 0),(7,.ptr (st.length+2) 0 0 0)])
   (fun(gt0:Nat) (t0:(List Bs))=>(C0 st [(o0,(.arr 0 4 0 [[.sl false 11 216 (rows u7.cells B7),.mp o1,.ref false o2 q2 0 l2.length,.int .i64 E0]])),(o1,(.mps false (mrw K7 m1))),(o2,(.arr q2 2 16 (rows u6.cells l2)))])++[some (.arr 0 4 0 [[.int .i64 a1.kind,.str a1.name,.sl false 1 16 (rows w8 a1.words),.sl false 4 72 (rows u5.cells a1.subs)]]),some (.arr 0 4 0 [[.int .i64 0,.str [],.B2,.B2]]),some (.arr 0 4 0 [[.int .i64 a1.kind,.str a1.name,.ref false (st.length+3) gt0 0 t0.length,.B2]]),some (.arr gt0 1 16 (rows w8 t0))])
   0 fx hl0 h (bu hsc)
   (fun gs0 k0 s0 b0 fx h hx0=>?_) (fun gs0 s0=>?_) (fun gt0 t0 fr1 st1 h hb=>?_)
  ·unfold aK at h
   refine ct ?_
   refine cd h (fun hc h=>?_) fun hc h=>?_
   ·refine r0 ?_
    obtain⟨c14,Lz,h⟩:=gq h
    have fy:=(show rows w8 s0++[[.str ([]:Bs)]]=rows w8 c14 from by rw[Lz];first|exact D5 (E:=w8) s0 [([]:Bs)]|simp only[go_sem,rows,List.map_append,List.map_cons,List.map_nil])
    have fy:=fa fy (show s0.length+1=c14.length from by rw[Lz];simp)
    obtain⟨fx,h⟩:=ck fx h
    refine r1 ?_
    refine rn ?_
    cases h
    exact cj (gs0+1) (bu hsc)
   ·refine r0 ?_
    obtain⟨c20,OV,h⟩:=gq h
    have fy:=(show rows w8 s0++[[.str (get a1.words k0)]]=rows w8 c20 from by rw[OV];first|exact D5 (E:=w8) s0 [(get a1.words k0)]|simp only[go_sem,rows,List.map_append,List.map_cons,List.map_nil])
    have fy:=fa fy (show s0.length+1=c20.length from by rw[OV];simp)
    obtain⟨fx,h⟩:=ck fx h
    refine r1 ?_
    refine rn ?_
    cases h
    exact cj (gs0+1) (bu hsc)
  ·refine cf ?_
   refine cM ?_;simp only[go_sem,fx]
   exact⟨gs0,(bu hsc)⟩
  ·try simp only[go_sem,fx]
   unfold aL at h
   refine L6 hb ?_
   refine cl h (D6 _) fun v25 h=>?_
   refine cd h (fun hc h=>?_) fun hc h=>?_
   ·refine r0 ?_
    first|refine sq_ (uN (b:=47) (tI:=12) (tE:=2) (tk:=13) (tv:=14) (id2:=2) (id3:=3) (i1:=12) (i2:=13) (i3:=14) (i4:=15) (F:=[(0,.ptr o0 0 0 0),(4,.ptr st.length 0 0 0),(6,.ptr (st.length+1) 0 0 0),(7,.ptr (st.length+2) 0 0 0),(12,.mp (st.length+4))]) Tryz.underlying117 (by decide) rfl (by simp[Fr.leq,Fr.get]) rfl ?_)|refine uN (b:=47) (tI:=12) (tE:=2) (tk:=13) (tv:=14) (id2:=2) (id3:=3) (i1:=12) (i2:=13) (i3:=14) (i4:=15) (F:=[(0,.ptr o0 0 0 0),(4,.ptr st.length 0 0 0),(6,.ptr (st.length+1) 0 0 0),(7,.ptr (st.length+2) 0 0 0),(12,.mp (st.length+4))]) Tryz.underlying117 (by decide) rfl (by simp[Fr.leq,Fr.get]) rfl ?_
    try simp only[go_sem,fx]
    refine rn ?_
    obtain⟨v26,hv26,h⟩:=J5 h
    refine(fG _ _ _ _ _ hv26 _ _ _ _ q2 hnd (by simp only[go_sem,fx]) (by simp only[go_sem,fx]) (by simp only[go_sem,fx])).mono ?_
    rintro d1 st1 ⟨rfl,rfl⟩
    try simp only[go_sem,fx]
    obtain⟨c27,PK,h⟩:=gq h
    have fy:=(show [(a1.name,[.str v26.1])]=mrw w8 c27 from by rw[PK];exact jE (κ:=Bs) (E:=w8) a1.name v26.1 [])
    have fy:=fa fy (show C5 a1.name [.str v26.1] (mrw w8 [])=mrw w8 c27 from by rw[PK];exact jE (κ:=Bs) (E:=w8) a1.name v26.1 [])
    refine r1 ?_
    refine r0 ?_
    refine r0 ?_
    (repeat apply sq_)
    refine S4 4 72 ?_
    try simp only[List.append_assoc,List.cons_append,List.nil_append]
    refine L6 (F:=[(0,.ptr o0 0 0 0),(2,.mp (st.length+4)),(6,.ptr (st.length+1) 0 0 0),(7,.ptr (st.length+2) 0 0 0),(67,.sl false 4 72 (rows u5.cells a1.subs)),(68,.int .i64 (↑a1.subs.length:Int)),(69,.int .i64 0)]) (T:=(C0 st [(o0,(.arr 0 4 0 [[.sl false 11 216 (rows u7.cells B7),.mp o1,.ref false o2 q2 0 l2.length,.int .i64 v26.2]])),(o1,(.mps false (mrw K7 m1))),(o2,(.arr q2 2 16 (rows u6.cells l2)))])++[some (.arr 0 4 0 [[.int .i64 a1.kind,.str a1.name,.sl false 1 16 (rows w8 a1.words),.sl false 4 72 (rows u5.cells a1.subs)]]),some (.arr 0 4 0 [[.int .i64 0,.str [],.B2,.B2]]),some (.arr 0 4 0 [[.int .i64 a1.kind,.str v26.1,.ref false (st.length+3) gt0 0 t0.length,.ref false (st.length+5) 0 0 0]]),some (.arr gt0 1 16 (rows w8 t0)),some (.mps false (mrw w8 c27)),some (.arr 0 4 72 (rows u5.cells []))]) (ey (by simp) (P1 hsc (by simp<;>omega)) (.lv (.lv (.live _ _ _ _ (.arr _ _ _ _ _ (.cons _ _ _ _ (.cons _ _ _ _ .s (.cons _ _ _ _ .s (.cons _ _ _ _ .s (.cons _ _ _ _ (.nref _ _ _ _ _ _ (D1.trans rfl)) .nil)))) (.same _))) (.lv (.lv (.lv (.nil _))))))) (by simp<;>omega) ⟨.s,.s,.s,.s,.s,.s,.s,trivial⟩ (by simp<;>omega)) ?_
    refine aln 67 fun hl1=>?_
    refine rng (body:=aM n a1 B7 m1 l2 c27) (kk:=aN a1 v26 t0) (n:=a1.subs.length) (s0:=(v26.2,[]))
     (fun(gs1:Nat) (k1:Nat) (s1:Int×(List u5))=>[(0,.ptr o0 0 0 0),(2,.mp (st.length+4)),(6,.ptr (st.length+1) 0 0 0),(7,.ptr (st.length+2) 0 0 0),(67,.sl false 4 72 (rows u5.cells a1.subs)),(68,.int .i64 (↑a1.subs.length:Int)),(69,.int .i64 (↑k1:Int))])
     (fun(gs1:Nat) (k1:Nat) (s1:Int×(List u5))=>(C0 st [(o0,(.arr 0 4 0 [[.sl false 11 216 (rows u7.cells B7),.mp o1,.ref false o2 q2 0 l2.length,.int .i64 s1.1]])),(o1,(.mps false (mrw K7 m1))),(o2,(.arr q2 2 16 (rows u6.cells l2)))])++[none,some (.arr 0 4 0 [[.int .i64 0,.str [],.B2,.B2]]),some (.arr 0 4 0 [[.int .i64 a1.kind,.str v26.1,.ref false (st.length+3) gt0 0 t0.length,.ref false (st.length+5) gs1 0 s1.2.length]]),some (.arr gt0 1 16 (rows w8 t0)),some (.mps false (mrw w8 c27)),some (.arr gs1 4 72 (rows u5.cells s1.2))])
     (fun(gt1:Nat) (t1:Int×(List u5))=>[(6,.ptr (st.length+1) 0 0 0),(7,.ptr (st.length+2) 0 0 0)])
     (fun(gt1:Nat) (t1:Int×(List u5))=>(C0 st [(o0,(.arr 0 4 0 [[.sl false 11 216 (rows u7.cells B7),.mp o1,.ref false o2 q2 0 l2.length,.int .i64 t1.1]])),(o1,(.mps false (mrw K7 m1))),(o2,(.arr q2 2 16 (rows u6.cells l2)))])++[none,some (.arr 0 4 0 [[.int .i64 0,.str [],.B2,.B2]]),some (.arr 0 4 0 [[.int .i64 a1.kind,.str v26.1,.ref false (st.length+3) gt0 0 t0.length,.ref false (st.length+5) gt1 0 t1.2.length]]),some (.arr gt0 1 16 (rows w8 t0)),none,some (.arr gt1 4 72 (rows u5.cells t1.2))])
     0 fx hl1 h (bu hsc)
     (fun gs1 k1 s1 b1 fx h hx1=>?_) (fun gs1 s1=>?_) (fun gt1 t1 fr1 st1 h hb=>?_)
    ·unfold aM at h
     refine ct ?_
     refine rn ?_
     refine dw [1,5] 2 ?_
     obtain⟨v37,hv37,h⟩:=J5 h
     refine bG [o0,o1,o2,(st.length+4)] (fun st2 h2=>(lX n _ _ _ _ _ _ _ hv37 st2 o0 o1 o2 (st.length+4) q2 (by simp[fx]<;>omega) ((h2 _ (by simp)).trans (by simp only[go_sem,fx])) ((h2 _ (by simp)).trans (by simp only[go_sem,fx])) ((h2 _ (by simp)).trans (by simp only[go_sem,fx])) ((h2 _ (by simp)).trans (C6.trans rfl)))) (by simp) (by simp only[List.mem_cons,List.not_mem_nil,or_false,forall_eq_or_imp,forall_eq];exact⟨⟨by first|omega|(simp<;>omega),_,(by simp only[go_sem,fx]<;>rfl),Ob.noConfusion⟩,⟨by first|omega|(simp<;>omega),_,(by simp only[go_sem,fx]<;>rfl),Ob.noConfusion⟩,⟨by first|omega|(simp<;>omega),_,(by simp only[go_sem,fx]<;>rfl),Ob.noConfusion⟩,⟨by first|omega|(simp<;>omega),_,(C6.trans rfl),Ob.noConfusion⟩⟩) (by simp) ?_
     obtain⟨c39,OW,h⟩:=gq h
     have fy:=(show rows u5.cells s1.2++[[.int .i64 v37.1.kind,.str v37.1.name,.sl false 1 16 (rows w8 v37.1.words),.sl false 4 72 (rows u5.cells v37.1.subs)]]=rows u5.cells c39 from by rw[OW];first|exact D5 (E:=u5.cells) s1.2 [v37.1]|simp only[go_sem,rows,List.map_append,List.map_cons,List.map_nil])
     have fy:=fa fy (show s1.2.length+1=c39.length from by rw[OW];simp)
     obtain⟨fx,h⟩:=ck fx h
     try simp only[go_sem,fx,fy]
     try refine⟨by first|omega|(simp<;>omega),?_⟩
     refine rn ?_
     cases h
     exact cj (gs1+1) (bu hsc)
    ·refine cf ?_
     refine cM ?_;simp only[go_sem,fx]
     exact⟨gs1,(bu hsc)⟩
    ·try simp only[go_sem,fx]
     unfold aN at h
     refine L6 hb ?_
     refine rr ?_
     exact fuo (.agg [.int .i64 a1.kind,.str v26.1,.sl false 1 16 (rows w8 t0),.sl false 4 72 (rows u5.cells t1.2)]) (.agg _ _ (.cons _ _ _ _ .s (.cons _ _ _ _ .s (.cons _ _ _ _ (.ref _ _ _ _ _ _ _ _ _ (D1.trans rfl) W0 (by decide) (jS _) (by simp only[go_sem])) (.cons _ _ _ _ (.ref _ _ _ _ _ _ _ _ _ (D1.trans rfl) W0 (by decide) (jS _) (by simp only[go_sem])) .nil))))) h hsc
   ·refine r0 ?_
    refine r0 ?_
    (repeat apply sq_)
    refine S4 4 72 ?_
    try simp only[List.append_assoc,List.cons_append,List.nil_append]
    refine L6 (F:=[(0,.ptr o0 0 0 0),(2,.jc),(6,.ptr (st.length+1) 0 0 0),(7,.ptr (st.length+2) 0 0 0),(67,.sl false 4 72 (rows u5.cells a1.subs)),(68,.int .i64 (↑a1.subs.length:Int)),(69,.int .i64 0)]) (T:=(C0 st [(o0,(.arr 0 4 0 [[.sl false 11 216 (rows u7.cells B7),.mp o1,.ref false o2 q2 0 l2.length,.int .i64 E0]])),(o1,(.mps false (mrw K7 m1))),(o2,(.arr q2 2 16 (rows u6.cells l2)))])++[some (.arr 0 4 0 [[.int .i64 a1.kind,.str a1.name,.sl false 1 16 (rows w8 a1.words),.sl false 4 72 (rows u5.cells a1.subs)]]),some (.arr 0 4 0 [[.int .i64 0,.str [],.B2,.B2]]),some (.arr 0 4 0 [[.int .i64 a1.kind,.str a1.name,.ref false (st.length+3) gt0 0 t0.length,.ref false (st.length+4) 0 0 0]]),some (.arr gt0 1 16 (rows w8 t0)),some (.arr 0 4 72 (rows u5.cells []))]) (ey (by simp) (P1 hsc (by simp<;>omega)) (.lv (.lv (.live _ _ _ _ (.arr _ _ _ _ _ (.cons _ _ _ _ (.cons _ _ _ _ .s (.cons _ _ _ _ .s (.cons _ _ _ _ .s (.cons _ _ _ _ (.nref _ _ _ _ _ _ (D1.trans rfl)) .nil)))) (.same _))) (.lv (.lv (.nil _)))))) (by simp<;>omega) ⟨.s,.s,.s,.s,.s,.s,.s,trivial⟩ (by simp<;>omega)) ?_
    refine aln 67 fun hl2=>?_
    refine rng (body:=aO (N2 n) a1 B7 m1 l2) (kk:=aP a1 t0) (n:=a1.subs.length) (s0:=(E0,[]))
     (fun(gs2:Nat) (k2:Nat) (s2:Int×(List u5))=>[(0,.ptr o0 0 0 0),(2,.jc),(6,.ptr (st.length+1) 0 0 0),(7,.ptr (st.length+2) 0 0 0),(67,.sl false 4 72 (rows u5.cells a1.subs)),(68,.int .i64 (↑a1.subs.length:Int)),(69,.int .i64 (↑k2:Int))])
     (fun(gs2:Nat) (k2:Nat) (s2:Int×(List u5))=>(C0 st [(o0,(.arr 0 4 0 [[.sl false 11 216 (rows u7.cells B7),.mp o1,.ref false o2 q2 0 l2.length,.int .i64 s2.1]])),(o1,(.mps false (mrw K7 m1))),(o2,(.arr q2 2 16 (rows u6.cells l2)))])++[none,some (.arr 0 4 0 [[.int .i64 0,.str [],.B2,.B2]]),some (.arr 0 4 0 [[.int .i64 a1.kind,.str a1.name,.ref false (st.length+3) gt0 0 t0.length,.ref false (st.length+4) gs2 0 s2.2.length]]),some (.arr gt0 1 16 (rows w8 t0)),some (.arr gs2 4 72 (rows u5.cells s2.2))])
     (fun(gt2:Nat) (t2:Int×(List u5))=>[(6,.ptr (st.length+1) 0 0 0),(7,.ptr (st.length+2) 0 0 0)])
     (fun(gt2:Nat) (t2:Int×(List u5))=>(C0 st [(o0,(.arr 0 4 0 [[.sl false 11 216 (rows u7.cells B7),.mp o1,.ref false o2 q2 0 l2.length,.int .i64 t2.1]])),(o1,(.mps false (mrw K7 m1))),(o2,(.arr q2 2 16 (rows u6.cells l2)))])++[none,some (.arr 0 4 0 [[.int .i64 0,.str [],.B2,.B2]]),some (.arr 0 4 0 [[.int .i64 a1.kind,.str a1.name,.ref false (st.length+3) gt0 0 t0.length,.ref false (st.length+4) gt2 0 t2.2.length]]),some (.arr gt0 1 16 (rows w8 t0)),some (.arr gt2 4 72 (rows u5.cells t2.2))])
     0 fx hl2 h (bu hsc)
     (fun gs2 k2 s2 b2 fx h hx2=>?_) (fun gs2 s2=>?_) (fun gt2 t2 fr1 st1 h hb=>?_)
    ·unfold aO at h
     refine ct ?_
     refine rn ?_
     refine dw [1,5] 2 ?_
     obtain⟨v51,hv51,h⟩:=J5 h
     refine bG [o0,o1,o2] (fun st2 h2=>(ih _ _ _ _ _ _ hv51 st2 _ _ _ q2 hnd ((h2 _ (by simp)).trans (by simp only[go_sem,fx])) ((h2 _ (by simp)).trans (by simp only[go_sem,fx])) ((h2 _ (by simp)).trans (by simp only[go_sem,fx])))) (by simp) (by simp only[List.mem_cons,List.not_mem_nil,or_false,forall_eq_or_imp,forall_eq];exact⟨⟨by first|omega|(simp<;>omega),_,(by simp only[go_sem,fx]<;>rfl),Ob.noConfusion⟩,⟨by first|omega|(simp<;>omega),_,(by simp only[go_sem,fx]<;>rfl),Ob.noConfusion⟩,⟨by first|omega|(simp<;>omega),_,(by simp only[go_sem,fx]<;>rfl),Ob.noConfusion⟩⟩) (by simp) ?_
     obtain⟨c53,Sk,h⟩:=gq h
     have fy:=(show rows u5.cells s2.2++[[.int .i64 v51.1.kind,.str v51.1.name,.sl false 1 16 (rows w8 v51.1.words),.sl false 4 72 (rows u5.cells v51.1.subs)]]=rows u5.cells c53 from by rw[Sk];first|exact D5 (E:=u5.cells) s2.2 [v51.1]|simp only[go_sem,rows,List.map_append,List.map_cons,List.map_nil])
     have fy:=fa fy (show s2.2.length+1=c53.length from by rw[Sk];simp)
     obtain⟨fx,h⟩:=ck fx h
     try simp only[go_sem,fx,fy]
     try refine⟨by first|omega|(simp<;>omega),?_⟩
     refine rn ?_
     cases h
     exact cj (gs2+1) (bu hsc)
    ·refine cf ?_
     refine cM ?_;simp only[go_sem,fx]
     exact⟨gs2,(bu hsc)⟩
    ·try simp only[go_sem,fx]
     unfold aP at h
     refine L6 hb ?_
     refine rr ?_
     exact fuo (.agg [.int .i64 a1.kind,.str a1.name,.sl false 1 16 (rows w8 t0),.sl false 4 72 (rows u5.cells t2.2)]) (.agg _ _ (.cons _ _ _ _ .s (.cons _ _ _ _ .s (.cons _ _ _ _ (.ref _ _ _ _ _ _ _ _ _ (D1.trans rfl) W0 (by decide) (jS _) (by simp only[go_sem])) (.cons _ _ _ _ (.ref _ _ _ _ _ _ _ _ _ (D1.trans rfl) W0 (by decide) (jS _) (by simp only[go_sem])) .nil))))) h hsc
theorem mQ:∀(n:Nat) (a1:u5) (a2:Bs) (B7:(List u7)) (E0:Int) (m1:(List (Bs×Int))) (l2:(List u6)) (r:(List (Bs×Int))) (h:O4 n a1 a2 B7 E0 m1 l2=some r),∀(st:St) (o0 o1 o2 q2:Nat) (hnd: [o0,o1,o2].Nodup) (G2:Am.look st o0=some (.arr 0 4 0 [[.sl false 11 216 (rows u7.cells B7),.mp o1,.ref false o2 q2 0 l2.length,.int .i64 E0]])) (P9:Am.look st o1=some (.mps false (mrw K7 m1))) (aY:Am.look st o2=some (.arr q2 2 16 (rows u6.cells l2))),Am.Spec Tryz.prog gl 40 [.ptr o0 0 0 0,.agg [.int .i64 a1.kind,.str a1.name,.sl false 1 16 (rows w8 a1.words),.sl false 4 72 (rows u5.cells a1.subs)],.str a2] st (fun d st'=>d= .tup []∧st'=puts st [(o0,(.arr 0 4 0 [[.sl false 11 216 (rows u7.cells B7),.mp o1,.ref false o2 q2 0 l2.length,.int .i64 E0]])),(o1,(.mps false (mrw K7 r))),(o2,(.arr q2 2 16 (rows u6.cells l2)))]):=by
 intro n
 induction n with
 |zero=>intro a1 a2 B7 E0 m1 l2 r h;cases h
 |succ n ih=>
  intro a1 a2 B7 E0 m1 l2 r h st o0 o1 o2 q2 hnd G2 P9 aY
  unfold O4 at h
  have ho0:=B5 G2
  have ho1:=B5 P9
  have ho2:=B5 aY
  have fx:=fa (fa (fa (idf ho0) (idf ho1)) (idf ho2)) (nd3 hnd)
  refine fb 34 [] [0,1,2,4,6,7,19,20,21,22] Tryz.func40 fun hsc=>?_
  refine T6 (s':=(C0 st [(o0,(.arr 0 4 0 [[.sl false 11 216 (rows u7.cells B7),.mp o1,.ref false o2 q2 0 l2.length,.int .i64 E0]])),(o1,(.mps false (mrw K7 m1))),(o2,(.arr q2 2 16 (rows u6.cells l2)))])) (B6 (by simp[G2,P9,aY])) ?_
  refine rn ?_
  obtain⟨c1,hc1,h⟩:=gq h
  have fy:=(show C5 a2 [.int .i64 (↑m1.length:Int)] (mrw K7 m1)=mrw K7 c1 from by rw[hc1];exact jE (κ:=Bs) (E:=K7) a2 (↑m1.length:Int) m1)
  refine dwy [] 0 ?_
  refine aln 19 fun hl0=>?_
  refine rng (body:=Z4 (O4 n) a2 a1 B7 E0 l2) (kk:=Z5) (n:=a1.subs.length) (s0:=c1)
   (fun(gs0:Unit) (k0:Nat) (s0:(List (Bs×Int)))=>[(0,.ptr o0 0 0 0),(2,.str a2),(19,.sl false 4 72 (rows u5.cells a1.subs)),(20,.int .i64 (↑a1.subs.length:Int)),(21,.int .i64 (↑k0:Int))])
   (fun(gs0:Unit) (k0:Nat) (s0:(List (Bs×Int)))=>(C0 st [(o0,(.arr 0 4 0 [[.sl false 11 216 (rows u7.cells B7),.mp o1,.ref false o2 q2 0 l2.length,.int .i64 E0]])),(o1,(.mps false (mrw K7 s0))),(o2,(.arr q2 2 16 (rows u6.cells l2)))]))
   (fun(gt0:Unit) (t0:(List (Bs×Int)))=>[])
   (fun(gt0:Unit) (t0:(List (Bs×Int)))=>(C0 st [(o0,(.arr 0 4 0 [[.sl false 11 216 (rows u7.cells B7),.mp o1,.ref false o2 q2 0 l2.length,.int .i64 E0]])),(o1,(.mps false (mrw K7 t0))),(o2,(.arr q2 2 16 (rows u6.cells l2)))]))
   () fx hl0 h (bu0 hsc)
   (fun gs0 k0 s0 b0 fx h hx0=>?_) (fun gs0 s0=>?_) (fun gt0 t0 fr1 st1 h hb=>?_)
  ·unfold Z4 at h
   refine ct ?_
   refine rn ?_
   refine dw [6] 0 ?_
   obtain⟨v6,hv6,h⟩:=J5 h
   refine Q0 (pS _ _ hv6) ?_
   obtain⟨fx,h⟩:=ck fx h
   try simp only[go_sem,fx]
   obtain⟨v8,hv8,h⟩:=J5 h
   refine bG [o0,o1,o2] (fun st2 h2=>(ih _ _ _ _ _ _ _ hv8 st2 _ _ _ q2 hnd ((h2 _ (by simp)).trans (by simp only[go_sem,fx])) ((h2 _ (by simp)).trans (by simp only[go_sem,fx])) ((h2 _ (by simp)).trans (by simp only[go_sem,fx])))) (by simp) (by simp only[List.mem_cons,List.not_mem_nil,or_false,forall_eq_or_imp,forall_eq];exact⟨⟨by first|omega|(simp<;>omega),_,(by simp only[go_sem,fx]<;>rfl),Ob.noConfusion⟩,⟨by first|omega|(simp<;>omega),_,(by simp only[go_sem,fx]<;>rfl),Ob.noConfusion⟩,⟨by first|omega|(simp<;>omega),_,(by simp only[go_sem,fx]<;>rfl),Ob.noConfusion⟩⟩) (by simp) ?_
   try simp only[go_sem,fx]
   try refine⟨by first|omega|(simp<;>omega),?_⟩
   refine rn ?_
   cases h
   exact cj () (bu0 hsc)
  ·refine cf ?_
   refine cM ?_;simp only[go_sem,fx]
   exact⟨(),(wR hsc)⟩
  ·try simp only[go_sem,fx]
   unfold Z5 at h
   refine qM hb ?_
   refine rr ?_
   exact fus (.tup []) (.same _) h hsc
theorem nO:∀(n:Nat) (a0:u5) (a1:(List Bs)) (B7:Int) (I8:Bs) (I9:(List Bs)) (E0:(List u5)) (K8:(List Bs)) (L5:(List Bs)) (L7:(List Bs)) (r:u5) (h:I6 n a0 a1 B7 I8 I9 E0 K8 L5 L7=some r),∀(st:St) (o0 o1:Nat) (hnd: [o0,o1].Nodup) (G2:Am.look st o0=some (.arr 0 7 0 [[.int .i64 B7,.str I8,.sl false 1 16 (rows w8 I9),.sl false 4 72 (rows u5.cells E0),.sl false 1 16 (rows w8 K8),.sl false 1 16 (rows w8 L5),.sl false 1 16 (rows w8 L7)]])) (P9:Am.look st o1=some (.arr 0 1 0 [[.fn 121 [] [.ptr o0 0 0 0,.ptr o1 0 0 0]]])),Am.Spec Tryz.prog gl 121 [.agg [.int .i64 a0.kind,.str a0.name,.sl false 1 16 (rows w8 a0.words),.sl false 4 72 (rows u5.cells a0.subs)],.sl false 1 16 (rows w8 a1),.ptr o0 0 0 0,.ptr o1 0 0 0] st (fun d st'=>d= .agg [.int .i64 r.kind,.str r.name,.sl false 1 16 (rows w8 r.words),.sl false 4 72 (rows u5.cells r.subs)]∧st'=puts st []):=by
 intro n
 induction n with
 |zero=>intro a0 a1 B7 I8 I9 E0 K8 L5 L7 r h;cases h
 |succ n ih=>
  intro a0 a1 B7 I8 I9 E0 K8 L5 L7 r h st o0 o1 hnd G2 P9
  unfold I6 at h
  have ho0:=B5 G2
  have ho1:=B5 P9
  have fx:=fa (fa (idf ho0) (idf ho1)) (nd2 hnd)
  refine fb 98 [.cell 6 29] [0,1,2,3,4,6,7,9,11,18,19,20,21,24,30,44,57,65,70,71,72,73,74,81,82,83,84] Tryz.func121 fun hsc=>?_
  refine T6 (s':=(C0 st [(o0,(.arr 0 7 0 [[.int .i64 B7,.str I8,.sl false 1 16 (rows w8 I9),.sl false 4 72 (rows u5.cells E0),.sl false 1 16 (rows w8 K8),.sl false 1 16 (rows w8 L5),.sl false 1 16 (rows w8 L7)]])),(o1,(.arr 0 1 0 [[.fn 121 [] [.ptr o0 0 0 0,.ptr o1 0 0 0]]]))])) (B6 (by simp[G2,P9])) ?_
  refine r0 ?_
  refine r0 ?_
  refine r0 ?_
  (repeat apply sq_)
  refine S4 1 16 ?_
  try simp only[List.append_assoc,List.cons_append,List.nil_append]
  refine L6 (F:=[(1,.sl false 1 16 (rows w8 a1)),(2,.ptr o0 0 0 0),(3,.ptr o1 0 0 0),(4,.ptr st.length 0 0 0),(6,.ptr (st.length+1) 0 0 0),(7,.ptr (st.length+2) 0 0 0),(18,.sl false 1 16 (rows w8 a0.words)),(19,.int .i64 (↑a0.words.length:Int)),(20,.int .i64 0)]) (T:=(C0 st [(o0,(.arr 0 7 0 [[.int .i64 B7,.str I8,.sl false 1 16 (rows w8 I9),.sl false 4 72 (rows u5.cells E0),.sl false 1 16 (rows w8 K8),.sl false 1 16 (rows w8 L5),.sl false 1 16 (rows w8 L7)]])),(o1,(.arr 0 1 0 [[.fn 121 [] [.ptr o0 0 0 0,.ptr o1 0 0 0]]]))])++[some (.arr 0 4 0 [[.int .i64 a0.kind,.str a0.name,.sl false 1 16 (rows w8 a0.words),.sl false 4 72 (rows u5.cells a0.subs)]]),some (.arr 0 4 0 [[.int .i64 0,.str [],.B2,.B2]]),some (.arr 0 4 0 [[.int .i64 a0.kind,.str a0.name,.ref false (st.length+3) 0 0 0,.B2]]),some (.arr 0 1 16 (rows w8 []))]) (ey (by simp) (P1 hsc (by simp<;>omega)) (.lv (.lv (.live _ _ _ _ (.arr _ _ _ _ _ (.cons _ _ _ _ (.cons _ _ _ _ .s (.cons _ _ _ _ .s (.cons _ _ _ _ (.nref _ _ _ _ _ _ (D1.trans rfl)) (.cons _ _ _ _ .s .nil)))) (.same _))) (.lv (.nil _))))) (by simp<;>omega) ⟨.s,.s,.s,.s,.s,.s,.s,.s,.s,trivial⟩ (by simp<;>omega)) ?_
  refine aln 18 fun hl0=>?_
  refine rng (body:=aF a1 a0 K8) (kk:=aI (I6 n) a0 a1 B7 I8 I9 E0 K8 L5 L7) (n:=a0.words.length) (s0:=[])
   (fun(gs0:Nat) (k0:Nat) (s0:(List Bs))=>[(1,.sl false 1 16 (rows w8 a1)),(2,.ptr o0 0 0 0),(3,.ptr o1 0 0 0),(4,.ptr st.length 0 0 0),(6,.ptr (st.length+1) 0 0 0),(7,.ptr (st.length+2) 0 0 0),(18,.sl false 1 16 (rows w8 a0.words)),(19,.int .i64 (↑a0.words.length:Int)),(20,.int .i64 (↑k0:Int))])
   (fun(gs0:Nat) (k0:Nat) (s0:(List Bs))=>(C0 st [(o0,(.arr 0 7 0 [[.int .i64 B7,.str I8,.sl false 1 16 (rows w8 I9),.sl false 4 72 (rows u5.cells E0),.sl false 1 16 (rows w8 K8),.sl false 1 16 (rows w8 L5),.sl false 1 16 (rows w8 L7)]])),(o1,(.arr 0 1 0 [[.fn 121 [] [.ptr o0 0 0 0,.ptr o1 0 0 0]]]))])++[some (.arr 0 4 0 [[.int .i64 a0.kind,.str a0.name,.sl false 1 16 (rows w8 a0.words),.sl false 4 72 (rows u5.cells a0.subs)]]),some (.arr 0 4 0 [[.int .i64 0,.str [],.B2,.B2]]),some (.arr 0 4 0 [[.int .i64 a0.kind,.str a0.name,.ref false (st.length+3) gs0 0 s0.length,.B2]]),some (.arr gs0 1 16 (rows w8 s0))])
   (fun(gt0:Nat) (t0:(List Bs))=>[(1,.sl false 1 16 (rows w8 a1)),(2,.ptr o0 0 0 0),(3,.ptr o1 0 0 0),(4,.ptr st.length 0 0 0),(6,.ptr (st.length+1) 0 0 0),(7,.ptr (st.length+2) 0 0 0)])
   (fun(gt0:Nat) (t0:(List Bs))=>(C0 st [(o0,(.arr 0 7 0 [[.int .i64 B7,.str I8,.sl false 1 16 (rows w8 I9),.sl false 4 72 (rows u5.cells E0),.sl false 1 16 (rows w8 K8),.sl false 1 16 (rows w8 L5),.sl false 1 16 (rows w8 L7)]])),(o1,(.arr 0 1 0 [[.fn 121 [] [.ptr o0 0 0 0,.ptr o1 0 0 0]]]))])++[some (.arr 0 4 0 [[.int .i64 a0.kind,.str a0.name,.sl false 1 16 (rows w8 a0.words),.sl false 4 72 (rows u5.cells a0.subs)]]),some (.arr 0 4 0 [[.int .i64 0,.str [],.B2,.B2]]),some (.arr 0 4 0 [[.int .i64 a0.kind,.str a0.name,.ref false (st.length+3) gt0 0 t0.length,.B2]]),some (.arr gt0 1 16 (rows w8 t0))])
   0 fx hl0 h (bu hsc)
   (fun gs0 k0 s0 b0 fx h hx0=>?_) (fun gs0 s0=>?_) (fun gt0 t0 fr1 st1 h hb=>?_)
  ·unfold aF at h
   refine ct ?_
   refine cl h (B1 _ _) fun v23 h=>?_
   refine cd h (fun hc h=>?_) fun hc h=>?_
   ·obtain⟨fx,h⟩:=ck fx h
    refine r0 ?_
    obtain⟨c26,OX,h⟩:=gq h
    have fy:=(show rows w8 s0++[[.str (mG [63] (get a0.words k0))]]=rows w8 c26 from by rw[OX];first|exact D5 (E:=w8) s0 [(mG [63] (get a0.words k0))]|simp only[go_sem,rows,List.map_append,List.map_cons,List.map_nil])
    have fy:=fa fy (show s0.length+1=c26.length from by rw[OX];simp)
    obtain⟨fx,h⟩:=ck fx h
    refine r1 ?_
    refine rn ?_
    cases h
    exact cj (gs0+1) (bu hsc)
   ·refine cl h (B1 _ _) fun v31 h=>?_
    refine cd h (fun hc h=>?_) fun hc h=>?_
    ·obtain⟨fx,h⟩:=ck fx h
     refine r0 ?_
     obtain⟨c34,OU,h⟩:=gq h
     have fy:=(show rows w8 s0++[[.str (mG [46] (get a0.words k0))]]=rows w8 c34 from by rw[OU];first|exact D5 (E:=w8) s0 [(mG [46] (get a0.words k0))]|simp only[go_sem,rows,List.map_append,List.map_cons,List.map_nil])
     have fy:=fa fy (show s0.length+1=c34.length from by rw[OU];simp)
     obtain⟨fx,h⟩:=ck fx h
     refine r1 ?_
     refine rn ?_
     cases h
     exact cj (gs0+1) (bu hsc)
    ·refine r0 ?_
     obtain⟨c40,OY,h⟩:=gq h
     have fy:=(show rows w8 s0++[[.str (get a0.words k0)]]=rows w8 c40 from by rw[OY];first|exact D5 (E:=w8) s0 [(get a0.words k0)]|simp only[go_sem,rows,List.map_append,List.map_cons,List.map_nil])
     have fy:=fa fy (show s0.length+1=c40.length from by rw[OY];simp)
     obtain⟨fx,h⟩:=ck fx h
     refine r1 ?_
     refine rn ?_
     cases h
     exact cj (gs0+1) (bu hsc)
  ·refine cf ?_
   refine cM ?_;simp only[go_sem,fx]
   exact⟨gs0,(bu hsc)⟩
  ·try simp only[go_sem,fx]
   unfold aI at h
   refine L6 hb ?_
   refine cl h (D6 _) fun v45 h=>?_
   refine rn ?_
   refine cR (I0 (I6 n) a0 B7 I8 I9 E0 K8 L5 L7 t0) r (fun(gj1:Unit) (j1:Bs×(List Bs))=>[(1,.sl false 1 16 (rows w8 j1.2)),(3,.ptr o1 0 0 0),(4,.ptr st.length 0 0 0),(6,.ptr (st.length+1) 0 0 0),(7,.ptr (st.length+2) 0 0 0)]) (fun(gj1:Unit) (j1:Bs×(List Bs))=>(C0 st [(o0,(.arr 0 7 0 [[.int .i64 B7,.str I8,.sl false 1 16 (rows w8 I9),.sl false 4 72 (rows u5.cells E0),.sl false 1 16 (rows w8 K8),.sl false 1 16 (rows w8 L5),.sl false 1 16 (rows w8 L7)]])),(o1,(.arr 0 1 0 [[.fn 121 [] [.ptr o0 0 0 0,.ptr o1 0 0 0]]]))])++[some (.arr 0 4 0 [[.int .i64 a0.kind,.str a0.name,.sl false 1 16 (rows w8 a0.words),.sl false 4 72 (rows u5.cells a0.subs)]]),some (.arr 0 4 0 [[.int .i64 0,.str [],.B2,.B2]]),some (.arr 0 4 0 [[.int .i64 a0.kind,.str j1.1,.ref false (st.length+3) gt0 0 t0.length,.B2]]),some (.arr gt0 1 16 (rows w8 t0))]) (fun gj1 j1 fr1 st1 h hb=>?_) (fun hj1=>?_)
   ·try simp only[go_sem,fx]
    unfold I0 at h
    refine L6 hb ?_
    (repeat apply sq_)
    refine L6 (F:=[(1,.sl false 1 16 (rows w8 j1.2)),(3,.ptr o1 0 0 0),(4,.ptr st.length 0 0 0),(6,.ptr (st.length+1) 0 0 0),(7,.ptr (st.length+2) 0 0 0)]) (T:=(C0 st [(o0,(.arr 0 7 0 [[.int .i64 B7,.str I8,.sl false 1 16 (rows w8 I9),.sl false 4 72 (rows u5.cells E0),.sl false 1 16 (rows w8 K8),.sl false 1 16 (rows w8 L5),.sl false 1 16 (rows w8 L7)]])),(o1,(.arr 0 1 0 [[.fn 121 [] [.ptr o0 0 0 0,.ptr o1 0 0 0]]]))])++[some (.arr 0 4 0 [[.int .i64 a0.kind,.str a0.name,.sl false 1 16 (rows w8 a0.words),.sl false 4 72 (rows u5.cells a0.subs)]]),some (.arr 0 4 0 [[.int .i64 0,.str [],.B2,.B2]]),some (.arr 0 4 0 [[.int .i64 a0.kind,.str j1.1,.sl false 1 16 (rows w8 t0),.B2]])]) (ey (by simp) (P1 hsc (by simp<;>omega)) (.lv (.lv (.live _ _ _ _ (.arr _ _ _ _ _ (.cons _ _ _ _ (.cons _ _ _ _ .s (.cons _ _ _ _ .s (.cons _ _ _ _ (.ref _ _ _ _ _ _ _ _ _ (D1.trans rfl) (fR (by first|decide|simp)) (by decide) (jS _) (by simp only[go_sem])) (.cons _ _ _ _ .s .nil)))) (.same _))) (.nil _)))) (by simp<;>omega) ⟨.s,.s,.s,.s,.s,trivial⟩ (by simp<;>omega)) ?_
    refine r0 ?_
    (repeat apply sq_)
    refine S4 4 72 ?_
    try simp only[List.append_assoc,List.cons_append,List.nil_append]
    refine L6 (F:=[(1,.sl false 1 16 (rows w8 j1.2)),(3,.ptr o1 0 0 0),(6,.ptr (st.length+1) 0 0 0),(7,.ptr (st.length+2) 0 0 0),(81,.sl false 4 72 (rows u5.cells a0.subs)),(82,.int .i64 (↑a0.subs.length:Int)),(83,.int .i64 0)]) (T:=(C0 st [(o0,(.arr 0 7 0 [[.int .i64 B7,.str I8,.sl false 1 16 (rows w8 I9),.sl false 4 72 (rows u5.cells E0),.sl false 1 16 (rows w8 K8),.sl false 1 16 (rows w8 L5),.sl false 1 16 (rows w8 L7)]])),(o1,(.arr 0 1 0 [[.fn 121 [] [.ptr o0 0 0 0,.ptr o1 0 0 0]]]))])++[some (.arr 0 4 0 [[.int .i64 a0.kind,.str a0.name,.sl false 1 16 (rows w8 a0.words),.sl false 4 72 (rows u5.cells a0.subs)]]),some (.arr 0 4 0 [[.int .i64 0,.str [],.B2,.B2]]),some (.arr 0 4 0 [[.int .i64 a0.kind,.str j1.1,.sl false 1 16 (rows w8 t0),.ref false (st.length+3) 0 0 0]]),some (.arr 0 4 72 (rows u5.cells []))]) (ey (by simp) (P1 hsc (by simp<;>omega)) (.lv (.lv (.live _ _ _ _ (.arr _ _ _ _ _ (.cons _ _ _ _ (.cons _ _ _ _ .s (.cons _ _ _ _ .s (.cons _ _ _ _ .s (.cons _ _ _ _ (.nref _ _ _ _ _ _ (D1.trans rfl)) .nil)))) (.same _))) (.lv (.nil _))))) (by simp<;>omega) ⟨.s,.s,.s,.s,.s,.s,.s,trivial⟩ (by simp<;>omega)) ?_
    refine aln 81 fun hl2=>?_
    refine rng (body:=aG (I6 n) a0 j1 B7 I8 I9 E0 K8 L5 L7) (kk:=aH a0 j1 t0) (n:=a0.subs.length) (s0:=[])
     (fun(gs2:Nat) (k2:Nat) (s2:(List u5))=>[(1,.sl false 1 16 (rows w8 j1.2)),(3,.ptr o1 0 0 0),(6,.ptr (st.length+1) 0 0 0),(7,.ptr (st.length+2) 0 0 0),(81,.sl false 4 72 (rows u5.cells a0.subs)),(82,.int .i64 (↑a0.subs.length:Int)),(83,.int .i64 (↑k2:Int))])
     (fun(gs2:Nat) (k2:Nat) (s2:(List u5))=>(C0 st [(o0,(.arr 0 7 0 [[.int .i64 B7,.str I8,.sl false 1 16 (rows w8 I9),.sl false 4 72 (rows u5.cells E0),.sl false 1 16 (rows w8 K8),.sl false 1 16 (rows w8 L5),.sl false 1 16 (rows w8 L7)]])),(o1,(.arr 0 1 0 [[.fn 121 [] [.ptr o0 0 0 0,.ptr o1 0 0 0]]]))])++[none,some (.arr 0 4 0 [[.int .i64 0,.str [],.B2,.B2]]),some (.arr 0 4 0 [[.int .i64 a0.kind,.str j1.1,.sl false 1 16 (rows w8 t0),.ref false (st.length+3) gs2 0 s2.length]]),some (.arr gs2 4 72 (rows u5.cells s2))])
     (fun(gt2:Nat) (t2:(List u5))=>[(6,.ptr (st.length+1) 0 0 0),(7,.ptr (st.length+2) 0 0 0)])
     (fun(gt2:Nat) (t2:(List u5))=>(C0 st [(o0,(.arr 0 7 0 [[.int .i64 B7,.str I8,.sl false 1 16 (rows w8 I9),.sl false 4 72 (rows u5.cells E0),.sl false 1 16 (rows w8 K8),.sl false 1 16 (rows w8 L5),.sl false 1 16 (rows w8 L7)]])),(o1,(.arr 0 1 0 [[.fn 121 [] [.ptr o0 0 0 0,.ptr o1 0 0 0]]]))])++[none,some (.arr 0 4 0 [[.int .i64 0,.str [],.B2,.B2]]),some (.arr 0 4 0 [[.int .i64 a0.kind,.str j1.1,.sl false 1 16 (rows w8 t0),.ref false (st.length+3) gt2 0 t2.length]]),some (.arr gt2 4 72 (rows u5.cells t2))])
     0 fx hl2 h (bu hsc)
     (fun gs2 k2 s2 b2 fx h hx2=>?_) (fun gs2 s2=>?_) (fun gt2 t2 fr1 st1 h hb=>?_)
    ·unfold aG at h
     refine ct ?_
     refine rn ?_
     refine dw [1,5] 2 ?_
     obtain⟨v65,hv65,h⟩:=J5 h
     refine bG [o0,o1] (fun st2 h2=>(ih _ _ _ _ _ _ _ _ _ _ hv65 st2 _ _ hnd ((h2 _ (by simp)).trans (by simp only[go_sem,fx])) ((h2 _ (by simp)).trans (by simp only[go_sem,fx])))) (by simp) (by simp only[List.mem_cons,List.not_mem_nil,or_false,forall_eq_or_imp,forall_eq];exact⟨⟨by first|omega|(simp<;>omega),_,(by simp only[go_sem,fx]<;>rfl),Ob.noConfusion⟩,⟨by first|omega|(simp<;>omega),_,(by simp only[go_sem,fx]<;>rfl),Ob.noConfusion⟩⟩) (by simp) ?_
     obtain⟨c67,Sl,h⟩:=gq h
     have fy:=(show rows u5.cells s2++[[.int .i64 v65.kind,.str v65.name,.sl false 1 16 (rows w8 v65.words),.sl false 4 72 (rows u5.cells v65.subs)]]=rows u5.cells c67 from by rw[Sl];first|exact D5 (E:=u5.cells) s2 [v65]|simp only[go_sem,rows,List.map_append,List.map_cons,List.map_nil])
     have fy:=fa fy (show s2.length+1=c67.length from by rw[Sl];simp)
     obtain⟨fx,h⟩:=ck fx h
     try simp only[go_sem,fx,fy]
     try refine⟨by first|omega|(simp<;>omega),?_⟩
     refine rn ?_
     cases h
     exact cj (gs2+1) (bu hsc)
    ·refine cf ?_
     refine cM ?_;simp only[go_sem,fx]
     exact⟨gs2,(bu hsc)⟩
    ·try simp only[go_sem,fx]
     unfold aH at h
     refine L6 hb ?_
     refine rr ?_
     exact fuo (.agg [.int .i64 a0.kind,.str j1.1,.sl false 1 16 (rows w8 t0),.sl false 4 72 (rows u5.cells t2)]) (.agg _ _ (.cons _ _ _ _ .s (.cons _ _ _ _ .s (.cons _ _ _ _ .s (.cons _ _ _ _ (.ref _ _ _ _ _ _ _ _ _ (D1.trans rfl) W0 (by decide) (jS _) (by simp only[go_sem])) .nil))))) h hsc (hr:=by rintro rfl;exact⟨rfl,B6 (by simp[G2,P9])⟩)
   ·refine cd h (fun hc h=>?_) fun hc h=>?_
    ·(repeat apply sq_)
     refine S4 1 16 ?_
     try simp only[List.append_assoc,List.cons_append,List.nil_append]
     refine L6 (F:=[(1,.sl false 1 16 (rows w8 a1)),(2,.ptr o0 0 0 0),(3,.ptr o1 0 0 0),(4,.ptr st.length 0 0 0),(6,.ptr (st.length+1) 0 0 0),(7,.ptr (st.length+2) 0 0 0),(44,.bool v45)]) (T:=(C0 st [(o0,(.arr 0 7 0 [[.int .i64 B7,.str I8,.sl false 1 16 (rows w8 I9),.sl false 4 72 (rows u5.cells E0),.sl false 1 16 (rows w8 K8),.sl false 1 16 (rows w8 L5),.sl false 1 16 (rows w8 L7)]])),(o1,(.arr 0 1 0 [[.fn 121 [] [.ptr o0 0 0 0,.ptr o1 0 0 0]]]))])++[some (.arr 0 4 0 [[.int .i64 a0.kind,.str a0.name,.sl false 1 16 (rows w8 a0.words),.sl false 4 72 (rows u5.cells a0.subs)]]),some (.arr 0 4 0 [[.int .i64 0,.str [],.B2,.B2]]),some (.arr 0 4 0 [[.int .i64 a0.kind,.str a0.name,.ref false (st.length+3) gt0 0 t0.length,.B2]]),some (.arr gt0 1 16 (rows w8 t0)),some (.arr 0 1 16 (rows w8 []))]) (ey (by simp) (P1 hsc (by simp<;>omega)) (.lv (.lv (.lv (.lv (.lv (.nil _)))))) (by simp<;>omega) ⟨.s,.s,.s,.s,.s,.s,.s,trivial⟩ (by simp<;>omega)) ?_
     refine rs ?_
     refine dw [1,3] 2 ?_
     obtain⟨v46,hv46,h⟩:=J5 h
     refine bG [(st.length+4)] (fun st2 h2=>(J9 _ _ _ hv46 st2 (st.length+4) 0 (by simp) ((h2 _ (by simp)).trans (C6.trans rfl)))) (by simp) (by simp only[List.mem_cons,List.not_mem_nil,or_false,forall_eq_or_imp,forall_eq];exact⟨by first|omega|(simp<;>omega),_,(C6.trans rfl),Ob.noConfusion⟩) (by simp) ?_
     obtain⟨c48,Sm,h⟩:=gq h
     have fy:=(show rows w8 v46++[[.str a0.name]]=rows w8 c48 from by rw[Sm];first|exact D5 (E:=w8) v46 [a0.name]|simp only[go_sem,rows,List.map_append,List.map_cons,List.map_nil])
     have fy:=fa fy (show v46.length+1=c48.length from by rw[Sm];simp)
     obtain⟨fx,h⟩:=ck fx h
     try simp only[go_sem,fx,fy]
     try refine⟨by first|omega|(simp<;>omega),?_⟩
     obtain⟨fx,h⟩:=ck fx h
     refine r0 ?_
     refine hj1 () _ _ _ h ?_;exact(bu hsc (hf:=⟨.ref _ _ _ _ _ _ _ _ _ (D1.trans rfl) (fR (by first|decide|simp)) (by decide) (jS _) (by simp only[go_sem]),.s,.s,.s,.s,trivial⟩))
    ·refine cl h (Q9 _ _) fun v54 h=>?_
     refine cd h (fun hc h=>?_) fun hc h=>?_
     ·obtain⟨fx,h⟩:=ck fx h
      refine r0 ?_
      refine hj1 () _ _ _ h ?_;exact(bu hsc)
     ·refine rn ?_
      obtain⟨v56,hv56,h⟩:=J5 h
      refine bR (fun hG=>(B1 _ _ _ (qh hv56 (by simpa using hG)))) ?_
      refine cd h (fun hc h=>?_) fun hc h=>?_
      ·obtain⟨fx,h⟩:=ck fx h
       refine r0 ?_
       refine hj1 () _ _ _ h ?_;exact(bu hsc)
      ·refine r0 ?_
       refine hj1 () _ _ _ h ?_;exact(bu hsc)
end Go.Proofs.YtanlbioodbnakaaGreatDoor
