import Derived.Test.YtfacbpehlibilaaGreatDoorTAWalk2
set_option linter.unusedVariables false
set_option linter.unusedSimpArgs false
set_option maxHeartbeats 2000000
set_option maxRecDepth 100000
namespace Go.Proofs.YtfacbpehlibilaaGreatDoor
open Go Go.Am
theorem d7N(n:Nat)(a0:Wq)(r:Bool)(h:d1A n a0=some r):Pure Tryz.prog gl 32 [.agg [.int .i64 a0.from_.form.kind,.str a0.from_.form.name,.sl false 1 16 (rows Wt a0.from_.form.words),.sl false 4 72 (rows Lr.cells a0.from_.form.subs),.sl false 1 16 (rows Wt a0.from_.words),.sl false 1 16 (rows Wt a0.from_.WO),.sl false 1 16 (rows Wt a0.from_.parts),.int .i64 a0.to_.kind,.str a0.to_.name,.sl false 1 16 (rows Wt a0.to_.words),.sl false 4 72 (rows Lr.cells a0.to_.subs)]] (.bool r):=by
 intro st
 unfold d1A at h
 have fx:=trivial
 refine fb 18 [.tmp 2] [0,1,2,3,4,5] Tryz.func32 fun hsc=>?_
 refine rn ?_
 obtain⟨v1,hv1,h⟩:=ZA h
 refine(d8v n _ _ hv1 _).mono ?_
 rintro d1 st1 ⟨rfl,rfl⟩
 refine cl h (XO n _) fun v2 h=>?_
 refine rn ?_
 obtain⟨v3,hv3,h⟩:=ZA h
 refine((d6Y n _ _ _ _ _ _ _ _ _ _ _ _ _ _ _ _ hv3 _ _ _ _ _ _ (by simp) (d3q.trans rfl) (d4H.trans rfl) (d4H.trans rfl) (d4H.trans rfl) (d4H.trans rfl)).up (.cons _ _ _ _ .s (.cons _ _ _ _ (.WB _ _ _ (by decide)) (.cons _ _ _ _ .s (.cons _ _ _ _ .s (.cons _ _ _ _ .s (.cons _ _ _ _ .s .nil)))))) (by simp<;>omega)).mono ?_
 rintro d1 st1 ⟨rfl,rfl⟩
 exact rt
theorem d6Z(n:Nat)(a0:(List Wq))(r:WC)(h:d0Z n a0=some r):Pure Tryz.prog gl 11 [.sl false 11 216 (rows Wq.cells a0)] (.agg [.int .i64 r.code,.int .i64 r.index]):=by
 intro st
 unfold d0Z at h
 have fx:=trivial
 refine fb 80 [.cell 2 25] [0,2,3,4,5,6,7,8,9,12,14,15,16,17,26,36,44,52,53,54,55,65,66,67,68,69,70,75] Tryz.func11 fun hsc=>?_
 refine cd h (fun hc h=>?_) fun hc h=>?_
 ·refine cl h (Yt _ _) fun v1 h=>?_
  exact rt
 ·refine aln 14 fun hl0=>?_
  refine rng (body:=d0O n a0) (kk:=d0R) (n:=a0.length) (s0:=())
   (fun(gs0:Unit) (k0:Nat) (s0:Unit)=>[(2,.ptr st.length 0 0 0),(14,.sl false 11 216 (rows Wq.cells a0)),(15,.int .i64 (↑a0.length:Int)),(16,.int .i64 (↑k0:Int))])
   (fun(gs0:Unit) (k0:Nat) (s0:Unit)=>st++[some (.arr 0 2 0 [[.int .i64 0,.int .i64 0]])])
   (fun(gt0:Unit) (t0:Unit)=>[(2,.ptr st.length 0 0 0)])
   (fun(gt0:Unit) (t0:Unit)=>st++[some (.arr 0 2 0 [[.int .i64 0,.int .i64 0]])])
   () fx hl0 h (bm hsc)
   (fun gs0 k0 s0 b0 fx h hx0=>?_) (fun gs0 s0=>?_) (fun gt0 t0 fr1 st1 h hb=>?_)
  ·unfold d0O at h
   refine ct ?_
   refine cl h (d6v n _) fun v21 h=>?_
   refine cd h (fun hc h=>?_) fun hc h=>?_
   ·refine cl h (Yt _ _) fun v22 h=>?_
    refine ra ?_
    cases h
    refine XY ?_;have h:=congrArg some (hx0 _ rfl)
    exact rt
   ·refine cl h (YT _ _) fun v23 h=>?_
    refine cd h (fun hc h=>?_) fun hc h=>?_
    ·refine cl h (Yt _ _) fun v24 h=>?_
     refine ra ?_
     cases h
     refine XY ?_;have h:=congrArg some (hx0 _ rfl)
     exact rt
    ·refine cl h (d1q n _) fun v25 h=>?_
     refine cd h (fun hc h=>?_) fun hc h=>?_
     ·refine cl h (Yt _ _) fun v26 h=>?_
      refine ra ?_
      cases h
      refine XY ?_;have h:=congrArg some (hx0 _ rfl)
      exact rt
     ·refine cl h (XO n _) fun v27 h=>?_
      refine aln 7 fun hl2=>?_
      refine rng (body:=d0P v27 a0 k0) (kk:=d0Q n a0 k0) (n:=v27.length) (s0:=())
       (fun(gs2:Unit) (k2:Nat) (s2:Unit)=>[(2,.ptr st.length 0 0 0),(3,.int .i64 (↑k0:Int)),(4,.ptr (st.length+1) 0 0 0),(7,.sl false 1 16 (rows Wt v27)),(14,.sl false 11 216 (rows Wq.cells a0)),(15,.int .i64 (↑a0.length:Int)),(16,.int .i64 (↑k0:Int)),(52,.sl false 1 16 (rows Wt v27)),(53,.int .i64 (↑v27.length:Int)),(54,.int .i64 (↑k2:Int))])
       (fun(gs2:Unit) (k2:Nat) (s2:Unit)=>st++[some (.arr 0 2 0 [[.int .i64 0,.int .i64 0]]),some (.arr 0 11 0 [[.int .i64 ((get a0 k0).from_.form.kind),.str ((get a0 k0).from_.form.name),.sl false 1 16 (rows Wt ((get a0 k0).from_.form.words)),.sl false 4 72 (rows Lr.cells ((get a0 k0).from_.form.subs)),.sl false 1 16 (rows Wt ((get a0 k0).from_.words)),.sl false 1 16 (rows Wt ((get a0 k0).from_.WO)),.sl false 1 16 (rows Wt ((get a0 k0).from_.parts)),.int .i64 ((get a0 k0).to_.kind),.str ((get a0 k0).to_.name),.sl false 1 16 (rows Wt ((get a0 k0).to_.words)),.sl false 4 72 (rows Lr.cells ((get a0 k0).to_.subs))]])])
       (fun(gt2:Unit) (t2:Unit)=>[(2,.ptr st.length 0 0 0),(3,.int .i64 (↑k0:Int)),(4,.ptr (st.length+1) 0 0 0),(14,.sl false 11 216 (rows Wq.cells a0)),(15,.int .i64 (↑a0.length:Int)),(16,.int .i64 (↑k0:Int))])
       (fun(gt2:Unit) (t2:Unit)=>st++[some (.arr 0 2 0 [[.int .i64 0,.int .i64 0]]),some (.arr 0 11 0 [[.int .i64 ((get a0 k0).from_.form.kind),.str ((get a0 k0).from_.form.name),.sl false 1 16 (rows Wt ((get a0 k0).from_.form.words)),.sl false 4 72 (rows Lr.cells ((get a0 k0).from_.form.subs)),.sl false 1 16 (rows Wt ((get a0 k0).from_.words)),.sl false 1 16 (rows Wt ((get a0 k0).from_.WO)),.sl false 1 16 (rows Wt ((get a0 k0).from_.parts)),.int .i64 ((get a0 k0).to_.kind),.str ((get a0 k0).to_.name),.sl false 1 16 (rows Wt ((get a0 k0).to_.words)),.sl false 4 72 (rows Lr.cells ((get a0 k0).to_.subs))]])])
       () fx hl2 h (bm hsc)
       (fun gs2 k2 s2 b2 fx h hx2=>?_) (fun gs2 s2=>?_) (fun gt2 t2 fr1 st1 h hb=>?_)
      ·unfold d0P at h
       refine ct ?_
       obtain⟨fx,h⟩:=ck fx h
       refine cl h (Wx _ _) fun v35 h=>?_
       refine rn ?_
       obtain⟨v36,hv36,h⟩:=ZA h
       refine d2H (fun hG=>(Wx _ _ _ (i5t hv36 (by simpa using hG)))) ?_
       refine cd h (fun hc h=>?_) fun hc h=>?_
       ·refine cl h (Yt _ _) fun v37 h=>?_
        refine ra ?_
        cases h
        refine XY ?_;obtain rfl:=hx2 _ rfl;try simp only[go_sem,fx]
        refine XY ?_;have h:=congrArg some (hx0 _ rfl)
        exact rt
       ·refine rn ?_
        cases h
        exact d2U () (bm hsc)
      ·refine cf ?_
       refine d2V ?_;simp only[go_sem,fx]
       exact⟨(),(bm hsc)⟩
      ·try simp only[go_sem,fx]
       unfold d0Q at h
       refine Zk hb ?_
       refine cl h (d7N n _) fun v38 h=>?_
       refine cd h (fun hc h=>?_) fun hc h=>?_
       ·refine cl h (Yt _ _) fun v39 h=>?_
        refine ra ?_
        cases h
        refine XY ?_;have h:=congrArg some (hx0 _ rfl)
        exact rt
       ·refine rn ?_
        cases h
        exact d2U () (bm hsc)
  ·refine cf ?_
   refine d2V ?_;simp only[go_sem,fx]
   exact⟨(),(bm hsc)⟩
  ·try simp only[go_sem,fx]
   unfold d0R at h
   refine Zk hb ?_
   exact rt
theorem d5w(n:Nat)(a0:(List Wq))(a1:Lr)(r:WC)(h:ZU n a0 a1=some r):Pure Tryz.prog gl 38 [.sl false 11 216 (rows Wq.cells a0),.agg [.int .i64 a1.kind,.str a1.name,.sl false 1 16 (rows Wt a1.words),.sl false 4 72 (rows Lr.cells a1.subs)]] (.agg [.int .i64 r.code,.int .i64 r.index]):=by
 intro st
 unfold ZU at h
 have fx:=trivial
 refine fb 14 [.cell 4 25] [0,1,3,4,5,10] Tryz.func38 fun hsc=>?_
 refine cl h (d6Z n _) fun v1 h=>?_
 refine cd h (fun hc h=>?_) fun hc h=>?_
 ·exact rt
 ·refine cl h (d1q n _) fun v2 h=>?_
  exact rt
theorem d2S(WH:(List Wq))(Xf:Int)(m1:(List (Bs×Int)))(l2:(List Wp))(r:Bs×Int)(h:Zv WH Xf m1 l2=some r):∀(st:St) (o0 o1 o2 q2:Nat) (hnd: [o0,o1,o2].Nodup) (XZ:Am.look st o0=some (.arr 0 4 0 [[.sl false 11 216 (rows Wq.cells WH),.mp o1,.ref false o2 q2 0 l2.length,.int .i64 Xf]])) (ZG:Am.look st o1=some (.mps false (mrw d1r m1))) (d1V:Am.look st o2=some (.arr q2 2 16 (rows Wp.cells l2))),Am.Spec Tryz.prog gl 88 [.ptr o0 0 0 0] st (fun d st'=>d= .str r.1∧st'=puts st [(o0,(.arr 0 4 0 [[.sl false 11 216 (rows Wq.cells WH),.mp o1,.ref false o2 q2 0 l2.length,.int .i64 r.2]])),(o1,(.mps false (mrw d1r m1))),(o2,(.arr q2 2 16 (rows Wp.cells l2)))]):=by
 intro st o0 o1 o2 q2 hnd XZ ZG d1V
 unfold Zv at h
 have ho0:=WA XZ
 have ho1:=WA ZG
 have ho2:=WA d1V
 have fx:=fa (fa (fa (idf ho0) (idf ho1)) (idf ho2)) (nd3 hnd)
 refine fb 16 [.tmp 2] [0,2] Tryz.func88 fun hsc=>?_
 refine ZJ (s':=(WE st [(o0,(.arr 0 4 0 [[.sl false 11 216 (rows Wq.cells WH),.mp o1,.ref false o2 q2 0 l2.length,.int .i64 Xf]])),(o1,(.mps false (mrw d1r m1))),(o2,(.arr q2 2 16 (rows Wp.cells l2)))])) (WJ (by simp[XZ,ZG,d1V])) ?_
 refine cl h (i0M _) fun v1 h=>?_
 obtain⟨fx,h⟩:=ck fx h
 refine rr ?_
 exact fus (.str (d9u [63] v1)) (.same _) h hsc
theorem d5Z:∀(n:Nat) (a1:Lr) (WH:(List Wq)) (Xf:Int) (m1:(List (Bs×Int))) (l2:(List Wp)) (m3:(List (Bs×Bs))) (r:Lr×Int) (h:XB n a1 WH Xf m1 l2 m3=some r),∀(st:St) (o0 o1 o2 o3 q2:Nat) (hnd: [o0,o1,o2,o3].Nodup) (XZ:Am.look st o0=some (.arr 0 4 0 [[.sl false 11 216 (rows Wq.cells WH),.mp o1,.ref false o2 q2 0 l2.length,.int .i64 Xf]])) (ZG:Am.look st o1=some (.mps false (mrw d1r m1))) (d1V:Am.look st o2=some (.arr q2 2 16 (rows Wp.cells l2))) (d4b:Am.look st o3=some (.mps false (mrw Wt m3))),Am.Spec Tryz.prog gl 63 [.ptr o0 0 0 0,.agg [.int .i64 a1.kind,.str a1.name,.sl false 1 16 (rows Wt a1.words),.sl false 4 72 (rows Lr.cells a1.subs)],.mp o3] st (fun d st'=>d= .agg [.int .i64 r.1.kind,.str r.1.name,.sl false 1 16 (rows Wt r.1.words),.sl false 4 72 (rows Lr.cells r.1.subs)]∧st'=puts st [(o0,(.arr 0 4 0 [[.sl false 11 216 (rows Wq.cells WH),.mp o1,.ref false o2 q2 0 l2.length,.int .i64 r.2]])),(o1,(.mps false (mrw d1r m1))),(o2,(.arr q2 2 16 (rows Wp.cells l2))),(o3,(.mps false (mrw Wt m3)))]):=by
 intro n
 induction n with
 |zero=>intro a1 WH Xf m1 l2 m3 r h;cases h
 |succ n ih=>
  intro a1 WH Xf m1 l2 m3 r h st o0 o1 o2 o3 q2 hnd XZ ZG d1V d4b
  unfold XB at h
  have ho0:=WA XZ
  have ho1:=WA ZG
  have ho2:=WA d1V
  have ho3:=WA d4b
  have fx:=fa (fa (fa (fa (idf ho0) (idf ho1)) (idf ho2)) (idf ho3)) (nd4 hnd)
  refine fb 84 [.cell 6 31] [0,1,2,4,6,7,9,10,11,12,13,14,16,23,24,25,26,35,45,48,50,67,68,69,70] Tryz.func63 fun hsc=>?_
  refine ZJ (s':=(WE st [(o0,(.arr 0 4 0 [[.sl false 11 216 (rows Wq.cells WH),.mp o1,.ref false o2 q2 0 l2.length,.int .i64 Xf]])),(o1,(.mps false (mrw d1r m1))),(o2,(.arr q2 2 16 (rows Wp.cells l2))),(o3,(.mps false (mrw Wt m3)))])) (WJ (by simp[XZ,ZG,d1V,d4b])) ?_
  refine r0 ?_
  refine r0 ?_
  refine r0 ?_
  (repeat apply sq_)
  refine d0f 1 16 ?_
  try simp only[List.append_assoc,List.cons_append,List.nil_append]
  refine Zk (F:=[(0,.ptr o0 0 0 0),(2,.mp o3),(4,.ptr st.length 0 0 0),(6,.ptr (st.length+1) 0 0 0),(7,.ptr (st.length+2) 0 0 0),(23,.sl false 1 16 (rows Wt a1.words)),(24,.int .i64 (↑a1.words.length:Int)),(25,.int .i64 0)]) (T:=(WE st [(o0,(.arr 0 4 0 [[.sl false 11 216 (rows Wq.cells WH),.mp o1,.ref false o2 q2 0 l2.length,.int .i64 Xf]])),(o1,(.mps false (mrw d1r m1))),(o2,(.arr q2 2 16 (rows Wp.cells l2))),(o3,(.mps false (mrw Wt m3)))])++[some (.arr 0 4 0 [[.int .i64 a1.kind,.str a1.name,.sl false 1 16 (rows Wt a1.words),.sl false 4 72 (rows Lr.cells a1.subs)]]),some (.arr 0 4 0 [[.int .i64 0,.str [],.WB,.WB]]),some (.arr 0 4 0 [[.int .i64 a1.kind,.str a1.name,.ref false (st.length+3) 0 0 0,.WB]]),some (.arr 0 1 16 (rows Wt []))]) (d1O (by simp) (YP hsc (by simp<;>omega)) (.lv (.lv (.live _ _ _ _ (.arr _ _ _ _ _ (.cons _ _ _ _ (.cons _ _ _ _ .s (.cons _ _ _ _ .s (.cons _ _ _ _ (.nref _ _ _ _ _ _ (WT.trans rfl)) (.cons _ _ _ _ .s .nil)))) (.same _))) (.lv (.nil _))))) (by simp<;>omega) ⟨.s,.s,.s,.s,.s,.s,.s,.s,trivial⟩ (by simp<;>omega)) ?_
  refine aln 23 fun hl0=>?_
  refine rng (body:=ZM a1 m3) (kk:=ZN (XB n) a1 WH Xf m1 l2 m3) (n:=a1.words.length) (s0:=[])
   (fun(gs0:Nat) (k0:Nat) (s0:(List Bs))=>[(0,.ptr o0 0 0 0),(2,.mp o3),(4,.ptr st.length 0 0 0),(6,.ptr (st.length+1) 0 0 0),(7,.ptr (st.length+2) 0 0 0),(23,.sl false 1 16 (rows Wt a1.words)),(24,.int .i64 (↑a1.words.length:Int)),(25,.int .i64 (↑k0:Int))])
   (fun(gs0:Nat) (k0:Nat) (s0:(List Bs))=>(WE st [(o0,(.arr 0 4 0 [[.sl false 11 216 (rows Wq.cells WH),.mp o1,.ref false o2 q2 0 l2.length,.int .i64 Xf]])),(o1,(.mps false (mrw d1r m1))),(o2,(.arr q2 2 16 (rows Wp.cells l2))),(o3,(.mps false (mrw Wt m3)))])++[some (.arr 0 4 0 [[.int .i64 a1.kind,.str a1.name,.sl false 1 16 (rows Wt a1.words),.sl false 4 72 (rows Lr.cells a1.subs)]]),some (.arr 0 4 0 [[.int .i64 0,.str [],.WB,.WB]]),some (.arr 0 4 0 [[.int .i64 a1.kind,.str a1.name,.ref false (st.length+3) gs0 0 s0.length,.WB]]),some (.arr gs0 1 16 (rows Wt s0))])
   (fun(gt0:Nat) (t0:(List Bs))=>[(0,.ptr o0 0 0 0),(2,.mp o3),(4,.ptr st.length 0 0 0),(6,.ptr (st.length+1) 0 0 0),(7,.ptr (st.length+2) 0 0 0)])
   (fun(gt0:Nat) (t0:(List Bs))=>(WE st [(o0,(.arr 0 4 0 [[.sl false 11 216 (rows Wq.cells WH),.mp o1,.ref false o2 q2 0 l2.length,.int .i64 Xf]])),(o1,(.mps false (mrw d1r m1))),(o2,(.arr q2 2 16 (rows Wp.cells l2))),(o3,(.mps false (mrw Wt m3)))])++[some (.arr 0 4 0 [[.int .i64 a1.kind,.str a1.name,.sl false 1 16 (rows Wt a1.words),.sl false 4 72 (rows Lr.cells a1.subs)]]),some (.arr 0 4 0 [[.int .i64 0,.str [],.WB,.WB]]),some (.arr 0 4 0 [[.int .i64 a1.kind,.str a1.name,.ref false (st.length+3) gt0 0 t0.length,.WB]]),some (.arr gt0 1 16 (rows Wt t0))])
   0 fx hl0 h (bu hsc)
   (fun gs0 k0 s0 b0 fx h hx0=>?_) (fun gs0 s0=>?_) (fun gt0 t0 fr1 st1 h hb=>?_)
  ·unfold ZM at h
   refine ct ?_
   refine cd h (fun hc h=>?_) fun hc h=>?_
   ·refine r0 ?_
    obtain⟨c14,p5H,h⟩:=d4o h
    have fy:=(show rows Wt s0++[[.str ((assoc (get a1.words k0) m3).getD default)]]=rows Wt c14 from by rw[p5H];first|exact Xi (E:=Wt) s0 [((assoc (get a1.words k0) m3).getD default)]|simp only[go_sem,rows,List.map_append,List.map_cons,List.map_nil])
    have fy:=fa fy (show s0.length+1=c14.length from by rw[p5H];simp)
    obtain⟨fx,h⟩:=ck fx h
    refine r1 ?_
    refine rn ?_
    cases h
    exact d2U (gs0+1) (bu hsc)
   ·refine r0 ?_
    obtain⟨c20,p8y,h⟩:=d4o h
    have fy:=(show rows Wt s0++[[.str (get a1.words k0)]]=rows Wt c20 from by rw[p8y];first|exact Xi (E:=Wt) s0 [(get a1.words k0)]|simp only[go_sem,rows,List.map_append,List.map_cons,List.map_nil])
    have fy:=fa fy (show s0.length+1=c20.length from by rw[p8y];simp)
    obtain⟨fx,h⟩:=ck fx h
    refine r1 ?_
    refine rn ?_
    cases h
    exact d2U (gs0+1) (bu hsc)
  ·refine cf ?_
   refine d2V ?_;simp only[go_sem,fx]
   exact⟨gs0,(bu hsc)⟩
  ·try simp only[go_sem,fx]
   unfold ZN at h
   refine Zk hb ?_
   refine cl h (WX _) fun v25 h=>?_
   refine cd h (fun hc h=>?_) fun hc h=>?_
   ·refine r0 ?_
    first|refine sq_ (i3V (b:=47) (tI:=12) (tE:=2) (tk:=13) (tv:=14) (id2:=2) (id3:=3) (i1:=12) (i2:=13) (i3:=14) (i4:=15) (F:=[(0,.ptr o0 0 0 0),(4,.ptr st.length 0 0 0),(6,.ptr (st.length+1) 0 0 0),(7,.ptr (st.length+2) 0 0 0),(12,.mp (st.length+4))]) (oi:=(st.length+4)) (oe:=o3) (es:=mrw Wt m3) Tryz.underlying126 Tryz.underlying9 (by decide) rfl rfl (by simp only[go_sem,fx]<;>rfl) rfl (by simp only[go_sem,fx]<;>rfl) (by omega) (by simp[Fr.leq,Fr.get]) rfl ?_)|refine i3V (b:=47) (tI:=12) (tE:=2) (tk:=13) (tv:=14) (id2:=2) (id3:=3) (i1:=12) (i2:=13) (i3:=14) (i4:=15) (F:=[(0,.ptr o0 0 0 0),(4,.ptr st.length 0 0 0),(6,.ptr (st.length+1) 0 0 0),(7,.ptr (st.length+2) 0 0 0),(12,.mp (st.length+4))]) (oi:=(st.length+4)) (oe:=o3) (es:=mrw Wt m3) Tryz.underlying126 Tryz.underlying9 (by decide) rfl rfl (by simp only[go_sem,fx]<;>rfl) rfl (by simp only[go_sem,fx]<;>rfl) (by omega) (by simp[Fr.leq,Fr.get]) rfl ?_
    try simp only[go_sem,fx]
    refine rn ?_
    obtain⟨v26,hv26,h⟩:=ZA h
    refine(d2S _ _ _ _ _ hv26 _ o0 o1 o2 q2 (by simp[fx]<;>omega) (by simp only[go_sem,fx]) (by simp only[go_sem,fx]) (by simp only[go_sem,fx])).mono ?_
    rintro d1 st1 ⟨rfl,rfl⟩
    try simp only[go_sem,fx]
    obtain⟨c27,p9g,h⟩:=d4o h
    have fy:=(show Wz a1.name [.str v26.1] (mrw Wt m3)=mrw Wt c27 from by rw[p9g];exact d4E (κ:=Bs) (E:=Wt) a1.name v26.1 m3)
    refine r1 ?_
    refine r0 ?_
    refine r0 ?_
    (repeat apply sq_)
    refine d0f 4 72 ?_
    try simp only[List.append_assoc,List.cons_append,List.nil_append]
    refine Zk (F:=[(0,.ptr o0 0 0 0),(2,.mp (st.length+4)),(6,.ptr (st.length+1) 0 0 0),(7,.ptr (st.length+2) 0 0 0),(67,.sl false 4 72 (rows Lr.cells a1.subs)),(68,.int .i64 (↑a1.subs.length:Int)),(69,.int .i64 0)]) (T:=(WE st [(o0,(.arr 0 4 0 [[.sl false 11 216 (rows Wq.cells WH),.mp o1,.ref false o2 q2 0 l2.length,.int .i64 v26.2]])),(o1,(.mps false (mrw d1r m1))),(o2,(.arr q2 2 16 (rows Wp.cells l2))),(o3,(.mps false (mrw Wt m3)))])++[some (.arr 0 4 0 [[.int .i64 a1.kind,.str a1.name,.sl false 1 16 (rows Wt a1.words),.sl false 4 72 (rows Lr.cells a1.subs)]]),some (.arr 0 4 0 [[.int .i64 0,.str [],.WB,.WB]]),some (.arr 0 4 0 [[.int .i64 a1.kind,.str v26.1,.ref false (st.length+3) gt0 0 t0.length,.ref false (st.length+5) 0 0 0]]),some (.arr gt0 1 16 (rows Wt t0)),some (.mps false (mrw Wt c27)),some (.arr 0 4 72 (rows Lr.cells []))]) (d1O (by simp) (YP hsc (by simp<;>omega)) (.lv (.lv (.live _ _ _ _ (.arr _ _ _ _ _ (.cons _ _ _ _ (.cons _ _ _ _ .s (.cons _ _ _ _ .s (.cons _ _ _ _ .s (.cons _ _ _ _ (.nref _ _ _ _ _ _ (WT.trans rfl)) .nil)))) (.same _))) (.lv (.lv (.lv (.nil _))))))) (by simp<;>omega) ⟨.s,.s,.s,.s,.s,.s,.s,trivial⟩ (by simp<;>omega)) ?_
    refine aln 67 fun hl1=>?_
    refine rng (body:=ZO (XB n) a1 WH m1 l2 c27) (kk:=ZP a1 v26 t0) (n:=a1.subs.length) (s0:=(v26.2,[]))
     (fun(gs1:Nat) (k1:Nat) (s1:Int×(List Lr))=>[(0,.ptr o0 0 0 0),(2,.mp (st.length+4)),(6,.ptr (st.length+1) 0 0 0),(7,.ptr (st.length+2) 0 0 0),(67,.sl false 4 72 (rows Lr.cells a1.subs)),(68,.int .i64 (↑a1.subs.length:Int)),(69,.int .i64 (↑k1:Int))])
     (fun(gs1:Nat) (k1:Nat) (s1:Int×(List Lr))=>(WE st [(o0,(.arr 0 4 0 [[.sl false 11 216 (rows Wq.cells WH),.mp o1,.ref false o2 q2 0 l2.length,.int .i64 s1.1]])),(o1,(.mps false (mrw d1r m1))),(o2,(.arr q2 2 16 (rows Wp.cells l2))),(o3,(.mps false (mrw Wt m3)))])++[none,some (.arr 0 4 0 [[.int .i64 0,.str [],.WB,.WB]]),some (.arr 0 4 0 [[.int .i64 a1.kind,.str v26.1,.ref false (st.length+3) gt0 0 t0.length,.ref false (st.length+5) gs1 0 s1.2.length]]),some (.arr gt0 1 16 (rows Wt t0)),some (.mps false (mrw Wt c27)),some (.arr gs1 4 72 (rows Lr.cells s1.2))])
     (fun(gt1:Nat) (t1:Int×(List Lr))=>[(6,.ptr (st.length+1) 0 0 0),(7,.ptr (st.length+2) 0 0 0)])
     (fun(gt1:Nat) (t1:Int×(List Lr))=>(WE st [(o0,(.arr 0 4 0 [[.sl false 11 216 (rows Wq.cells WH),.mp o1,.ref false o2 q2 0 l2.length,.int .i64 t1.1]])),(o1,(.mps false (mrw d1r m1))),(o2,(.arr q2 2 16 (rows Wp.cells l2))),(o3,(.mps false (mrw Wt m3)))])++[none,some (.arr 0 4 0 [[.int .i64 0,.str [],.WB,.WB]]),some (.arr 0 4 0 [[.int .i64 a1.kind,.str v26.1,.ref false (st.length+3) gt0 0 t0.length,.ref false (st.length+5) gt1 0 t1.2.length]]),some (.arr gt0 1 16 (rows Wt t0)),none,some (.arr gt1 4 72 (rows Lr.cells t1.2))])
     0 fx hl1 h (bu hsc)
     (fun gs1 k1 s1 b1 fx h hx1=>?_) (fun gs1 s1=>?_) (fun gt1 t1 fr1 st1 h hb=>?_)
    ·unfold ZO at h
     refine ct ?_
     refine rn ?_
     refine dw [1,5] 2 ?_
     obtain⟨v36,hv36,h⟩:=ZA h
     refine d2Y [o0,o1,o2,(st.length+4)] (fun st2 h2=>(ih _ _ _ _ _ _ _ hv36 st2 o0 o1 o2 (st.length+4) q2 (by simp[fx]<;>omega) ((h2 _ (by simp)).trans (by simp only[go_sem,fx])) ((h2 _ (by simp)).trans (by simp only[go_sem,fx])) ((h2 _ (by simp)).trans (by simp only[go_sem,fx])) ((h2 _ (by simp)).trans (WR.trans rfl)))) (by simp) (by simp only[List.mem_cons,List.not_mem_nil,or_false,forall_eq_or_imp,forall_eq];exact⟨⟨by first|omega|(simp<;>omega),_,(by simp only[go_sem,fx]<;>rfl),Ob.noConfusion⟩,⟨by first|omega|(simp<;>omega),_,(by simp only[go_sem,fx]<;>rfl),Ob.noConfusion⟩,⟨by first|omega|(simp<;>omega),_,(by simp only[go_sem,fx]<;>rfl),Ob.noConfusion⟩,⟨by first|omega|(simp<;>omega),_,(WR.trans rfl),Ob.noConfusion⟩⟩) (by simp) ?_
     obtain⟨c38,r1s,h⟩:=d4o h
     have fy:=(show rows Lr.cells s1.2++[[.int .i64 v36.1.kind,.str v36.1.name,.sl false 1 16 (rows Wt v36.1.words),.sl false 4 72 (rows Lr.cells v36.1.subs)]]=rows Lr.cells c38 from by rw[r1s];first|exact Xi (E:=Lr.cells) s1.2 [v36.1]|simp only[go_sem,rows,List.map_append,List.map_cons,List.map_nil])
     have fy:=fa fy (show s1.2.length+1=c38.length from by rw[r1s];simp)
     obtain⟨fx,h⟩:=ck fx h
     try simp only[go_sem,fx,fy]
     try refine⟨by first|omega|(simp<;>omega),?_⟩
     refine rn ?_
     cases h
     exact d2U (gs1+1) (bu hsc)
    ·refine cf ?_
     refine d2V ?_;simp only[go_sem,fx]
     exact⟨gs1,(bu hsc)⟩
    ·try simp only[go_sem,fx]
     unfold ZP at h
     refine Zk hb ?_
     refine rr ?_
     exact fuo (.agg [.int .i64 a1.kind,.str v26.1,.sl false 1 16 (rows Wt t0),.sl false 4 72 (rows Lr.cells t1.2)]) (.agg _ _ (.cons _ _ _ _ .s (.cons _ _ _ _ .s (.cons _ _ _ _ (.ref _ _ _ _ _ _ _ _ _ (WT.trans rfl) ZK (by decide) (d5x _) (by simp only[go_sem])) (.cons _ _ _ _ (.ref _ _ _ _ _ _ _ _ _ (WT.trans rfl) ZK (by decide) (d5x _) (by simp only[go_sem])) .nil))))) h hsc
   ·refine r0 ?_
    refine r0 ?_
    (repeat apply sq_)
    refine d0f 4 72 ?_
    try simp only[List.append_assoc,List.cons_append,List.nil_append]
    refine Zk (F:=[(0,.ptr o0 0 0 0),(2,.mp o3),(6,.ptr (st.length+1) 0 0 0),(7,.ptr (st.length+2) 0 0 0),(67,.sl false 4 72 (rows Lr.cells a1.subs)),(68,.int .i64 (↑a1.subs.length:Int)),(69,.int .i64 0)]) (T:=(WE st [(o0,(.arr 0 4 0 [[.sl false 11 216 (rows Wq.cells WH),.mp o1,.ref false o2 q2 0 l2.length,.int .i64 Xf]])),(o1,(.mps false (mrw d1r m1))),(o2,(.arr q2 2 16 (rows Wp.cells l2))),(o3,(.mps false (mrw Wt m3)))])++[some (.arr 0 4 0 [[.int .i64 a1.kind,.str a1.name,.sl false 1 16 (rows Wt a1.words),.sl false 4 72 (rows Lr.cells a1.subs)]]),some (.arr 0 4 0 [[.int .i64 0,.str [],.WB,.WB]]),some (.arr 0 4 0 [[.int .i64 a1.kind,.str a1.name,.ref false (st.length+3) gt0 0 t0.length,.ref false (st.length+4) 0 0 0]]),some (.arr gt0 1 16 (rows Wt t0)),some (.arr 0 4 72 (rows Lr.cells []))]) (d1O (by simp) (YP hsc (by simp<;>omega)) (.lv (.lv (.live _ _ _ _ (.arr _ _ _ _ _ (.cons _ _ _ _ (.cons _ _ _ _ .s (.cons _ _ _ _ .s (.cons _ _ _ _ .s (.cons _ _ _ _ (.nref _ _ _ _ _ _ (WT.trans rfl)) .nil)))) (.same _))) (.lv (.lv (.nil _)))))) (by simp<;>omega) ⟨.s,.s,.s,.s,.s,.s,.s,trivial⟩ (by simp<;>omega)) ?_
    refine aln 67 fun hl2=>?_
    refine rng (body:=ZQ (XB n) a1 WH m1 l2 m3) (kk:=ZR a1 t0) (n:=a1.subs.length) (s0:=(Xf,[]))
     (fun(gs2:Nat) (k2:Nat) (s2:Int×(List Lr))=>[(0,.ptr o0 0 0 0),(2,.mp o3),(6,.ptr (st.length+1) 0 0 0),(7,.ptr (st.length+2) 0 0 0),(67,.sl false 4 72 (rows Lr.cells a1.subs)),(68,.int .i64 (↑a1.subs.length:Int)),(69,.int .i64 (↑k2:Int))])
     (fun(gs2:Nat) (k2:Nat) (s2:Int×(List Lr))=>(WE st [(o0,(.arr 0 4 0 [[.sl false 11 216 (rows Wq.cells WH),.mp o1,.ref false o2 q2 0 l2.length,.int .i64 s2.1]])),(o1,(.mps false (mrw d1r m1))),(o2,(.arr q2 2 16 (rows Wp.cells l2))),(o3,(.mps false (mrw Wt m3)))])++[none,some (.arr 0 4 0 [[.int .i64 0,.str [],.WB,.WB]]),some (.arr 0 4 0 [[.int .i64 a1.kind,.str a1.name,.ref false (st.length+3) gt0 0 t0.length,.ref false (st.length+4) gs2 0 s2.2.length]]),some (.arr gt0 1 16 (rows Wt t0)),some (.arr gs2 4 72 (rows Lr.cells s2.2))])
     (fun(gt2:Nat) (t2:Int×(List Lr))=>[(6,.ptr (st.length+1) 0 0 0),(7,.ptr (st.length+2) 0 0 0)])
     (fun(gt2:Nat) (t2:Int×(List Lr))=>(WE st [(o0,(.arr 0 4 0 [[.sl false 11 216 (rows Wq.cells WH),.mp o1,.ref false o2 q2 0 l2.length,.int .i64 t2.1]])),(o1,(.mps false (mrw d1r m1))),(o2,(.arr q2 2 16 (rows Wp.cells l2))),(o3,(.mps false (mrw Wt m3)))])++[none,some (.arr 0 4 0 [[.int .i64 0,.str [],.WB,.WB]]),some (.arr 0 4 0 [[.int .i64 a1.kind,.str a1.name,.ref false (st.length+3) gt0 0 t0.length,.ref false (st.length+4) gt2 0 t2.2.length]]),some (.arr gt0 1 16 (rows Wt t0)),some (.arr gt2 4 72 (rows Lr.cells t2.2))])
     0 fx hl2 h (bu hsc)
     (fun gs2 k2 s2 b2 fx h hx2=>?_) (fun gs2 s2=>?_) (fun gt2 t2 fr1 st1 h hb=>?_)
    ·unfold ZQ at h
     refine ct ?_
     refine rn ?_
     refine dw [1,5] 2 ?_
     obtain⟨v50,hv50,h⟩:=ZA h
     refine d2Y [o0,o1,o2,o3] (fun st2 h2=>(ih _ _ _ _ _ _ _ hv50 st2 _ _ _ _ q2 hnd ((h2 _ (by simp)).trans (by simp only[go_sem,fx])) ((h2 _ (by simp)).trans (by simp only[go_sem,fx])) ((h2 _ (by simp)).trans (by simp only[go_sem,fx])) ((h2 _ (by simp)).trans (by simp only[go_sem,fx])))) (by simp) (by simp only[List.mem_cons,List.not_mem_nil,or_false,forall_eq_or_imp,forall_eq];exact⟨⟨by first|omega|(simp<;>omega),_,(by simp only[go_sem,fx]<;>rfl),Ob.noConfusion⟩,⟨by first|omega|(simp<;>omega),_,(by simp only[go_sem,fx]<;>rfl),Ob.noConfusion⟩,⟨by first|omega|(simp<;>omega),_,(by simp only[go_sem,fx]<;>rfl),Ob.noConfusion⟩,⟨by first|omega|(simp<;>omega),_,(by simp only[go_sem,fx]<;>rfl),Ob.noConfusion⟩⟩) (by simp) ?_
     obtain⟨c52,r1t,h⟩:=d4o h
     have fy:=(show rows Lr.cells s2.2++[[.int .i64 v50.1.kind,.str v50.1.name,.sl false 1 16 (rows Wt v50.1.words),.sl false 4 72 (rows Lr.cells v50.1.subs)]]=rows Lr.cells c52 from by rw[r1t];first|exact Xi (E:=Lr.cells) s2.2 [v50.1]|simp only[go_sem,rows,List.map_append,List.map_cons,List.map_nil])
     have fy:=fa fy (show s2.2.length+1=c52.length from by rw[r1t];simp)
     obtain⟨fx,h⟩:=ck fx h
     try simp only[go_sem,fx,fy]
     try refine⟨by first|omega|(simp<;>omega),?_⟩
     refine rn ?_
     cases h
     exact d2U (gs2+1) (bu hsc)
    ·refine cf ?_
     refine d2V ?_;simp only[go_sem,fx]
     exact⟨gs2,(bu hsc)⟩
    ·try simp only[go_sem,fx]
     unfold ZR at h
     refine Zk hb ?_
     refine rr ?_
     exact fuo (.agg [.int .i64 a1.kind,.str a1.name,.sl false 1 16 (rows Wt t0),.sl false 4 72 (rows Lr.cells t2.2)]) (.agg _ _ (.cons _ _ _ _ .s (.cons _ _ _ _ .s (.cons _ _ _ _ (.ref _ _ _ _ _ _ _ _ _ (WT.trans rfl) ZK (by decide) (d5x _) (by simp only[go_sem])) (.cons _ _ _ _ (.ref _ _ _ _ _ _ _ _ _ (WT.trans rfl) ZK (by decide) (d5x _) (by simp only[go_sem])) .nil))))) h hsc
end Go.Proofs.YtfacbpehlibilaaGreatDoor
