import Derived.Test.YtfacbpehlibilaaGreatDoorTVWalk2
set_option linter.unusedVariables false
set_option linter.unusedSimpArgs false
set_option maxHeartbeats 2000000
set_option maxRecDepth 100000
namespace Go.Proofs.YtfacbpehlibilaaGreatDoor
open Go Go.Am
theorem u8g(n:Nat)(a0:r4V)(r:Bool)(h:u0N n a0=some r):Pure Tryz.prog gl 32 [.agg [.int .i64 a0.from_.form.kind,.str a0.from_.form.name,.sl false 1 16 (rows r4X a0.from_.form.words),.sl false 4 72 (rows p6w.cells a0.from_.form.subs),.sl false 1 16 (rows r4X a0.from_.words),.sl false 1 16 (rows r4X a0.from_.r5o),.sl false 1 16 (rows r4X a0.from_.parts),.int .i64 a0.to_.kind,.str a0.to_.name,.sl false 1 16 (rows r4X a0.to_.words),.sl false 4 72 (rows p6w.cells a0.to_.subs)]] (.bool r):=by
 intro st
 unfold u0N at h
 have fx:=trivial
 refine fb 18 [.tmp 2] [0,1,2,3,4,5] Tryz.func32 fun hsc=>?_
 refine rn ?_
 obtain⟨v1,hv1,h⟩:=r7G h
 refine(u8O n _ _ hv1 _).mono ?_
 rintro d1 st1 ⟨rfl,rfl⟩
 refine cl h (r6N n _) fun v2 h=>?_
 refine rn ?_
 obtain⟨v3,hv3,h⟩:=r7G h
 refine((u7r n _ _ _ _ _ _ _ _ _ _ _ _ _ _ _ _ hv3 _ _ _ _ _ _ (by simp) (u3p.trans rfl) (u4b.trans rfl) (u4b.trans rfl) (u4b.trans rfl) (u4b.trans rfl)).up (.cons _ _ _ _ .s (.cons _ _ _ _ (.r5g _ _ _ (by decide)) (.cons _ _ _ _ .s (.cons _ _ _ _ .s (.cons _ _ _ _ .s (.cons _ _ _ _ .s .nil)))))) (by simp<;>omega)).mono ?_
 rintro d1 st1 ⟨rfl,rfl⟩
 exact rt
theorem u4t(n:Nat)(a0:(List r4V))(r:r5d)(h:r9m n a0=some r):Pure Tryz.prog gl 11 [.sl false 11 216 (rows r4V.cells a0)] (.agg [.int .i64 r.code,.int .i64 r.index]):=by
 intro st
 unfold r9m at h
 have fx:=trivial
 refine fb 80 [.cell 2 25] [0,2,3,4,5,6,7,8,9,12,14,15,16,17,26,36,44,52,53,54,55,65,66,67,68,69,70,75] Tryz.func11 fun hsc=>?_
 refine cd h (fun hc h=>?_) fun hc h=>?_
 ·refine cl h (r7F _ _) fun v1 h=>?_
  exact rt
 ·refine aln 14 fun hl0=>?_
  refine rng (body:=u0j n a0) (kk:=u0m) (n:=a0.length) (s0:=())
   (fun(gs0:Unit) (k0:Nat) (s0:Unit)=>[(2,.ptr st.length 0 0 0),(14,.sl false 11 216 (rows r4V.cells a0)),(15,.int .i64 (↑a0.length:Int)),(16,.int .i64 (↑k0:Int))])
   (fun(gs0:Unit) (k0:Nat) (s0:Unit)=>st++[some (.arr 0 2 0 [[.int .i64 0,.int .i64 0]])])
   (fun(gt0:Unit) (t0:Unit)=>[(2,.ptr st.length 0 0 0)])
   (fun(gt0:Unit) (t0:Unit)=>st++[some (.arr 0 2 0 [[.int .i64 0,.int .i64 0]])])
   () fx hl0 h (bm hsc)
   (fun gs0 k0 s0 b0 fx h hx0=>?_) (fun gs0 s0=>?_) (fun gt0 t0 fr1 st1 h hb=>?_)
  ·unfold u0j at h
   refine ct ?_
   refine cl h (u6S n _) fun v21 h=>?_
   refine cd h (fun hc h=>?_) fun hc h=>?_
   ·refine cl h (r7F _ _) fun v22 h=>?_
    refine ra ?_
    cases h
    refine r7h ?_;have h:=congrArg some (hx0 _ rfl)
    exact rt
   ·refine cl h (r8v _ _) fun v23 h=>?_
    refine cd h (fun hc h=>?_) fun hc h=>?_
    ·refine cl h (r7F _ _) fun v24 h=>?_
     refine ra ?_
     cases h
     refine r7h ?_;have h:=congrArg some (hx0 _ rfl)
     exact rt
    ·refine cl h (u2H n _) fun v25 h=>?_
     refine cd h (fun hc h=>?_) fun hc h=>?_
     ·refine cl h (r7F _ _) fun v26 h=>?_
      refine ra ?_
      cases h
      refine r7h ?_;have h:=congrArg some (hx0 _ rfl)
      exact rt
     ·refine cl h (r6N n _) fun v27 h=>?_
      refine aln 7 fun hl2=>?_
      refine rng (body:=u0k v27 a0 k0) (kk:=u0l n a0 k0) (n:=v27.length) (s0:=())
       (fun(gs2:Unit) (k2:Nat) (s2:Unit)=>[(2,.ptr st.length 0 0 0),(3,.int .i64 (↑k0:Int)),(4,.ptr (st.length+1) 0 0 0),(7,.sl false 1 16 (rows r4X v27)),(14,.sl false 11 216 (rows r4V.cells a0)),(15,.int .i64 (↑a0.length:Int)),(16,.int .i64 (↑k0:Int)),(52,.sl false 1 16 (rows r4X v27)),(53,.int .i64 (↑v27.length:Int)),(54,.int .i64 (↑k2:Int))])
       (fun(gs2:Unit) (k2:Nat) (s2:Unit)=>st++[some (.arr 0 2 0 [[.int .i64 0,.int .i64 0]]),some (.arr 0 11 0 [[.int .i64 ((get a0 k0).from_.form.kind),.str ((get a0 k0).from_.form.name),.sl false 1 16 (rows r4X ((get a0 k0).from_.form.words)),.sl false 4 72 (rows p6w.cells ((get a0 k0).from_.form.subs)),.sl false 1 16 (rows r4X ((get a0 k0).from_.words)),.sl false 1 16 (rows r4X ((get a0 k0).from_.r5o)),.sl false 1 16 (rows r4X ((get a0 k0).from_.parts)),.int .i64 ((get a0 k0).to_.kind),.str ((get a0 k0).to_.name),.sl false 1 16 (rows r4X ((get a0 k0).to_.words)),.sl false 4 72 (rows p6w.cells ((get a0 k0).to_.subs))]])])
       (fun(gt2:Unit) (t2:Unit)=>[(2,.ptr st.length 0 0 0),(3,.int .i64 (↑k0:Int)),(4,.ptr (st.length+1) 0 0 0),(14,.sl false 11 216 (rows r4V.cells a0)),(15,.int .i64 (↑a0.length:Int)),(16,.int .i64 (↑k0:Int))])
       (fun(gt2:Unit) (t2:Unit)=>st++[some (.arr 0 2 0 [[.int .i64 0,.int .i64 0]]),some (.arr 0 11 0 [[.int .i64 ((get a0 k0).from_.form.kind),.str ((get a0 k0).from_.form.name),.sl false 1 16 (rows r4X ((get a0 k0).from_.form.words)),.sl false 4 72 (rows p6w.cells ((get a0 k0).from_.form.subs)),.sl false 1 16 (rows r4X ((get a0 k0).from_.words)),.sl false 1 16 (rows r4X ((get a0 k0).from_.r5o)),.sl false 1 16 (rows r4X ((get a0 k0).from_.parts)),.int .i64 ((get a0 k0).to_.kind),.str ((get a0 k0).to_.name),.sl false 1 16 (rows r4X ((get a0 k0).to_.words)),.sl false 4 72 (rows p6w.cells ((get a0 k0).to_.subs))]])])
       () fx hl2 h (bm hsc)
       (fun gs2 k2 s2 b2 fx h hx2=>?_) (fun gs2 s2=>?_) (fun gt2 t2 fr1 st1 h hb=>?_)
      ·unfold u0k at h
       refine ct ?_
       obtain⟨fx,h⟩:=ck fx h
       refine cl h (r5f _ _) fun v35 h=>?_
       refine rn ?_
       obtain⟨v36,hv36,h⟩:=r7G h
       refine u0C (fun hG=>(r5f _ _ _ (w1s hv36 (by simpa using hG)))) ?_
       refine cd h (fun hc h=>?_) fun hc h=>?_
       ·refine cl h (r7F _ _) fun v37 h=>?_
        refine ra ?_
        cases h
        refine r7h ?_;obtain rfl:=hx2 _ rfl;try simp only[go_sem,fx]
        refine r7h ?_;have h:=congrArg some (hx0 _ rfl)
        exact rt
       ·refine rn ?_
        cases h
        exact u2o () (bm hsc)
      ·refine cf ?_
       refine u2n ?_;simp only[go_sem,fx]
       exact⟨(),(bm hsc)⟩
      ·try simp only[go_sem,fx]
       unfold u0l at h
       refine r6O hb ?_
       refine cl h (u8g n _) fun v38 h=>?_
       refine cd h (fun hc h=>?_) fun hc h=>?_
       ·refine cl h (r7F _ _) fun v39 h=>?_
        refine ra ?_
        cases h
        refine r7h ?_;have h:=congrArg some (hx0 _ rfl)
        exact rt
       ·refine rn ?_
        cases h
        exact u2o () (bm hsc)
  ·refine cf ?_
   refine u2n ?_;simp only[go_sem,fx]
   exact⟨(),(bm hsc)⟩
  ·try simp only[go_sem,fx]
   unfold u0m at h
   refine r6O hb ?_
   exact rt
theorem u5Y(n:Nat)(a0:(List r4V))(a1:p6w)(r:r5d)(h:u3Q n a0 a1=some r):Pure Tryz.prog gl 38 [.sl false 11 216 (rows r4V.cells a0),.agg [.int .i64 a1.kind,.str a1.name,.sl false 1 16 (rows r4X a1.words),.sl false 4 72 (rows p6w.cells a1.subs)]] (.agg [.int .i64 r.code,.int .i64 r.index]):=by
 intro st
 unfold u3Q at h
 have fx:=trivial
 refine fb 14 [.cell 4 25] [0,1,3,4,5,10] Tryz.func38 fun hsc=>?_
 refine cl h (u4t n _) fun v1 h=>?_
 refine cd h (fun hc h=>?_) fun hc h=>?_
 ·exact rt
 ·refine cl h (u2H n _) fun v2 h=>?_
  exact rt
theorem u2I(r5q:(List r4V))(r5T:Int)(m1:(List (Bs×Int)))(l2:(List r4W))(r:Bs×Int)(h:u0O r5q r5T m1 l2=some r):∀(st:St) (o0 o1 o2 q2:Nat) (hnd: [o0,o1,o2].Nodup) (r6Q:Am.look st o0=some (.arr 0 4 0 [[.sl false 11 216 (rows r4V.cells r5q),.mp o1,.ref false o2 q2 0 l2.length,.int .i64 r5T]])) (r9o:Am.look st o1=some (.mps false (mrw u0I m1))) (u1s:Am.look st o2=some (.arr q2 2 16 (rows r4W.cells l2))),Am.Spec Tryz.prog gl 88 [.ptr o0 0 0 0] st (fun d st'=>d= .str r.1∧st'=puts st [(o0,(.arr 0 4 0 [[.sl false 11 216 (rows r4V.cells r5q),.mp o1,.ref false o2 q2 0 l2.length,.int .i64 r.2]])),(o1,(.mps false (mrw u0I m1))),(o2,(.arr q2 2 16 (rows r4W.cells l2)))]):=by
 intro st o0 o1 o2 q2 hnd r6Q r9o u1s
 unfold u0O at h
 have ho0:=r5h r6Q
 have ho1:=r5h r9o
 have ho2:=r5h u1s
 have fx:=fa (fa (fa (idf ho0) (idf ho1)) (idf ho2)) (nd3 hnd)
 refine fb 16 [.tmp 2] [0,2] Tryz.func88 fun hsc=>?_
 refine r8l (s':=(r5k st [(o0,(.arr 0 4 0 [[.sl false 11 216 (rows r4V.cells r5q),.mp o1,.ref false o2 q2 0 l2.length,.int .i64 r5T]])),(o1,(.mps false (mrw u0I m1))),(o2,(.arr q2 2 16 (rows r4W.cells l2)))])) (r5p (by simp[r6Q,r9o,u1s])) ?_
 refine cl h (w1k _) fun v1 h=>?_
 obtain⟨fx,h⟩:=ck fx h
 refine rr ?_
 exact fus (.str (w1q [63] v1)) (.same _) h hsc
theorem u6B:∀(n:Nat) (a1:p6w) (r5q:(List r4V)) (r5T:Int) (m1:(List (Bs×Int))) (l2:(List r4W)) (m3:(List (Bs×Bs))) (r:p6w×Int) (h:r7y n a1 r5q r5T m1 l2 m3=some r),∀(st:St) (o0 o1 o2 o3 q2:Nat) (hnd: [o0,o1,o2,o3].Nodup) (r6Q:Am.look st o0=some (.arr 0 4 0 [[.sl false 11 216 (rows r4V.cells r5q),.mp o1,.ref false o2 q2 0 l2.length,.int .i64 r5T]])) (r9o:Am.look st o1=some (.mps false (mrw u0I m1))) (u1s:Am.look st o2=some (.arr q2 2 16 (rows r4W.cells l2))) (u4q:Am.look st o3=some (.mps false (mrw r4X m3))),Am.Spec Tryz.prog gl 63 [.ptr o0 0 0 0,.agg [.int .i64 a1.kind,.str a1.name,.sl false 1 16 (rows r4X a1.words),.sl false 4 72 (rows p6w.cells a1.subs)],.mp o3] st (fun d st'=>d= .agg [.int .i64 r.1.kind,.str r.1.name,.sl false 1 16 (rows r4X r.1.words),.sl false 4 72 (rows p6w.cells r.1.subs)]∧st'=puts st [(o0,(.arr 0 4 0 [[.sl false 11 216 (rows r4V.cells r5q),.mp o1,.ref false o2 q2 0 l2.length,.int .i64 r.2]])),(o1,(.mps false (mrw u0I m1))),(o2,(.arr q2 2 16 (rows r4W.cells l2))),(o3,(.mps false (mrw r4X m3)))]):=by
 intro n
 induction n with
 |zero=>intro a1 r5q r5T m1 l2 m3 r h;cases h
 |succ n ih=>
  intro a1 r5q r5T m1 l2 m3 r h st o0 o1 o2 o3 q2 hnd r6Q r9o u1s u4q
  unfold r7y at h
  have ho0:=r5h r6Q
  have ho1:=r5h r9o
  have ho2:=r5h u1s
  have ho3:=r5h u4q
  have fx:=fa (fa (fa (fa (idf ho0) (idf ho1)) (idf ho2)) (idf ho3)) (nd4 hnd)
  refine fb 84 [.cell 6 31] [0,1,2,4,6,7,9,10,11,12,13,14,16,23,24,25,26,35,45,48,50,67,68,69,70] Tryz.func63 fun hsc=>?_
  refine r8l (s':=(r5k st [(o0,(.arr 0 4 0 [[.sl false 11 216 (rows r4V.cells r5q),.mp o1,.ref false o2 q2 0 l2.length,.int .i64 r5T]])),(o1,(.mps false (mrw u0I m1))),(o2,(.arr q2 2 16 (rows r4W.cells l2))),(o3,(.mps false (mrw r4X m3)))])) (r5p (by simp[r6Q,r9o,u1s,u4q])) ?_
  refine r0 ?_
  refine r0 ?_
  refine r0 ?_
  (repeat apply sq_)
  refine r9q 1 16 ?_
  try simp only[List.append_assoc,List.cons_append,List.nil_append]
  refine r6O (F:=[(0,.ptr o0 0 0 0),(2,.mp o3),(4,.ptr st.length 0 0 0),(6,.ptr (st.length+1) 0 0 0),(7,.ptr (st.length+2) 0 0 0),(23,.sl false 1 16 (rows r4X a1.words)),(24,.int .i64 (↑a1.words.length:Int)),(25,.int .i64 0)]) (T:=(r5k st [(o0,(.arr 0 4 0 [[.sl false 11 216 (rows r4V.cells r5q),.mp o1,.ref false o2 q2 0 l2.length,.int .i64 r5T]])),(o1,(.mps false (mrw u0I m1))),(o2,(.arr q2 2 16 (rows r4W.cells l2))),(o3,(.mps false (mrw r4X m3)))])++[some (.arr 0 4 0 [[.int .i64 a1.kind,.str a1.name,.sl false 1 16 (rows r4X a1.words),.sl false 4 72 (rows p6w.cells a1.subs)]]),some (.arr 0 4 0 [[.int .i64 0,.str [],.r5g,.r5g]]),some (.arr 0 4 0 [[.int .i64 a1.kind,.str a1.name,.ref false (st.length+3) 0 0 0,.r5g]]),some (.arr 0 1 16 (rows r4X []))]) (u0G (by simp) (r7P hsc (by simp<;>omega)) (.lv (.lv (.live _ _ _ _ (.arr _ _ _ _ _ (.cons _ _ _ _ (.cons _ _ _ _ .s (.cons _ _ _ _ .s (.cons _ _ _ _ (.nref _ _ _ _ _ _ (r5u.trans rfl)) (.cons _ _ _ _ .s .nil)))) (.same _))) (.lv (.nil _))))) (by simp<;>omega) ⟨.s,.s,.s,.s,.s,.s,.s,.s,trivial⟩ (by simp<;>omega)) ?_
  refine aln 23 fun hl0=>?_
  refine rng (body:=u0P a1 m3) (kk:=u0U (r7y n) a1 r5q r5T m1 l2 m3) (n:=a1.words.length) (s0:=[])
   (fun(gs0:Nat) (k0:Nat) (s0:(List Bs))=>[(0,.ptr o0 0 0 0),(2,.mp o3),(4,.ptr st.length 0 0 0),(6,.ptr (st.length+1) 0 0 0),(7,.ptr (st.length+2) 0 0 0),(23,.sl false 1 16 (rows r4X a1.words)),(24,.int .i64 (↑a1.words.length:Int)),(25,.int .i64 (↑k0:Int))])
   (fun(gs0:Nat) (k0:Nat) (s0:(List Bs))=>(r5k st [(o0,(.arr 0 4 0 [[.sl false 11 216 (rows r4V.cells r5q),.mp o1,.ref false o2 q2 0 l2.length,.int .i64 r5T]])),(o1,(.mps false (mrw u0I m1))),(o2,(.arr q2 2 16 (rows r4W.cells l2))),(o3,(.mps false (mrw r4X m3)))])++[some (.arr 0 4 0 [[.int .i64 a1.kind,.str a1.name,.sl false 1 16 (rows r4X a1.words),.sl false 4 72 (rows p6w.cells a1.subs)]]),some (.arr 0 4 0 [[.int .i64 0,.str [],.r5g,.r5g]]),some (.arr 0 4 0 [[.int .i64 a1.kind,.str a1.name,.ref false (st.length+3) gs0 0 s0.length,.r5g]]),some (.arr gs0 1 16 (rows r4X s0))])
   (fun(gt0:Nat) (t0:(List Bs))=>[(0,.ptr o0 0 0 0),(2,.mp o3),(4,.ptr st.length 0 0 0),(6,.ptr (st.length+1) 0 0 0),(7,.ptr (st.length+2) 0 0 0)])
   (fun(gt0:Nat) (t0:(List Bs))=>(r5k st [(o0,(.arr 0 4 0 [[.sl false 11 216 (rows r4V.cells r5q),.mp o1,.ref false o2 q2 0 l2.length,.int .i64 r5T]])),(o1,(.mps false (mrw u0I m1))),(o2,(.arr q2 2 16 (rows r4W.cells l2))),(o3,(.mps false (mrw r4X m3)))])++[some (.arr 0 4 0 [[.int .i64 a1.kind,.str a1.name,.sl false 1 16 (rows r4X a1.words),.sl false 4 72 (rows p6w.cells a1.subs)]]),some (.arr 0 4 0 [[.int .i64 0,.str [],.r5g,.r5g]]),some (.arr 0 4 0 [[.int .i64 a1.kind,.str a1.name,.ref false (st.length+3) gt0 0 t0.length,.r5g]]),some (.arr gt0 1 16 (rows r4X t0))])
   0 fx hl0 h (bu hsc)
   (fun gs0 k0 s0 b0 fx h hx0=>?_) (fun gs0 s0=>?_) (fun gt0 t0 fr1 st1 h hb=>?_)
  ·unfold u0P at h
   refine ct ?_
   refine cd h (fun hc h=>?_) fun hc h=>?_
   ·refine r0 ?_
    obtain⟨c14,x5G,h⟩:=u2v h
    have fy:=(show rows r4X s0++[[.str ((assoc (get a1.words k0) m3).getD default)]]=rows r4X c14 from by rw[x5G];first|exact r5y (E:=r4X) s0 [((assoc (get a1.words k0) m3).getD default)]|simp only[go_sem,rows,List.map_append,List.map_cons,List.map_nil])
    have fy:=fa fy (show s0.length+1=c14.length from by rw[x5G];simp)
    obtain⟨fx,h⟩:=ck fx h
    refine r1 ?_
    refine rn ?_
    cases h
    exact u2o (gs0+1) (bu hsc)
   ·refine r0 ?_
    obtain⟨c20,x4a,h⟩:=u2v h
    have fy:=(show rows r4X s0++[[.str (get a1.words k0)]]=rows r4X c20 from by rw[x4a];first|exact r5y (E:=r4X) s0 [(get a1.words k0)]|simp only[go_sem,rows,List.map_append,List.map_cons,List.map_nil])
    have fy:=fa fy (show s0.length+1=c20.length from by rw[x4a];simp)
    obtain⟨fx,h⟩:=ck fx h
    refine r1 ?_
    refine rn ?_
    cases h
    exact u2o (gs0+1) (bu hsc)
  ·refine cf ?_
   refine u2n ?_;simp only[go_sem,fx]
   exact⟨gs0,(bu hsc)⟩
  ·try simp only[go_sem,fx]
   unfold u0U at h
   refine r6O hb ?_
   refine cl h (r5F _) fun v25 h=>?_
   refine cd h (fun hc h=>?_) fun hc h=>?_
   ·refine r0 ?_
    first|refine sq_ (w4y (b:=47) (tI:=12) (tE:=2) (tk:=13) (tv:=14) (id2:=2) (id3:=3) (i1:=12) (i2:=13) (i3:=14) (i4:=15) (F:=[(0,.ptr o0 0 0 0),(4,.ptr st.length 0 0 0),(6,.ptr (st.length+1) 0 0 0),(7,.ptr (st.length+2) 0 0 0),(12,.mp (st.length+4))]) (oi:=(st.length+4)) (oe:=o3) (es:=mrw r4X m3) Tryz.underlying126 Tryz.underlying9 (by decide) rfl rfl (by simp only[go_sem,fx]<;>rfl) rfl (by simp only[go_sem,fx]<;>rfl) (by omega) (by simp[Fr.leq,Fr.get]) rfl ?_)|refine w4y (b:=47) (tI:=12) (tE:=2) (tk:=13) (tv:=14) (id2:=2) (id3:=3) (i1:=12) (i2:=13) (i3:=14) (i4:=15) (F:=[(0,.ptr o0 0 0 0),(4,.ptr st.length 0 0 0),(6,.ptr (st.length+1) 0 0 0),(7,.ptr (st.length+2) 0 0 0),(12,.mp (st.length+4))]) (oi:=(st.length+4)) (oe:=o3) (es:=mrw r4X m3) Tryz.underlying126 Tryz.underlying9 (by decide) rfl rfl (by simp only[go_sem,fx]<;>rfl) rfl (by simp only[go_sem,fx]<;>rfl) (by omega) (by simp[Fr.leq,Fr.get]) rfl ?_
    try simp only[go_sem,fx]
    refine rn ?_
    obtain⟨v26,hv26,h⟩:=r7G h
    refine(u2I _ _ _ _ _ hv26 _ o0 o1 o2 q2 (by simp[fx]<;>omega) (by simp only[go_sem,fx]) (by simp only[go_sem,fx]) (by simp only[go_sem,fx])).mono ?_
    rintro d1 st1 ⟨rfl,rfl⟩
    try simp only[go_sem,fx]
    obtain⟨c27,x9q,h⟩:=u2v h
    have fy:=(show r5j a1.name [.str v26.1] (mrw r4X m3)=mrw r4X c27 from by rw[x9q];exact u4W (κ:=Bs) (E:=r4X) a1.name v26.1 m3)
    refine r1 ?_
    refine r0 ?_
    refine r0 ?_
    (repeat apply sq_)
    refine r9q 4 72 ?_
    try simp only[List.append_assoc,List.cons_append,List.nil_append]
    refine r6O (F:=[(0,.ptr o0 0 0 0),(2,.mp (st.length+4)),(6,.ptr (st.length+1) 0 0 0),(7,.ptr (st.length+2) 0 0 0),(67,.sl false 4 72 (rows p6w.cells a1.subs)),(68,.int .i64 (↑a1.subs.length:Int)),(69,.int .i64 0)]) (T:=(r5k st [(o0,(.arr 0 4 0 [[.sl false 11 216 (rows r4V.cells r5q),.mp o1,.ref false o2 q2 0 l2.length,.int .i64 v26.2]])),(o1,(.mps false (mrw u0I m1))),(o2,(.arr q2 2 16 (rows r4W.cells l2))),(o3,(.mps false (mrw r4X m3)))])++[some (.arr 0 4 0 [[.int .i64 a1.kind,.str a1.name,.sl false 1 16 (rows r4X a1.words),.sl false 4 72 (rows p6w.cells a1.subs)]]),some (.arr 0 4 0 [[.int .i64 0,.str [],.r5g,.r5g]]),some (.arr 0 4 0 [[.int .i64 a1.kind,.str v26.1,.ref false (st.length+3) gt0 0 t0.length,.ref false (st.length+5) 0 0 0]]),some (.arr gt0 1 16 (rows r4X t0)),some (.mps false (mrw r4X c27)),some (.arr 0 4 72 (rows p6w.cells []))]) (u0G (by simp) (r7P hsc (by simp<;>omega)) (.lv (.lv (.live _ _ _ _ (.arr _ _ _ _ _ (.cons _ _ _ _ (.cons _ _ _ _ .s (.cons _ _ _ _ .s (.cons _ _ _ _ .s (.cons _ _ _ _ (.nref _ _ _ _ _ _ (r5u.trans rfl)) .nil)))) (.same _))) (.lv (.lv (.lv (.nil _))))))) (by simp<;>omega) ⟨.s,.s,.s,.s,.s,.s,.s,trivial⟩ (by simp<;>omega)) ?_
    refine aln 67 fun hl1=>?_
    refine rng (body:=u0Q (r7y n) a1 r5q m1 l2 c27) (kk:=u0R a1 v26 t0) (n:=a1.subs.length) (s0:=(v26.2,[]))
     (fun(gs1:Nat) (k1:Nat) (s1:Int×(List p6w))=>[(0,.ptr o0 0 0 0),(2,.mp (st.length+4)),(6,.ptr (st.length+1) 0 0 0),(7,.ptr (st.length+2) 0 0 0),(67,.sl false 4 72 (rows p6w.cells a1.subs)),(68,.int .i64 (↑a1.subs.length:Int)),(69,.int .i64 (↑k1:Int))])
     (fun(gs1:Nat) (k1:Nat) (s1:Int×(List p6w))=>(r5k st [(o0,(.arr 0 4 0 [[.sl false 11 216 (rows r4V.cells r5q),.mp o1,.ref false o2 q2 0 l2.length,.int .i64 s1.1]])),(o1,(.mps false (mrw u0I m1))),(o2,(.arr q2 2 16 (rows r4W.cells l2))),(o3,(.mps false (mrw r4X m3)))])++[none,some (.arr 0 4 0 [[.int .i64 0,.str [],.r5g,.r5g]]),some (.arr 0 4 0 [[.int .i64 a1.kind,.str v26.1,.ref false (st.length+3) gt0 0 t0.length,.ref false (st.length+5) gs1 0 s1.2.length]]),some (.arr gt0 1 16 (rows r4X t0)),some (.mps false (mrw r4X c27)),some (.arr gs1 4 72 (rows p6w.cells s1.2))])
     (fun(gt1:Nat) (t1:Int×(List p6w))=>[(6,.ptr (st.length+1) 0 0 0),(7,.ptr (st.length+2) 0 0 0)])
     (fun(gt1:Nat) (t1:Int×(List p6w))=>(r5k st [(o0,(.arr 0 4 0 [[.sl false 11 216 (rows r4V.cells r5q),.mp o1,.ref false o2 q2 0 l2.length,.int .i64 t1.1]])),(o1,(.mps false (mrw u0I m1))),(o2,(.arr q2 2 16 (rows r4W.cells l2))),(o3,(.mps false (mrw r4X m3)))])++[none,some (.arr 0 4 0 [[.int .i64 0,.str [],.r5g,.r5g]]),some (.arr 0 4 0 [[.int .i64 a1.kind,.str v26.1,.ref false (st.length+3) gt0 0 t0.length,.ref false (st.length+5) gt1 0 t1.2.length]]),some (.arr gt0 1 16 (rows r4X t0)),none,some (.arr gt1 4 72 (rows p6w.cells t1.2))])
     0 fx hl1 h (bu hsc)
     (fun gs1 k1 s1 b1 fx h hx1=>?_) (fun gs1 s1=>?_) (fun gt1 t1 fr1 st1 h hb=>?_)
    ·unfold u0Q at h
     refine ct ?_
     refine rn ?_
     refine dw [1,5] 2 ?_
     obtain⟨v36,hv36,h⟩:=r7G h
     refine u2j [o0,o1,o2,(st.length+4)] (fun st2 h2=>(ih _ _ _ _ _ _ _ hv36 st2 o0 o1 o2 (st.length+4) q2 (by simp[fx]<;>omega) ((h2 _ (by simp)).trans (by simp only[go_sem,fx])) ((h2 _ (by simp)).trans (by simp only[go_sem,fx])) ((h2 _ (by simp)).trans (by simp only[go_sem,fx])) ((h2 _ (by simp)).trans (r5x.trans rfl)))) (by simp) (by simp only[List.mem_cons,List.not_mem_nil,or_false,forall_eq_or_imp,forall_eq];exact⟨⟨by first|omega|(simp<;>omega),_,(by simp only[go_sem,fx]<;>rfl),Ob.noConfusion⟩,⟨by first|omega|(simp<;>omega),_,(by simp only[go_sem,fx]<;>rfl),Ob.noConfusion⟩,⟨by first|omega|(simp<;>omega),_,(by simp only[go_sem,fx]<;>rfl),Ob.noConfusion⟩,⟨by first|omega|(simp<;>omega),_,(r5x.trans rfl),Ob.noConfusion⟩⟩) (by simp) ?_
     obtain⟨c38,y1z,h⟩:=u2v h
     have fy:=(show rows p6w.cells s1.2++[[.int .i64 v36.1.kind,.str v36.1.name,.sl false 1 16 (rows r4X v36.1.words),.sl false 4 72 (rows p6w.cells v36.1.subs)]]=rows p6w.cells c38 from by rw[y1z];first|exact r5y (E:=p6w.cells) s1.2 [v36.1]|simp only[go_sem,rows,List.map_append,List.map_cons,List.map_nil])
     have fy:=fa fy (show s1.2.length+1=c38.length from by rw[y1z];simp)
     obtain⟨fx,h⟩:=ck fx h
     try simp only[go_sem,fx,fy]
     try refine⟨by first|omega|(simp<;>omega),?_⟩
     refine rn ?_
     cases h
     exact u2o (gs1+1) (bu hsc)
    ·refine cf ?_
     refine u2n ?_;simp only[go_sem,fx]
     exact⟨gs1,(bu hsc)⟩
    ·try simp only[go_sem,fx]
     unfold u0R at h
     refine r6O hb ?_
     refine rr ?_
     exact fuo (.agg [.int .i64 a1.kind,.str v26.1,.sl false 1 16 (rows r4X t0),.sl false 4 72 (rows p6w.cells t1.2)]) (.agg _ _ (.cons _ _ _ _ .s (.cons _ _ _ _ .s (.cons _ _ _ _ (.ref _ _ _ _ _ _ _ _ _ (r5u.trans rfl) r9r (by decide) (u4I _) (by simp only[go_sem])) (.cons _ _ _ _ (.ref _ _ _ _ _ _ _ _ _ (r5u.trans rfl) r9r (by decide) (u4I _) (by simp only[go_sem])) .nil))))) h hsc
   ·refine r0 ?_
    refine r0 ?_
    (repeat apply sq_)
    refine r9q 4 72 ?_
    try simp only[List.append_assoc,List.cons_append,List.nil_append]
    refine r6O (F:=[(0,.ptr o0 0 0 0),(2,.mp o3),(6,.ptr (st.length+1) 0 0 0),(7,.ptr (st.length+2) 0 0 0),(67,.sl false 4 72 (rows p6w.cells a1.subs)),(68,.int .i64 (↑a1.subs.length:Int)),(69,.int .i64 0)]) (T:=(r5k st [(o0,(.arr 0 4 0 [[.sl false 11 216 (rows r4V.cells r5q),.mp o1,.ref false o2 q2 0 l2.length,.int .i64 r5T]])),(o1,(.mps false (mrw u0I m1))),(o2,(.arr q2 2 16 (rows r4W.cells l2))),(o3,(.mps false (mrw r4X m3)))])++[some (.arr 0 4 0 [[.int .i64 a1.kind,.str a1.name,.sl false 1 16 (rows r4X a1.words),.sl false 4 72 (rows p6w.cells a1.subs)]]),some (.arr 0 4 0 [[.int .i64 0,.str [],.r5g,.r5g]]),some (.arr 0 4 0 [[.int .i64 a1.kind,.str a1.name,.ref false (st.length+3) gt0 0 t0.length,.ref false (st.length+4) 0 0 0]]),some (.arr gt0 1 16 (rows r4X t0)),some (.arr 0 4 72 (rows p6w.cells []))]) (u0G (by simp) (r7P hsc (by simp<;>omega)) (.lv (.lv (.live _ _ _ _ (.arr _ _ _ _ _ (.cons _ _ _ _ (.cons _ _ _ _ .s (.cons _ _ _ _ .s (.cons _ _ _ _ .s (.cons _ _ _ _ (.nref _ _ _ _ _ _ (r5u.trans rfl)) .nil)))) (.same _))) (.lv (.lv (.nil _)))))) (by simp<;>omega) ⟨.s,.s,.s,.s,.s,.s,.s,trivial⟩ (by simp<;>omega)) ?_
    refine aln 67 fun hl2=>?_
    refine rng (body:=u0S (r7y n) a1 r5q m1 l2 m3) (kk:=u0T a1 t0) (n:=a1.subs.length) (s0:=(r5T,[]))
     (fun(gs2:Nat) (k2:Nat) (s2:Int×(List p6w))=>[(0,.ptr o0 0 0 0),(2,.mp o3),(6,.ptr (st.length+1) 0 0 0),(7,.ptr (st.length+2) 0 0 0),(67,.sl false 4 72 (rows p6w.cells a1.subs)),(68,.int .i64 (↑a1.subs.length:Int)),(69,.int .i64 (↑k2:Int))])
     (fun(gs2:Nat) (k2:Nat) (s2:Int×(List p6w))=>(r5k st [(o0,(.arr 0 4 0 [[.sl false 11 216 (rows r4V.cells r5q),.mp o1,.ref false o2 q2 0 l2.length,.int .i64 s2.1]])),(o1,(.mps false (mrw u0I m1))),(o2,(.arr q2 2 16 (rows r4W.cells l2))),(o3,(.mps false (mrw r4X m3)))])++[none,some (.arr 0 4 0 [[.int .i64 0,.str [],.r5g,.r5g]]),some (.arr 0 4 0 [[.int .i64 a1.kind,.str a1.name,.ref false (st.length+3) gt0 0 t0.length,.ref false (st.length+4) gs2 0 s2.2.length]]),some (.arr gt0 1 16 (rows r4X t0)),some (.arr gs2 4 72 (rows p6w.cells s2.2))])
     (fun(gt2:Nat) (t2:Int×(List p6w))=>[(6,.ptr (st.length+1) 0 0 0),(7,.ptr (st.length+2) 0 0 0)])
     (fun(gt2:Nat) (t2:Int×(List p6w))=>(r5k st [(o0,(.arr 0 4 0 [[.sl false 11 216 (rows r4V.cells r5q),.mp o1,.ref false o2 q2 0 l2.length,.int .i64 t2.1]])),(o1,(.mps false (mrw u0I m1))),(o2,(.arr q2 2 16 (rows r4W.cells l2))),(o3,(.mps false (mrw r4X m3)))])++[none,some (.arr 0 4 0 [[.int .i64 0,.str [],.r5g,.r5g]]),some (.arr 0 4 0 [[.int .i64 a1.kind,.str a1.name,.ref false (st.length+3) gt0 0 t0.length,.ref false (st.length+4) gt2 0 t2.2.length]]),some (.arr gt0 1 16 (rows r4X t0)),some (.arr gt2 4 72 (rows p6w.cells t2.2))])
     0 fx hl2 h (bu hsc)
     (fun gs2 k2 s2 b2 fx h hx2=>?_) (fun gs2 s2=>?_) (fun gt2 t2 fr1 st1 h hb=>?_)
    ·unfold u0S at h
     refine ct ?_
     refine rn ?_
     refine dw [1,5] 2 ?_
     obtain⟨v50,hv50,h⟩:=r7G h
     refine u2j [o0,o1,o2,o3] (fun st2 h2=>(ih _ _ _ _ _ _ _ hv50 st2 _ _ _ _ q2 hnd ((h2 _ (by simp)).trans (by simp only[go_sem,fx])) ((h2 _ (by simp)).trans (by simp only[go_sem,fx])) ((h2 _ (by simp)).trans (by simp only[go_sem,fx])) ((h2 _ (by simp)).trans (by simp only[go_sem,fx])))) (by simp) (by simp only[List.mem_cons,List.not_mem_nil,or_false,forall_eq_or_imp,forall_eq];exact⟨⟨by first|omega|(simp<;>omega),_,(by simp only[go_sem,fx]<;>rfl),Ob.noConfusion⟩,⟨by first|omega|(simp<;>omega),_,(by simp only[go_sem,fx]<;>rfl),Ob.noConfusion⟩,⟨by first|omega|(simp<;>omega),_,(by simp only[go_sem,fx]<;>rfl),Ob.noConfusion⟩,⟨by first|omega|(simp<;>omega),_,(by simp only[go_sem,fx]<;>rfl),Ob.noConfusion⟩⟩) (by simp) ?_
     obtain⟨c52,y1A,h⟩:=u2v h
     have fy:=(show rows p6w.cells s2.2++[[.int .i64 v50.1.kind,.str v50.1.name,.sl false 1 16 (rows r4X v50.1.words),.sl false 4 72 (rows p6w.cells v50.1.subs)]]=rows p6w.cells c52 from by rw[y1A];first|exact r5y (E:=p6w.cells) s2.2 [v50.1]|simp only[go_sem,rows,List.map_append,List.map_cons,List.map_nil])
     have fy:=fa fy (show s2.2.length+1=c52.length from by rw[y1A];simp)
     obtain⟨fx,h⟩:=ck fx h
     try simp only[go_sem,fx,fy]
     try refine⟨by first|omega|(simp<;>omega),?_⟩
     refine rn ?_
     cases h
     exact u2o (gs2+1) (bu hsc)
    ·refine cf ?_
     refine u2n ?_;simp only[go_sem,fx]
     exact⟨gs2,(bu hsc)⟩
    ·try simp only[go_sem,fx]
     unfold u0T at h
     refine r6O hb ?_
     refine rr ?_
     exact fuo (.agg [.int .i64 a1.kind,.str a1.name,.sl false 1 16 (rows r4X t0),.sl false 4 72 (rows p6w.cells t2.2)]) (.agg _ _ (.cons _ _ _ _ .s (.cons _ _ _ _ .s (.cons _ _ _ _ (.ref _ _ _ _ _ _ _ _ _ (r5u.trans rfl) r9r (by decide) (u4I _) (by simp only[go_sem])) (.cons _ _ _ _ (.ref _ _ _ _ _ _ _ _ _ (r5u.trans rfl) r9r (by decide) (u4I _) (by simp only[go_sem])) .nil))))) h hsc
end Go.Proofs.YtfacbpehlibilaaGreatDoor
