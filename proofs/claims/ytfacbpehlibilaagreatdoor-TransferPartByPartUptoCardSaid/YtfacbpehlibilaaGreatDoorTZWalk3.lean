import Derived.Test.YtfacbpehlibilaaGreatDoorTZWalk2
set_option linter.unusedVariables false
set_option linter.unusedSimpArgs false
set_option maxHeartbeats 2000000
set_option maxRecDepth 100000
namespace Go.Proofs.YtfacbpehlibilaaGreatDoor
open Go Go.Am
theorem oz(n:Nat)(a0:u6)(r:Bool)(h:U5 n a0=some r):Pure Tryz.prog gl 32 [.agg [.int .i64 a0.from_.form.kind,.str a0.from_.form.name,.sl false 1 16 (rows w7 a0.from_.form.words),.sl false 4 72 (rows u5.cells a0.from_.form.subs),.sl false 1 16 (rows w7 a0.from_.words),.sl false 1 16 (rows w7 a0.from_.C4),.sl false 1 16 (rows w7 a0.from_.parts),.int .i64 a0.to_.kind,.str a0.to_.name,.sl false 1 16 (rows w7 a0.to_.words),.sl false 4 72 (rows u5.cells a0.to_.subs)]] (.bool r):=by
 intro st
 unfold U5 at h
 have fx:=trivial
 refine fb 18 [.tmp 2] [0,1,2,3,4,5] Tryz.func32 fun hsc=>?_
 refine rn ?_
 obtain⟨v1,hv1,h⟩:=P8 h
 refine(pJ n _ _ hv1 _).mono ?_
 rintro d1 st1 ⟨rfl,rfl⟩
 refine cl h (J8 n _) fun v2 h=>?_
 refine rn ?_
 obtain⟨v3,hv3,h⟩:=P8 h
 refine((mT n _ _ _ _ _ _ _ _ _ _ _ _ _ _ _ _ hv3 _ _ _ _ _ _ (by simp) (ga.trans rfl) (jm.trans rfl) (jm.trans rfl) (jm.trans rfl) (jm.trans rfl)).up (.cons _ _ _ _ .s (.cons _ _ _ _ (.A9 _ _ _ (by decide)) (.cons _ _ _ _ .s (.cons _ _ _ _ .s (.cons _ _ _ _ .s (.cons _ _ _ _ .s .nil)))))) (by simp<;>omega)).mono ?_
 rintro d1 st1 ⟨rfl,rfl⟩
 exact rt
theorem mU(n:Nat)(a0:(List u6))(r:B1)(h:R9 n a0=some r):Pure Tryz.prog gl 11 [.sl false 11 216 (rows u6.cells a0)] (.agg [.int .i64 r.code,.int .i64 r.index]):=by
 intro st
 unfold R9 at h
 have fx:=trivial
 refine fb 80 [.cell 2 25] [0,2,3,4,5,6,7,8,9,12,14,15,16,17,26,36,44,52,53,54,55,65,66,67,68,69,70,75] Tryz.func11 fun hsc=>?_
 refine cd h (fun hc h=>?_) fun hc h=>?_
 ·refine cl h (G6 _ _) fun v1 h=>?_
  exact rt
 ·refine aln 14 fun hl0=>?_
  refine rng (body:=U8 n a0) (kk:=bC) (n:=a0.length) (s0:=())
   (fun(gs0:Unit) (k0:Nat) (s0:Unit)=>[(2,.ptr st.length 0 0 0),(14,.sl false 11 216 (rows u6.cells a0)),(15,.int .i64 (↑a0.length:Int)),(16,.int .i64 (↑k0:Int))])
   (fun(gs0:Unit) (k0:Nat) (s0:Unit)=>st++[some (.arr 0 2 0 [[.int .i64 0,.int .i64 0]])])
   (fun(gt0:Unit) (t0:Unit)=>[(2,.ptr st.length 0 0 0)])
   (fun(gt0:Unit) (t0:Unit)=>st++[some (.arr 0 2 0 [[.int .i64 0,.int .i64 0]])])
   () fx hl0 h (bm hsc)
   (fun gs0 k0 s0 b0 fx h hx0=>?_) (fun gs0 s0=>?_) (fun gt0 t0 fr1 st1 h hb=>?_)
  ·unfold U8 at h
   refine ct ?_
   refine cl h (lW n _) fun v21 h=>?_
   refine cd h (fun hc h=>?_) fun hc h=>?_
   ·refine cl h (G6 _ _) fun v22 h=>?_
    refine ra ?_
    cases h
    refine L0 ?_;have h:=congrArg some (hx0 _ rfl)
    exact rt
   ·refine cl h (S0 _ _) fun v23 h=>?_
    refine cd h (fun hc h=>?_) fun hc h=>?_
    ·refine cl h (G6 _ _) fun v24 h=>?_
     refine ra ?_
     cases h
     refine L0 ?_;have h:=congrArg some (hx0 _ rfl)
     exact rt
    ·refine cl h (bU n _) fun v25 h=>?_
     refine cd h (fun hc h=>?_) fun hc h=>?_
     ·refine cl h (G6 _ _) fun v26 h=>?_
      refine ra ?_
      cases h
      refine L0 ?_;have h:=congrArg some (hx0 _ rfl)
      exact rt
     ·refine cl h (J8 n _) fun v27 h=>?_
      refine aln 7 fun hl2=>?_
      refine rng (body:=bB v27 a0 k0) (kk:=U9 n a0 k0) (n:=v27.length) (s0:=())
       (fun(gs2:Unit) (k2:Nat) (s2:Unit)=>[(2,.ptr st.length 0 0 0),(3,.int .i64 (↑k0:Int)),(4,.ptr (st.length+1) 0 0 0),(7,.sl false 1 16 (rows w7 v27)),(14,.sl false 11 216 (rows u6.cells a0)),(15,.int .i64 (↑a0.length:Int)),(16,.int .i64 (↑k0:Int)),(52,.sl false 1 16 (rows w7 v27)),(53,.int .i64 (↑v27.length:Int)),(54,.int .i64 (↑k2:Int))])
       (fun(gs2:Unit) (k2:Nat) (s2:Unit)=>st++[some (.arr 0 2 0 [[.int .i64 0,.int .i64 0]]),some (.arr 0 11 0 [[.int .i64 ((get a0 k0).from_.form.kind),.str ((get a0 k0).from_.form.name),.sl false 1 16 (rows w7 ((get a0 k0).from_.form.words)),.sl false 4 72 (rows u5.cells ((get a0 k0).from_.form.subs)),.sl false 1 16 (rows w7 ((get a0 k0).from_.words)),.sl false 1 16 (rows w7 ((get a0 k0).from_.C4)),.sl false 1 16 (rows w7 ((get a0 k0).from_.parts)),.int .i64 ((get a0 k0).to_.kind),.str ((get a0 k0).to_.name),.sl false 1 16 (rows w7 ((get a0 k0).to_.words)),.sl false 4 72 (rows u5.cells ((get a0 k0).to_.subs))]])])
       (fun(gt2:Unit) (t2:Unit)=>[(2,.ptr st.length 0 0 0),(3,.int .i64 (↑k0:Int)),(4,.ptr (st.length+1) 0 0 0),(14,.sl false 11 216 (rows u6.cells a0)),(15,.int .i64 (↑a0.length:Int)),(16,.int .i64 (↑k0:Int))])
       (fun(gt2:Unit) (t2:Unit)=>st++[some (.arr 0 2 0 [[.int .i64 0,.int .i64 0]]),some (.arr 0 11 0 [[.int .i64 ((get a0 k0).from_.form.kind),.str ((get a0 k0).from_.form.name),.sl false 1 16 (rows w7 ((get a0 k0).from_.form.words)),.sl false 4 72 (rows u5.cells ((get a0 k0).from_.form.subs)),.sl false 1 16 (rows w7 ((get a0 k0).from_.words)),.sl false 1 16 (rows w7 ((get a0 k0).from_.C4)),.sl false 1 16 (rows w7 ((get a0 k0).from_.parts)),.int .i64 ((get a0 k0).to_.kind),.str ((get a0 k0).to_.name),.sl false 1 16 (rows w7 ((get a0 k0).to_.words)),.sl false 4 72 (rows u5.cells ((get a0 k0).to_.subs))]])])
       () fx hl2 h (bm hsc)
       (fun gs2 k2 s2 b2 fx h hx2=>?_) (fun gs2 s2=>?_) (fun gt2 t2 fr1 st1 h hb=>?_)
      ·unfold bB at h
       refine ct ?_
       obtain⟨fx,h⟩:=ck fx h
       refine cl h (A8 _ _) fun v35 h=>?_
       refine rn ?_
       obtain⟨v36,hv36,h⟩:=P8 h
       refine aV (fun hG=>(A8 _ _ _ (qj hv36 (by simpa using hG)))) ?_
       refine cd h (fun hc h=>?_) fun hc h=>?_
       ·refine cl h (G6 _ _) fun v37 h=>?_
        refine ra ?_
        cases h
        refine L0 ?_;obtain rfl:=hx2 _ rfl;try simp only[go_sem,fx]
        refine L0 ?_;have h:=congrArg some (hx0 _ rfl)
        exact rt
       ·refine rn ?_
        cases h
        exact eE () (bm hsc)
      ·refine cf ?_
       refine fA ?_;simp only[go_sem,fx]
       exact⟨(),(bm hsc)⟩
      ·try simp only[go_sem,fx]
       unfold U9 at h
       refine Q9 hb ?_
       refine cl h (oz n _) fun v38 h=>?_
       refine cd h (fun hc h=>?_) fun hc h=>?_
       ·refine cl h (G6 _ _) fun v39 h=>?_
        refine ra ?_
        cases h
        refine L0 ?_;have h:=congrArg some (hx0 _ rfl)
        exact rt
       ·refine rn ?_
        cases h
        exact eE () (bm hsc)
  ·refine cf ?_
   refine fA ?_;simp only[go_sem,fx]
   exact⟨(),(bm hsc)⟩
  ·try simp only[go_sem,fx]
   unfold bC at h
   refine Q9 hb ?_
   exact rt
theorem ku(n:Nat)(a0:(List u6))(a1:u5)(r:B1)(h:cG n a0 a1=some r):Pure Tryz.prog gl 38 [.sl false 11 216 (rows u6.cells a0),.agg [.int .i64 a1.kind,.str a1.name,.sl false 1 16 (rows w7 a1.words),.sl false 4 72 (rows u5.cells a1.subs)]] (.agg [.int .i64 r.code,.int .i64 r.index]):=by
 intro st
 unfold cG at h
 have fx:=trivial
 refine fb 14 [.cell 4 25] [0,1,3,4,5,10] Tryz.func38 fun hsc=>?_
 refine cl h (mU n _) fun v1 h=>?_
 refine cd h (fun hc h=>?_) fun hc h=>?_
 ·exact rt
 ·refine cl h (bU n _) fun v2 h=>?_
  exact rt
theorem fu(B7:(List u6))(D7:Int)(m1:(List (Bs×Int)))(l2:(List u7))(r:Bs×Int)(h:U4 B7 D7 m1 l2=some r):∀(st:St) (o0 o1 o2 q2:Nat) (hnd: [o0,o1,o2].Nodup) (M9:Am.look st o0=some (.arr 0 4 0 [[.sl false 11 216 (rows u6.cells B7),.mp o1,.ref false o2 q2 0 l2.length,.int .i64 D7]])) (Z6:Am.look st o1=some (.mps false (mrw bX m1))) (bY:Am.look st o2=some (.arr q2 2 16 (rows u7.cells l2))),Am.Spec Tryz.prog gl 88 [.ptr o0 0 0 0] st (fun d st'=>d= .str r.1∧st'=puts st [(o0,(.arr 0 4 0 [[.sl false 11 216 (rows u6.cells B7),.mp o1,.ref false o2 q2 0 l2.length,.int .i64 r.2]])),(o1,(.mps false (mrw bX m1))),(o2,(.arr q2 2 16 (rows u7.cells l2)))]):=by
 intro st o0 o1 o2 q2 hnd M9 Z6 bY
 unfold U4 at h
 have ho0:=B3 M9
 have ho1:=B3 Z6
 have ho2:=B3 bY
 have fx:=fa (fa (fa (idf ho0) (idf ho1)) (idf ho2)) (nd3 hnd)
 refine fb 16 [.tmp 2] [0,2] Tryz.func88 fun hsc=>?_
 refine bD (s':=(B8 st [(o0,(.arr 0 4 0 [[.sl false 11 216 (rows u6.cells B7),.mp o1,.ref false o2 q2 0 l2.length,.int .i64 D7]])),(o1,(.mps false (mrw bX m1))),(o2,(.arr q2 2 16 (rows u7.cells l2)))])) (C7 (by simp[M9,Z6,bY])) ?_
 refine cl h (pI _) fun v1 h=>?_
 obtain⟨fx,h⟩:=ck fx h
 refine rr ?_
 exact fus (.str (lP [63] v1)) (.same _) h hsc
theorem lu:∀(n:Nat) (a1:u5) (B7:(List u6)) (D7:Int) (m1:(List (Bs×Int))) (l2:(List u7)) (m3:(List (Bs×Bs))) (r:u5×Int) (h:H9 n a1 B7 D7 m1 l2 m3=some r),∀(st:St) (o0 o1 o2 o3 q2:Nat) (hnd: [o0,o1,o2,o3].Nodup) (M9:Am.look st o0=some (.arr 0 4 0 [[.sl false 11 216 (rows u6.cells B7),.mp o1,.ref false o2 q2 0 l2.length,.int .i64 D7]])) (Z6:Am.look st o1=some (.mps false (mrw bX m1))) (bY:Am.look st o2=some (.arr q2 2 16 (rows u7.cells l2))) (jx:Am.look st o3=some (.mps false (mrw w7 m3))),Am.Spec Tryz.prog gl 63 [.ptr o0 0 0 0,.agg [.int .i64 a1.kind,.str a1.name,.sl false 1 16 (rows w7 a1.words),.sl false 4 72 (rows u5.cells a1.subs)],.mp o3] st (fun d st'=>d= .agg [.int .i64 r.1.kind,.str r.1.name,.sl false 1 16 (rows w7 r.1.words),.sl false 4 72 (rows u5.cells r.1.subs)]∧st'=puts st [(o0,(.arr 0 4 0 [[.sl false 11 216 (rows u6.cells B7),.mp o1,.ref false o2 q2 0 l2.length,.int .i64 r.2]])),(o1,(.mps false (mrw bX m1))),(o2,(.arr q2 2 16 (rows u7.cells l2))),(o3,(.mps false (mrw w7 m3)))]):=by
 intro n
 induction n with
 |zero=>intro a1 B7 D7 m1 l2 m3 r h;cases h
 |succ n ih=>
  intro a1 B7 D7 m1 l2 m3 r h st o0 o1 o2 o3 q2 hnd M9 Z6 bY jx
  unfold H9 at h
  have ho0:=B3 M9
  have ho1:=B3 Z6
  have ho2:=B3 bY
  have ho3:=B3 jx
  have fx:=fa (fa (fa (fa (idf ho0) (idf ho1)) (idf ho2)) (idf ho3)) (nd4 hnd)
  refine fb 84 [.cell 6 31] [0,1,2,4,6,7,9,10,11,12,13,14,16,23,24,25,26,35,45,48,50,67,68,69,70] Tryz.func63 fun hsc=>?_
  refine bD (s':=(B8 st [(o0,(.arr 0 4 0 [[.sl false 11 216 (rows u6.cells B7),.mp o1,.ref false o2 q2 0 l2.length,.int .i64 D7]])),(o1,(.mps false (mrw bX m1))),(o2,(.arr q2 2 16 (rows u7.cells l2))),(o3,(.mps false (mrw w7 m3)))])) (C7 (by simp[M9,Z6,bY,jx])) ?_
  refine r0 ?_
  refine r0 ?_
  refine r0 ?_
  (repeat apply sq_)
  refine W6 1 16 ?_
  try simp only[List.append_assoc,List.cons_append,List.nil_append]
  refine Q9 (F:=[(0,.ptr o0 0 0 0),(2,.mp o3),(4,.ptr st.length 0 0 0),(6,.ptr (st.length+1) 0 0 0),(7,.ptr (st.length+2) 0 0 0),(23,.sl false 1 16 (rows w7 a1.words)),(24,.int .i64 (↑a1.words.length:Int)),(25,.int .i64 0)]) (T:=(B8 st [(o0,(.arr 0 4 0 [[.sl false 11 216 (rows u6.cells B7),.mp o1,.ref false o2 q2 0 l2.length,.int .i64 D7]])),(o1,(.mps false (mrw bX m1))),(o2,(.arr q2 2 16 (rows u7.cells l2))),(o3,(.mps false (mrw w7 m3)))])++[some (.arr 0 4 0 [[.int .i64 a1.kind,.str a1.name,.sl false 1 16 (rows w7 a1.words),.sl false 4 72 (rows u5.cells a1.subs)]]),some (.arr 0 4 0 [[.int .i64 0,.str [],.A9,.A9]]),some (.arr 0 4 0 [[.int .i64 a1.kind,.str a1.name,.ref false (st.length+3) 0 0 0,.A9]]),some (.arr 0 1 16 (rows w7 []))]) (eG (by simp) (R6 hsc (by simp<;>omega)) (.lv (.lv (.live _ _ _ _ (.arr _ _ _ _ _ (.cons _ _ _ _ (.cons _ _ _ _ .s (.cons _ _ _ _ .s (.cons _ _ _ _ (.nref _ _ _ _ _ _ (D3.trans rfl)) (.cons _ _ _ _ .s .nil)))) (.same _))) (.lv (.nil _))))) (by simp<;>omega) ⟨.s,.s,.s,.s,.s,.s,.s,.s,trivial⟩ (by simp<;>omega)) ?_
  refine aln 23 fun hl0=>?_
  refine rng (body:=W9 a1 m3) (kk:=Y0 (H9 n) a1 B7 D7 m1 l2 m3) (n:=a1.words.length) (s0:=[])
   (fun(gs0:Nat) (k0:Nat) (s0:(List Bs))=>[(0,.ptr o0 0 0 0),(2,.mp o3),(4,.ptr st.length 0 0 0),(6,.ptr (st.length+1) 0 0 0),(7,.ptr (st.length+2) 0 0 0),(23,.sl false 1 16 (rows w7 a1.words)),(24,.int .i64 (↑a1.words.length:Int)),(25,.int .i64 (↑k0:Int))])
   (fun(gs0:Nat) (k0:Nat) (s0:(List Bs))=>(B8 st [(o0,(.arr 0 4 0 [[.sl false 11 216 (rows u6.cells B7),.mp o1,.ref false o2 q2 0 l2.length,.int .i64 D7]])),(o1,(.mps false (mrw bX m1))),(o2,(.arr q2 2 16 (rows u7.cells l2))),(o3,(.mps false (mrw w7 m3)))])++[some (.arr 0 4 0 [[.int .i64 a1.kind,.str a1.name,.sl false 1 16 (rows w7 a1.words),.sl false 4 72 (rows u5.cells a1.subs)]]),some (.arr 0 4 0 [[.int .i64 0,.str [],.A9,.A9]]),some (.arr 0 4 0 [[.int .i64 a1.kind,.str a1.name,.ref false (st.length+3) gs0 0 s0.length,.A9]]),some (.arr gs0 1 16 (rows w7 s0))])
   (fun(gt0:Nat) (t0:(List Bs))=>[(0,.ptr o0 0 0 0),(2,.mp o3),(4,.ptr st.length 0 0 0),(6,.ptr (st.length+1) 0 0 0),(7,.ptr (st.length+2) 0 0 0)])
   (fun(gt0:Nat) (t0:(List Bs))=>(B8 st [(o0,(.arr 0 4 0 [[.sl false 11 216 (rows u6.cells B7),.mp o1,.ref false o2 q2 0 l2.length,.int .i64 D7]])),(o1,(.mps false (mrw bX m1))),(o2,(.arr q2 2 16 (rows u7.cells l2))),(o3,(.mps false (mrw w7 m3)))])++[some (.arr 0 4 0 [[.int .i64 a1.kind,.str a1.name,.sl false 1 16 (rows w7 a1.words),.sl false 4 72 (rows u5.cells a1.subs)]]),some (.arr 0 4 0 [[.int .i64 0,.str [],.A9,.A9]]),some (.arr 0 4 0 [[.int .i64 a1.kind,.str a1.name,.ref false (st.length+3) gt0 0 t0.length,.A9]]),some (.arr gt0 1 16 (rows w7 t0))])
   0 fx hl0 h (bu hsc)
   (fun gs0 k0 s0 b0 fx h hx0=>?_) (fun gs0 s0=>?_) (fun gt0 t0 fr1 st1 h hb=>?_)
  ·unfold W9 at h
   refine ct ?_
   refine cd h (fun hc h=>?_) fun hc h=>?_
   ·refine r0 ?_
    obtain⟨c14,LD,h⟩:=gX h
    have fy:=(show rows w7 s0++[[.str ((assoc (get a1.words k0) m3).getD default)]]=rows w7 c14 from by rw[LD];first|exact E1 (E:=w7) s0 [((assoc (get a1.words k0) m3).getD default)]|simp only[go_sem,rows,List.map_append,List.map_cons,List.map_nil])
    have fy:=fa fy (show s0.length+1=c14.length from by rw[LD];simp)
    obtain⟨fx,h⟩:=ck fx h
    refine r1 ?_
    refine rn ?_
    cases h
    exact eE (gs0+1) (bu hsc)
   ·refine r0 ?_
    obtain⟨c20,OW,h⟩:=gX h
    have fy:=(show rows w7 s0++[[.str (get a1.words k0)]]=rows w7 c20 from by rw[OW];first|exact E1 (E:=w7) s0 [(get a1.words k0)]|simp only[go_sem,rows,List.map_append,List.map_cons,List.map_nil])
    have fy:=fa fy (show s0.length+1=c20.length from by rw[OW];simp)
    obtain⟨fx,h⟩:=ck fx h
    refine r1 ?_
    refine rn ?_
    cases h
    exact eE (gs0+1) (bu hsc)
  ·refine cf ?_
   refine fA ?_;simp only[go_sem,fx]
   exact⟨gs0,(bu hsc)⟩
  ·try simp only[go_sem,fx]
   unfold Y0 at h
   refine Q9 hb ?_
   refine cl h (E0 _) fun v25 h=>?_
   refine cd h (fun hc h=>?_) fun hc h=>?_
   ·refine r0 ?_
    first|refine sq_ (yj (b:=47) (tI:=12) (tE:=2) (tk:=13) (tv:=14) (id2:=2) (id3:=3) (i1:=12) (i2:=13) (i3:=14) (i4:=15) (F:=[(0,.ptr o0 0 0 0),(4,.ptr st.length 0 0 0),(6,.ptr (st.length+1) 0 0 0),(7,.ptr (st.length+2) 0 0 0),(12,.mp (st.length+4))]) (oi:=(st.length+4)) (oe:=o3) (es:=mrw w7 m3) Tryz.underlying126 Tryz.underlying9 (by decide) rfl rfl (by simp only[go_sem,fx]<;>rfl) rfl (by simp only[go_sem,fx]<;>rfl) (by omega) (by simp[Fr.leq,Fr.get]) rfl ?_)|refine yj (b:=47) (tI:=12) (tE:=2) (tk:=13) (tv:=14) (id2:=2) (id3:=3) (i1:=12) (i2:=13) (i3:=14) (i4:=15) (F:=[(0,.ptr o0 0 0 0),(4,.ptr st.length 0 0 0),(6,.ptr (st.length+1) 0 0 0),(7,.ptr (st.length+2) 0 0 0),(12,.mp (st.length+4))]) (oi:=(st.length+4)) (oe:=o3) (es:=mrw w7 m3) Tryz.underlying126 Tryz.underlying9 (by decide) rfl rfl (by simp only[go_sem,fx]<;>rfl) rfl (by simp only[go_sem,fx]<;>rfl) (by omega) (by simp[Fr.leq,Fr.get]) rfl ?_
    try simp only[go_sem,fx]
    refine rn ?_
    obtain⟨v26,hv26,h⟩:=P8 h
    refine(fu _ _ _ _ _ hv26 _ o0 o1 o2 q2 (by simp[fx]<;>omega) (by simp only[go_sem,fx]) (by simp only[go_sem,fx]) (by simp only[go_sem,fx])).mono ?_
    rintro d1 st1 ⟨rfl,rfl⟩
    try simp only[go_sem,fx]
    obtain⟨c27,PG,h⟩:=gX h
    have fy:=(show B6 a1.name [.str v26.1] (mrw w7 m3)=mrw w7 c27 from by rw[PG];exact jq (κ:=Bs) (E:=w7) a1.name v26.1 m3)
    refine r1 ?_
    refine r0 ?_
    refine r0 ?_
    (repeat apply sq_)
    refine W6 4 72 ?_
    try simp only[List.append_assoc,List.cons_append,List.nil_append]
    refine Q9 (F:=[(0,.ptr o0 0 0 0),(2,.mp (st.length+4)),(6,.ptr (st.length+1) 0 0 0),(7,.ptr (st.length+2) 0 0 0),(67,.sl false 4 72 (rows u5.cells a1.subs)),(68,.int .i64 (↑a1.subs.length:Int)),(69,.int .i64 0)]) (T:=(B8 st [(o0,(.arr 0 4 0 [[.sl false 11 216 (rows u6.cells B7),.mp o1,.ref false o2 q2 0 l2.length,.int .i64 v26.2]])),(o1,(.mps false (mrw bX m1))),(o2,(.arr q2 2 16 (rows u7.cells l2))),(o3,(.mps false (mrw w7 m3)))])++[some (.arr 0 4 0 [[.int .i64 a1.kind,.str a1.name,.sl false 1 16 (rows w7 a1.words),.sl false 4 72 (rows u5.cells a1.subs)]]),some (.arr 0 4 0 [[.int .i64 0,.str [],.A9,.A9]]),some (.arr 0 4 0 [[.int .i64 a1.kind,.str v26.1,.ref false (st.length+3) gt0 0 t0.length,.ref false (st.length+5) 0 0 0]]),some (.arr gt0 1 16 (rows w7 t0)),some (.mps false (mrw w7 c27)),some (.arr 0 4 72 (rows u5.cells []))]) (eG (by simp) (R6 hsc (by simp<;>omega)) (.lv (.lv (.live _ _ _ _ (.arr _ _ _ _ _ (.cons _ _ _ _ (.cons _ _ _ _ .s (.cons _ _ _ _ .s (.cons _ _ _ _ .s (.cons _ _ _ _ (.nref _ _ _ _ _ _ (D3.trans rfl)) .nil)))) (.same _))) (.lv (.lv (.lv (.nil _))))))) (by simp<;>omega) ⟨.s,.s,.s,.s,.s,.s,.s,trivial⟩ (by simp<;>omega)) ?_
    refine aln 67 fun hl1=>?_
    refine rng (body:=Y1 (H9 n) a1 B7 m1 l2 c27) (kk:=Y2 a1 v26 t0) (n:=a1.subs.length) (s0:=(v26.2,[]))
     (fun(gs1:Nat) (k1:Nat) (s1:Int×(List u5))=>[(0,.ptr o0 0 0 0),(2,.mp (st.length+4)),(6,.ptr (st.length+1) 0 0 0),(7,.ptr (st.length+2) 0 0 0),(67,.sl false 4 72 (rows u5.cells a1.subs)),(68,.int .i64 (↑a1.subs.length:Int)),(69,.int .i64 (↑k1:Int))])
     (fun(gs1:Nat) (k1:Nat) (s1:Int×(List u5))=>(B8 st [(o0,(.arr 0 4 0 [[.sl false 11 216 (rows u6.cells B7),.mp o1,.ref false o2 q2 0 l2.length,.int .i64 s1.1]])),(o1,(.mps false (mrw bX m1))),(o2,(.arr q2 2 16 (rows u7.cells l2))),(o3,(.mps false (mrw w7 m3)))])++[none,some (.arr 0 4 0 [[.int .i64 0,.str [],.A9,.A9]]),some (.arr 0 4 0 [[.int .i64 a1.kind,.str v26.1,.ref false (st.length+3) gt0 0 t0.length,.ref false (st.length+5) gs1 0 s1.2.length]]),some (.arr gt0 1 16 (rows w7 t0)),some (.mps false (mrw w7 c27)),some (.arr gs1 4 72 (rows u5.cells s1.2))])
     (fun(gt1:Nat) (t1:Int×(List u5))=>[(6,.ptr (st.length+1) 0 0 0),(7,.ptr (st.length+2) 0 0 0)])
     (fun(gt1:Nat) (t1:Int×(List u5))=>(B8 st [(o0,(.arr 0 4 0 [[.sl false 11 216 (rows u6.cells B7),.mp o1,.ref false o2 q2 0 l2.length,.int .i64 t1.1]])),(o1,(.mps false (mrw bX m1))),(o2,(.arr q2 2 16 (rows u7.cells l2))),(o3,(.mps false (mrw w7 m3)))])++[none,some (.arr 0 4 0 [[.int .i64 0,.str [],.A9,.A9]]),some (.arr 0 4 0 [[.int .i64 a1.kind,.str v26.1,.ref false (st.length+3) gt0 0 t0.length,.ref false (st.length+5) gt1 0 t1.2.length]]),some (.arr gt0 1 16 (rows w7 t0)),none,some (.arr gt1 4 72 (rows u5.cells t1.2))])
     0 fx hl1 h (bu hsc)
     (fun gs1 k1 s1 b1 fx h hx1=>?_) (fun gs1 s1=>?_) (fun gt1 t1 fr1 st1 h hb=>?_)
    ·unfold Y1 at h
     refine ct ?_
     refine rn ?_
     refine dw [1,5] 2 ?_
     obtain⟨v36,hv36,h⟩:=P8 h
     refine gO [o0,o1,o2,(st.length+4)] (fun st2 h2=>(ih _ _ _ _ _ _ _ hv36 st2 o0 o1 o2 (st.length+4) q2 (by simp[fx]<;>omega) ((h2 _ (by simp)).trans (by simp only[go_sem,fx])) ((h2 _ (by simp)).trans (by simp only[go_sem,fx])) ((h2 _ (by simp)).trans (by simp only[go_sem,fx])) ((h2 _ (by simp)).trans (D2.trans rfl)))) (by simp) (by simp only[List.mem_cons,List.not_mem_nil,or_false,forall_eq_or_imp,forall_eq];exact⟨⟨by first|omega|(simp<;>omega),_,(by simp only[go_sem,fx]<;>rfl),Ob.noConfusion⟩,⟨by first|omega|(simp<;>omega),_,(by simp only[go_sem,fx]<;>rfl),Ob.noConfusion⟩,⟨by first|omega|(simp<;>omega),_,(by simp only[go_sem,fx]<;>rfl),Ob.noConfusion⟩,⟨by first|omega|(simp<;>omega),_,(D2.trans rfl),Ob.noConfusion⟩⟩) (by simp) ?_
     obtain⟨c38,Sd,h⟩:=gX h
     have fy:=(show rows u5.cells s1.2++[[.int .i64 v36.1.kind,.str v36.1.name,.sl false 1 16 (rows w7 v36.1.words),.sl false 4 72 (rows u5.cells v36.1.subs)]]=rows u5.cells c38 from by rw[Sd];first|exact E1 (E:=u5.cells) s1.2 [v36.1]|simp only[go_sem,rows,List.map_append,List.map_cons,List.map_nil])
     have fy:=fa fy (show s1.2.length+1=c38.length from by rw[Sd];simp)
     obtain⟨fx,h⟩:=ck fx h
     try simp only[go_sem,fx,fy]
     try refine⟨by first|omega|(simp<;>omega),?_⟩
     refine rn ?_
     cases h
     exact eE (gs1+1) (bu hsc)
    ·refine cf ?_
     refine fA ?_;simp only[go_sem,fx]
     exact⟨gs1,(bu hsc)⟩
    ·try simp only[go_sem,fx]
     unfold Y2 at h
     refine Q9 hb ?_
     refine rr ?_
     exact fuo (.agg [.int .i64 a1.kind,.str v26.1,.sl false 1 16 (rows w7 t0),.sl false 4 72 (rows u5.cells t1.2)]) (.agg _ _ (.cons _ _ _ _ .s (.cons _ _ _ _ .s (.cons _ _ _ _ (.ref _ _ _ _ _ _ _ _ _ (D3.trans rfl) W7 (by decide) (jS _) (by simp only[go_sem])) (.cons _ _ _ _ (.ref _ _ _ _ _ _ _ _ _ (D3.trans rfl) W7 (by decide) (jS _) (by simp only[go_sem])) .nil))))) h hsc
   ·refine r0 ?_
    refine r0 ?_
    (repeat apply sq_)
    refine W6 4 72 ?_
    try simp only[List.append_assoc,List.cons_append,List.nil_append]
    refine Q9 (F:=[(0,.ptr o0 0 0 0),(2,.mp o3),(6,.ptr (st.length+1) 0 0 0),(7,.ptr (st.length+2) 0 0 0),(67,.sl false 4 72 (rows u5.cells a1.subs)),(68,.int .i64 (↑a1.subs.length:Int)),(69,.int .i64 0)]) (T:=(B8 st [(o0,(.arr 0 4 0 [[.sl false 11 216 (rows u6.cells B7),.mp o1,.ref false o2 q2 0 l2.length,.int .i64 D7]])),(o1,(.mps false (mrw bX m1))),(o2,(.arr q2 2 16 (rows u7.cells l2))),(o3,(.mps false (mrw w7 m3)))])++[some (.arr 0 4 0 [[.int .i64 a1.kind,.str a1.name,.sl false 1 16 (rows w7 a1.words),.sl false 4 72 (rows u5.cells a1.subs)]]),some (.arr 0 4 0 [[.int .i64 0,.str [],.A9,.A9]]),some (.arr 0 4 0 [[.int .i64 a1.kind,.str a1.name,.ref false (st.length+3) gt0 0 t0.length,.ref false (st.length+4) 0 0 0]]),some (.arr gt0 1 16 (rows w7 t0)),some (.arr 0 4 72 (rows u5.cells []))]) (eG (by simp) (R6 hsc (by simp<;>omega)) (.lv (.lv (.live _ _ _ _ (.arr _ _ _ _ _ (.cons _ _ _ _ (.cons _ _ _ _ .s (.cons _ _ _ _ .s (.cons _ _ _ _ .s (.cons _ _ _ _ (.nref _ _ _ _ _ _ (D3.trans rfl)) .nil)))) (.same _))) (.lv (.lv (.nil _)))))) (by simp<;>omega) ⟨.s,.s,.s,.s,.s,.s,.s,trivial⟩ (by simp<;>omega)) ?_
    refine aln 67 fun hl2=>?_
    refine rng (body:=Y3 (H9 n) a1 B7 m1 l2 m3) (kk:=Y4 a1 t0) (n:=a1.subs.length) (s0:=(D7,[]))
     (fun(gs2:Nat) (k2:Nat) (s2:Int×(List u5))=>[(0,.ptr o0 0 0 0),(2,.mp o3),(6,.ptr (st.length+1) 0 0 0),(7,.ptr (st.length+2) 0 0 0),(67,.sl false 4 72 (rows u5.cells a1.subs)),(68,.int .i64 (↑a1.subs.length:Int)),(69,.int .i64 (↑k2:Int))])
     (fun(gs2:Nat) (k2:Nat) (s2:Int×(List u5))=>(B8 st [(o0,(.arr 0 4 0 [[.sl false 11 216 (rows u6.cells B7),.mp o1,.ref false o2 q2 0 l2.length,.int .i64 s2.1]])),(o1,(.mps false (mrw bX m1))),(o2,(.arr q2 2 16 (rows u7.cells l2))),(o3,(.mps false (mrw w7 m3)))])++[none,some (.arr 0 4 0 [[.int .i64 0,.str [],.A9,.A9]]),some (.arr 0 4 0 [[.int .i64 a1.kind,.str a1.name,.ref false (st.length+3) gt0 0 t0.length,.ref false (st.length+4) gs2 0 s2.2.length]]),some (.arr gt0 1 16 (rows w7 t0)),some (.arr gs2 4 72 (rows u5.cells s2.2))])
     (fun(gt2:Nat) (t2:Int×(List u5))=>[(6,.ptr (st.length+1) 0 0 0),(7,.ptr (st.length+2) 0 0 0)])
     (fun(gt2:Nat) (t2:Int×(List u5))=>(B8 st [(o0,(.arr 0 4 0 [[.sl false 11 216 (rows u6.cells B7),.mp o1,.ref false o2 q2 0 l2.length,.int .i64 t2.1]])),(o1,(.mps false (mrw bX m1))),(o2,(.arr q2 2 16 (rows u7.cells l2))),(o3,(.mps false (mrw w7 m3)))])++[none,some (.arr 0 4 0 [[.int .i64 0,.str [],.A9,.A9]]),some (.arr 0 4 0 [[.int .i64 a1.kind,.str a1.name,.ref false (st.length+3) gt0 0 t0.length,.ref false (st.length+4) gt2 0 t2.2.length]]),some (.arr gt0 1 16 (rows w7 t0)),some (.arr gt2 4 72 (rows u5.cells t2.2))])
     0 fx hl2 h (bu hsc)
     (fun gs2 k2 s2 b2 fx h hx2=>?_) (fun gs2 s2=>?_) (fun gt2 t2 fr1 st1 h hb=>?_)
    ·unfold Y3 at h
     refine ct ?_
     refine rn ?_
     refine dw [1,5] 2 ?_
     obtain⟨v50,hv50,h⟩:=P8 h
     refine gO [o0,o1,o2,o3] (fun st2 h2=>(ih _ _ _ _ _ _ _ hv50 st2 _ _ _ _ q2 hnd ((h2 _ (by simp)).trans (by simp only[go_sem,fx])) ((h2 _ (by simp)).trans (by simp only[go_sem,fx])) ((h2 _ (by simp)).trans (by simp only[go_sem,fx])) ((h2 _ (by simp)).trans (by simp only[go_sem,fx])))) (by simp) (by simp only[List.mem_cons,List.not_mem_nil,or_false,forall_eq_or_imp,forall_eq];exact⟨⟨by first|omega|(simp<;>omega),_,(by simp only[go_sem,fx]<;>rfl),Ob.noConfusion⟩,⟨by first|omega|(simp<;>omega),_,(by simp only[go_sem,fx]<;>rfl),Ob.noConfusion⟩,⟨by first|omega|(simp<;>omega),_,(by simp only[go_sem,fx]<;>rfl),Ob.noConfusion⟩,⟨by first|omega|(simp<;>omega),_,(by simp only[go_sem,fx]<;>rfl),Ob.noConfusion⟩⟩) (by simp) ?_
     obtain⟨c52,Se,h⟩:=gX h
     have fy:=(show rows u5.cells s2.2++[[.int .i64 v50.1.kind,.str v50.1.name,.sl false 1 16 (rows w7 v50.1.words),.sl false 4 72 (rows u5.cells v50.1.subs)]]=rows u5.cells c52 from by rw[Se];first|exact E1 (E:=u5.cells) s2.2 [v50.1]|simp only[go_sem,rows,List.map_append,List.map_cons,List.map_nil])
     have fy:=fa fy (show s2.2.length+1=c52.length from by rw[Se];simp)
     obtain⟨fx,h⟩:=ck fx h
     try simp only[go_sem,fx,fy]
     try refine⟨by first|omega|(simp<;>omega),?_⟩
     refine rn ?_
     cases h
     exact eE (gs2+1) (bu hsc)
    ·refine cf ?_
     refine fA ?_;simp only[go_sem,fx]
     exact⟨gs2,(bu hsc)⟩
    ·try simp only[go_sem,fx]
     unfold Y4 at h
     refine Q9 hb ?_
     refine rr ?_
     exact fuo (.agg [.int .i64 a1.kind,.str a1.name,.sl false 1 16 (rows w7 t0),.sl false 4 72 (rows u5.cells t2.2)]) (.agg _ _ (.cons _ _ _ _ .s (.cons _ _ _ _ .s (.cons _ _ _ _ (.ref _ _ _ _ _ _ _ _ _ (D3.trans rfl) W7 (by decide) (jS _) (by simp only[go_sem])) (.cons _ _ _ _ (.ref _ _ _ _ _ _ _ _ _ (D3.trans rfl) W7 (by decide) (jS _) (by simp only[go_sem])) .nil))))) h hsc
end Go.Proofs.YtfacbpehlibilaaGreatDoor
