import Derived.Test.YtanlbioodbnakaaGreatDoorTTWalk2
set_option linter.unusedVariables false
set_option linter.unusedSimpArgs false
set_option maxHeartbeats 2000000
set_option maxRecDepth 100000
namespace Go.Proofs.YtanlbioodbnakaaGreatDoor
open Go Go.Am
theorem oV(n:Nat)(a0:u7)(r:Bool)(h:bZ n a0=some r):Pure Tryz.prog gl 62 [.agg [.int .i64 a0.from_.form.kind,.str a0.from_.form.name,.sl false 1 16 (rows w8 a0.from_.form.words),.sl false 4 72 (rows u5.cells a0.from_.form.subs),.sl false 1 16 (rows w8 a0.from_.words),.sl false 1 16 (rows w8 a0.from_.E9),.sl false 1 16 (rows w8 a0.from_.parts),.int .i64 a0.to_.kind,.str a0.to_.name,.sl false 1 16 (rows w8 a0.to_.words),.sl false 4 72 (rows u5.cells a0.to_.subs)]] (.bool r):=by
 intro st
 unfold bZ at h
 have fx:=trivial
 refine fb 18 [.tmp 2] [0,1,2,3,4,5] Tryz.func62 fun hsc=>?_
 refine rn ?_
 obtain⟨v1,hv1,h⟩:=J5 h
 refine(pT n _ _ hv1 _).mono ?_
 rintro d1 st1 ⟨rfl,rfl⟩
 refine cl h (J4 n _) fun v2 h=>?_
 refine rn ?_
 obtain⟨v3,hv3,h⟩:=J5 h
 refine((nL n _ _ _ _ _ _ _ _ _ _ _ _ _ _ _ _ hv3 _ _ _ _ _ _ (by simp) (V9.trans rfl) (eM.trans rfl) (eM.trans rfl) (eM.trans rfl) (eM.trans rfl)).up (.cons _ _ _ _ .s (.cons _ _ _ _ (.B2 _ _ _ (by decide)) (.cons _ _ _ _ .s (.cons _ _ _ _ .s (.cons _ _ _ _ .s (.cons _ _ _ _ .s .nil)))))) (by simp<;>omega)).mono ?_
 rintro d1 st1 ⟨rfl,rfl⟩
 exact rt
theorem nM(n:Nat)(a0:(List u7))(r:B0)(h:bh n a0=some r):Pure Tryz.prog gl 38 [.sl false 11 216 (rows u7.cells a0)] (.agg [.int .i64 r.code,.int .i64 r.index]):=by
 intro st
 unfold bh at h
 have fx:=trivial
 refine fb 80 [.cell 2 32] [0,2,3,4,5,6,7,8,9,12,14,15,16,17,26,36,44,52,53,54,55,65,66,67,68,69,70,75] Tryz.func38 fun hsc=>?_
 refine cd h (fun hc h=>?_) fun hc h=>?_
 ·refine cl h (G6 _ _) fun v1 h=>?_
  exact rt
 ·refine aln 14 fun hl0=>?_
  refine rng (body:=aS n a0) (kk:=dR) (n:=a0.length) (s0:=())
   (fun(gs0:Unit) (k0:Nat) (s0:Unit)=>[(2,.ptr st.length 0 0 0),(14,.sl false 11 216 (rows u7.cells a0)),(15,.int .i64 (↑a0.length:Int)),(16,.int .i64 (↑k0:Int))])
   (fun(gs0:Unit) (k0:Nat) (s0:Unit)=>st++[some (.arr 0 2 0 [[.int .i64 0,.int .i64 0]])])
   (fun(gt0:Unit) (t0:Unit)=>[(2,.ptr st.length 0 0 0)])
   (fun(gt0:Unit) (t0:Unit)=>st++[some (.arr 0 2 0 [[.int .i64 0,.int .i64 0]])])
   () fx hl0 h (bm hsc)
   (fun gs0 k0 s0 b0 fx h hx0=>?_) (fun gs0 s0=>?_) (fun gt0 t0 fr1 st1 h hb=>?_)
  ·unfold aS at h
   refine ct ?_
   refine cl h (mO n _) fun v21 h=>?_
   refine cd h (fun hc h=>?_) fun hc h=>?_
   ·refine cl h (G6 _ _) fun v22 h=>?_
    refine ra ?_
    cases h
    refine E3 ?_;have h:=congrArg some (hx0 _ rfl)
    exact rt
   ·refine cl h (Q9 _ _) fun v23 h=>?_
    refine cd h (fun hc h=>?_) fun hc h=>?_
    ·refine cl h (G6 _ _) fun v24 h=>?_
     refine ra ?_
     cases h
     refine E3 ?_;have h:=congrArg some (hx0 _ rfl)
     exact rt
    ·refine cl h (bM n _) fun v25 h=>?_
     refine cd h (fun hc h=>?_) fun hc h=>?_
     ·refine cl h (G6 _ _) fun v26 h=>?_
      refine ra ?_
      cases h
      refine E3 ?_;have h:=congrArg some (hx0 _ rfl)
      exact rt
     ·refine cl h (J4 n _) fun v27 h=>?_
      refine aln 7 fun hl2=>?_
      refine rng (body:=dQ v27 a0 k0) (kk:=aT n a0 k0) (n:=v27.length) (s0:=())
       (fun(gs2:Unit) (k2:Nat) (s2:Unit)=>[(2,.ptr st.length 0 0 0),(3,.int .i64 (↑k0:Int)),(4,.ptr (st.length+1) 0 0 0),(7,.sl false 1 16 (rows w8 v27)),(14,.sl false 11 216 (rows u7.cells a0)),(15,.int .i64 (↑a0.length:Int)),(16,.int .i64 (↑k0:Int)),(52,.sl false 1 16 (rows w8 v27)),(53,.int .i64 (↑v27.length:Int)),(54,.int .i64 (↑k2:Int))])
       (fun(gs2:Unit) (k2:Nat) (s2:Unit)=>st++[some (.arr 0 2 0 [[.int .i64 0,.int .i64 0]]),some (.arr 0 11 0 [[.int .i64 ((get a0 k0).from_.form.kind),.str ((get a0 k0).from_.form.name),.sl false 1 16 (rows w8 ((get a0 k0).from_.form.words)),.sl false 4 72 (rows u5.cells ((get a0 k0).from_.form.subs)),.sl false 1 16 (rows w8 ((get a0 k0).from_.words)),.sl false 1 16 (rows w8 ((get a0 k0).from_.E9)),.sl false 1 16 (rows w8 ((get a0 k0).from_.parts)),.int .i64 ((get a0 k0).to_.kind),.str ((get a0 k0).to_.name),.sl false 1 16 (rows w8 ((get a0 k0).to_.words)),.sl false 4 72 (rows u5.cells ((get a0 k0).to_.subs))]])])
       (fun(gt2:Unit) (t2:Unit)=>[(2,.ptr st.length 0 0 0),(3,.int .i64 (↑k0:Int)),(4,.ptr (st.length+1) 0 0 0),(14,.sl false 11 216 (rows u7.cells a0)),(15,.int .i64 (↑a0.length:Int)),(16,.int .i64 (↑k0:Int))])
       (fun(gt2:Unit) (t2:Unit)=>st++[some (.arr 0 2 0 [[.int .i64 0,.int .i64 0]]),some (.arr 0 11 0 [[.int .i64 ((get a0 k0).from_.form.kind),.str ((get a0 k0).from_.form.name),.sl false 1 16 (rows w8 ((get a0 k0).from_.form.words)),.sl false 4 72 (rows u5.cells ((get a0 k0).from_.form.subs)),.sl false 1 16 (rows w8 ((get a0 k0).from_.words)),.sl false 1 16 (rows w8 ((get a0 k0).from_.E9)),.sl false 1 16 (rows w8 ((get a0 k0).from_.parts)),.int .i64 ((get a0 k0).to_.kind),.str ((get a0 k0).to_.name),.sl false 1 16 (rows w8 ((get a0 k0).to_.words)),.sl false 4 72 (rows u5.cells ((get a0 k0).to_.subs))]])])
       () fx hl2 h (bm hsc)
       (fun gs2 k2 s2 b2 fx h hx2=>?_) (fun gs2 s2=>?_) (fun gt2 t2 fr1 st1 h hb=>?_)
      ·unfold dQ at h
       refine ct ?_
       obtain⟨fx,h⟩:=ck fx h
       refine cl h (B1 _ _) fun v35 h=>?_
       refine rn ?_
       obtain⟨v36,hv36,h⟩:=J5 h
       refine bR (fun hG=>(B1 _ _ _ (qh hv36 (by simpa using hG)))) ?_
       refine cd h (fun hc h=>?_) fun hc h=>?_
       ·refine cl h (G6 _ _) fun v37 h=>?_
        refine ra ?_
        cases h
        refine E3 ?_;obtain rfl:=hx2 _ rfl;try simp only[go_sem,fx]
        refine E3 ?_;have h:=congrArg some (hx0 _ rfl)
        exact rt
       ·refine rn ?_
        cases h
        exact cj () (bm hsc)
      ·refine cf ?_
       refine cM ?_;simp only[go_sem,fx]
       exact⟨(),(bm hsc)⟩
      ·try simp only[go_sem,fx]
       unfold aT at h
       refine L6 hb ?_
       refine cl h (oV n _) fun v38 h=>?_
       refine cd h (fun hc h=>?_) fun hc h=>?_
       ·refine cl h (G6 _ _) fun v39 h=>?_
        refine ra ?_
        cases h
        refine E3 ?_;have h:=congrArg some (hx0 _ rfl)
        exact rt
       ·refine rn ?_
        cases h
        exact cj () (bm hsc)
  ·refine cf ?_
   refine cM ?_;simp only[go_sem,fx]
   exact⟨(),(bm hsc)⟩
  ·try simp only[go_sem,fx]
   unfold dR at h
   refine L6 hb ?_
   exact rt
theorem kT(n:Nat)(a0:(List u7))(a1:u5)(r:B0)(h:ft n a0 a1=some r):Pure Tryz.prog gl 23 [.sl false 11 216 (rows u7.cells a0),.agg [.int .i64 a1.kind,.str a1.name,.sl false 1 16 (rows w8 a1.words),.sl false 4 72 (rows u5.cells a1.subs)]] (.agg [.int .i64 r.code,.int .i64 r.index]):=by
 intro st
 unfold ft at h
 have fx:=trivial
 refine fb 14 [.cell 4 32] [0,1,3,4,5,10] Tryz.func23 fun hsc=>?_
 refine cl h (nM n _) fun v1 h=>?_
 refine cd h (fun hc h=>?_) fun hc h=>?_
 ·exact rt
 ·refine cl h (bM n _) fun v2 h=>?_
  exact rt
theorem fG(B7:(List u7))(E0:Int)(m1:(List (Bs×Int)))(l2:(List u6))(r:Bs×Int)(h:T8 B7 E0 m1 l2=some r):∀(st:St) (o0 o1 o2 q2:Nat) (hnd: [o0,o1,o2].Nodup) (G2:Am.look st o0=some (.arr 0 4 0 [[.sl false 11 216 (rows u7.cells B7),.mp o1,.ref false o2 q2 0 l2.length,.int .i64 E0]])) (P9:Am.look st o1=some (.mps false (mrw K7 m1))) (aY:Am.look st o2=some (.arr q2 2 16 (rows u6.cells l2))),Am.Spec Tryz.prog gl 63 [.ptr o0 0 0 0] st (fun d st'=>d= .str r.1∧st'=puts st [(o0,(.arr 0 4 0 [[.sl false 11 216 (rows u7.cells B7),.mp o1,.ref false o2 q2 0 l2.length,.int .i64 r.2]])),(o1,(.mps false (mrw K7 m1))),(o2,(.arr q2 2 16 (rows u6.cells l2)))]):=by
 intro st o0 o1 o2 q2 hnd G2 P9 aY
 unfold T8 at h
 have ho0:=B5 G2
 have ho1:=B5 P9
 have ho2:=B5 aY
 have fx:=fa (fa (fa (idf ho0) (idf ho1)) (idf ho2)) (nd3 hnd)
 refine fb 16 [.tmp 2] [0,2] Tryz.func63 fun hsc=>?_
 refine T6 (s':=(C0 st [(o0,(.arr 0 4 0 [[.sl false 11 216 (rows u7.cells B7),.mp o1,.ref false o2 q2 0 l2.length,.int .i64 E0]])),(o1,(.mps false (mrw K7 m1))),(o2,(.arr q2 2 16 (rows u6.cells l2)))])) (B6 (by simp[G2,P9,aY])) ?_
 refine cl h (pS _) fun v1 h=>?_
 obtain⟨fx,h⟩:=ck fx h
 refine rr ?_
 exact fus (.str (mG [63] v1)) (.same _) h hsc
theorem lX:∀(n:Nat) (a1:u5) (B7:(List u7)) (E0:Int) (m1:(List (Bs×Int))) (l2:(List u6)) (m3:(List (Bs×Bs))) (r:u5×Int) (h:H8 n a1 B7 E0 m1 l2 m3=some r),∀(st:St) (o0 o1 o2 o3 q2:Nat) (hnd: [o0,o1,o2,o3].Nodup) (G2:Am.look st o0=some (.arr 0 4 0 [[.sl false 11 216 (rows u7.cells B7),.mp o1,.ref false o2 q2 0 l2.length,.int .i64 E0]])) (P9:Am.look st o1=some (.mps false (mrw K7 m1))) (aY:Am.look st o2=some (.arr q2 2 16 (rows u6.cells l2))) (jI:Am.look st o3=some (.mps false (mrw w8 m3))),Am.Spec Tryz.prog gl 39 [.ptr o0 0 0 0,.agg [.int .i64 a1.kind,.str a1.name,.sl false 1 16 (rows w8 a1.words),.sl false 4 72 (rows u5.cells a1.subs)],.mp o3] st (fun d st'=>d= .agg [.int .i64 r.1.kind,.str r.1.name,.sl false 1 16 (rows w8 r.1.words),.sl false 4 72 (rows u5.cells r.1.subs)]∧st'=puts st [(o0,(.arr 0 4 0 [[.sl false 11 216 (rows u7.cells B7),.mp o1,.ref false o2 q2 0 l2.length,.int .i64 r.2]])),(o1,(.mps false (mrw K7 m1))),(o2,(.arr q2 2 16 (rows u6.cells l2))),(o3,(.mps false (mrw w8 m3)))]):=by
 intro n
 induction n with
 |zero=>intro a1 B7 E0 m1 l2 m3 r h;cases h
 |succ n ih=>
  intro a1 B7 E0 m1 l2 m3 r h st o0 o1 o2 o3 q2 hnd G2 P9 aY jI
  unfold H8 at h
  have ho0:=B5 G2
  have ho1:=B5 P9
  have ho2:=B5 aY
  have ho3:=B5 jI
  have fx:=fa (fa (fa (fa (idf ho0) (idf ho1)) (idf ho2)) (idf ho3)) (nd4 hnd)
  refine fb 84 [.cell 6 29] [0,1,2,4,6,7,9,10,11,12,13,14,16,23,24,25,26,35,45,48,50,67,68,69,70] Tryz.func39 fun hsc=>?_
  refine T6 (s':=(C0 st [(o0,(.arr 0 4 0 [[.sl false 11 216 (rows u7.cells B7),.mp o1,.ref false o2 q2 0 l2.length,.int .i64 E0]])),(o1,(.mps false (mrw K7 m1))),(o2,(.arr q2 2 16 (rows u6.cells l2))),(o3,(.mps false (mrw w8 m3)))])) (B6 (by simp[G2,P9,aY,jI])) ?_
  refine r0 ?_
  refine r0 ?_
  refine r0 ?_
  (repeat apply sq_)
  refine S4 1 16 ?_
  try simp only[List.append_assoc,List.cons_append,List.nil_append]
  refine L6 (F:=[(0,.ptr o0 0 0 0),(2,.mp o3),(4,.ptr st.length 0 0 0),(6,.ptr (st.length+1) 0 0 0),(7,.ptr (st.length+2) 0 0 0),(23,.sl false 1 16 (rows w8 a1.words)),(24,.int .i64 (↑a1.words.length:Int)),(25,.int .i64 0)]) (T:=(C0 st [(o0,(.arr 0 4 0 [[.sl false 11 216 (rows u7.cells B7),.mp o1,.ref false o2 q2 0 l2.length,.int .i64 E0]])),(o1,(.mps false (mrw K7 m1))),(o2,(.arr q2 2 16 (rows u6.cells l2))),(o3,(.mps false (mrw w8 m3)))])++[some (.arr 0 4 0 [[.int .i64 a1.kind,.str a1.name,.sl false 1 16 (rows w8 a1.words),.sl false 4 72 (rows u5.cells a1.subs)]]),some (.arr 0 4 0 [[.int .i64 0,.str [],.B2,.B2]]),some (.arr 0 4 0 [[.int .i64 a1.kind,.str a1.name,.ref false (st.length+3) 0 0 0,.B2]]),some (.arr 0 1 16 (rows w8 []))]) (ey (by simp) (P1 hsc (by simp<;>omega)) (.lv (.lv (.live _ _ _ _ (.arr _ _ _ _ _ (.cons _ _ _ _ (.cons _ _ _ _ .s (.cons _ _ _ _ .s (.cons _ _ _ _ (.nref _ _ _ _ _ _ (D1.trans rfl)) (.cons _ _ _ _ .s .nil)))) (.same _))) (.lv (.nil _))))) (by simp<;>omega) ⟨.s,.s,.s,.s,.s,.s,.s,.s,trivial⟩ (by simp<;>omega)) ?_
  refine aln 23 fun hl0=>?_
  refine rng (body:=W3 a1 m3) (kk:=W4 (H8 n) a1 B7 E0 m1 l2 m3) (n:=a1.words.length) (s0:=[])
   (fun(gs0:Nat) (k0:Nat) (s0:(List Bs))=>[(0,.ptr o0 0 0 0),(2,.mp o3),(4,.ptr st.length 0 0 0),(6,.ptr (st.length+1) 0 0 0),(7,.ptr (st.length+2) 0 0 0),(23,.sl false 1 16 (rows w8 a1.words)),(24,.int .i64 (↑a1.words.length:Int)),(25,.int .i64 (↑k0:Int))])
   (fun(gs0:Nat) (k0:Nat) (s0:(List Bs))=>(C0 st [(o0,(.arr 0 4 0 [[.sl false 11 216 (rows u7.cells B7),.mp o1,.ref false o2 q2 0 l2.length,.int .i64 E0]])),(o1,(.mps false (mrw K7 m1))),(o2,(.arr q2 2 16 (rows u6.cells l2))),(o3,(.mps false (mrw w8 m3)))])++[some (.arr 0 4 0 [[.int .i64 a1.kind,.str a1.name,.sl false 1 16 (rows w8 a1.words),.sl false 4 72 (rows u5.cells a1.subs)]]),some (.arr 0 4 0 [[.int .i64 0,.str [],.B2,.B2]]),some (.arr 0 4 0 [[.int .i64 a1.kind,.str a1.name,.ref false (st.length+3) gs0 0 s0.length,.B2]]),some (.arr gs0 1 16 (rows w8 s0))])
   (fun(gt0:Nat) (t0:(List Bs))=>[(0,.ptr o0 0 0 0),(2,.mp o3),(4,.ptr st.length 0 0 0),(6,.ptr (st.length+1) 0 0 0),(7,.ptr (st.length+2) 0 0 0)])
   (fun(gt0:Nat) (t0:(List Bs))=>(C0 st [(o0,(.arr 0 4 0 [[.sl false 11 216 (rows u7.cells B7),.mp o1,.ref false o2 q2 0 l2.length,.int .i64 E0]])),(o1,(.mps false (mrw K7 m1))),(o2,(.arr q2 2 16 (rows u6.cells l2))),(o3,(.mps false (mrw w8 m3)))])++[some (.arr 0 4 0 [[.int .i64 a1.kind,.str a1.name,.sl false 1 16 (rows w8 a1.words),.sl false 4 72 (rows u5.cells a1.subs)]]),some (.arr 0 4 0 [[.int .i64 0,.str [],.B2,.B2]]),some (.arr 0 4 0 [[.int .i64 a1.kind,.str a1.name,.ref false (st.length+3) gt0 0 t0.length,.B2]]),some (.arr gt0 1 16 (rows w8 t0))])
   0 fx hl0 h (bu hsc)
   (fun gs0 k0 s0 b0 fx h hx0=>?_) (fun gs0 s0=>?_) (fun gt0 t0 fr1 st1 h hb=>?_)
  ·unfold W3 at h
   refine ct ?_
   refine cd h (fun hc h=>?_) fun hc h=>?_
   ·refine r0 ?_
    obtain⟨c14,Lz,h⟩:=gq h
    have fy:=(show rows w8 s0++[[.str ((assoc (get a1.words k0) m3).getD default)]]=rows w8 c14 from by rw[Lz];first|exact D5 (E:=w8) s0 [((assoc (get a1.words k0) m3).getD default)]|simp only[go_sem,rows,List.map_append,List.map_cons,List.map_nil])
    have fy:=fa fy (show s0.length+1=c14.length from by rw[Lz];simp)
    obtain⟨fx,h⟩:=ck fx h
    refine r1 ?_
    refine rn ?_
    cases h
    exact cj (gs0+1) (bu hsc)
   ·refine r0 ?_
    obtain⟨c20,OV,h⟩:=gq h
    have fy:=(show rows w8 s0++[[.str (get a1.words k0)]]=rows w8 c20 from by rw[OV];first|exact D5 (E:=w8) s0 [(get a1.words k0)]|simp only[go_sem,rows,List.map_append,List.map_cons,List.map_nil])
    have fy:=fa fy (show s0.length+1=c20.length from by rw[OV];simp)
    obtain⟨fx,h⟩:=ck fx h
    refine r1 ?_
    refine rn ?_
    cases h
    exact cj (gs0+1) (bu hsc)
  ·refine cf ?_
   refine cM ?_;simp only[go_sem,fx]
   exact⟨gs0,(bu hsc)⟩
  ·try simp only[go_sem,fx]
   unfold W4 at h
   refine L6 hb ?_
   refine cl h (D6 _) fun v25 h=>?_
   refine cd h (fun hc h=>?_) fun hc h=>?_
   ·refine r0 ?_
    first|refine sq_ (xV (b:=47) (tI:=12) (tE:=2) (tk:=13) (tv:=14) (id2:=2) (id3:=3) (i1:=12) (i2:=13) (i3:=14) (i4:=15) (F:=[(0,.ptr o0 0 0 0),(4,.ptr st.length 0 0 0),(6,.ptr (st.length+1) 0 0 0),(7,.ptr (st.length+2) 0 0 0),(12,.mp (st.length+4))]) (oi:=(st.length+4)) (oe:=o3) (es:=mrw w8 m3) Tryz.underlying117 Tryz.underlying9 (by decide) rfl rfl (by simp only[go_sem,fx]<;>rfl) rfl (by simp only[go_sem,fx]<;>rfl) (by omega) (by simp[Fr.leq,Fr.get]) rfl ?_)|refine xV (b:=47) (tI:=12) (tE:=2) (tk:=13) (tv:=14) (id2:=2) (id3:=3) (i1:=12) (i2:=13) (i3:=14) (i4:=15) (F:=[(0,.ptr o0 0 0 0),(4,.ptr st.length 0 0 0),(6,.ptr (st.length+1) 0 0 0),(7,.ptr (st.length+2) 0 0 0),(12,.mp (st.length+4))]) (oi:=(st.length+4)) (oe:=o3) (es:=mrw w8 m3) Tryz.underlying117 Tryz.underlying9 (by decide) rfl rfl (by simp only[go_sem,fx]<;>rfl) rfl (by simp only[go_sem,fx]<;>rfl) (by omega) (by simp[Fr.leq,Fr.get]) rfl ?_
    try simp only[go_sem,fx]
    refine rn ?_
    obtain⟨v26,hv26,h⟩:=J5 h
    refine(fG _ _ _ _ _ hv26 _ o0 o1 o2 q2 (by simp[fx]<;>omega) (by simp only[go_sem,fx]) (by simp only[go_sem,fx]) (by simp only[go_sem,fx])).mono ?_
    rintro d1 st1 ⟨rfl,rfl⟩
    try simp only[go_sem,fx]
    obtain⟨c27,PK,h⟩:=gq h
    have fy:=(show C5 a1.name [.str v26.1] (mrw w8 m3)=mrw w8 c27 from by rw[PK];exact jE (κ:=Bs) (E:=w8) a1.name v26.1 m3)
    refine r1 ?_
    refine r0 ?_
    refine r0 ?_
    (repeat apply sq_)
    refine S4 4 72 ?_
    try simp only[List.append_assoc,List.cons_append,List.nil_append]
    refine L6 (F:=[(0,.ptr o0 0 0 0),(2,.mp (st.length+4)),(6,.ptr (st.length+1) 0 0 0),(7,.ptr (st.length+2) 0 0 0),(67,.sl false 4 72 (rows u5.cells a1.subs)),(68,.int .i64 (↑a1.subs.length:Int)),(69,.int .i64 0)]) (T:=(C0 st [(o0,(.arr 0 4 0 [[.sl false 11 216 (rows u7.cells B7),.mp o1,.ref false o2 q2 0 l2.length,.int .i64 v26.2]])),(o1,(.mps false (mrw K7 m1))),(o2,(.arr q2 2 16 (rows u6.cells l2))),(o3,(.mps false (mrw w8 m3)))])++[some (.arr 0 4 0 [[.int .i64 a1.kind,.str a1.name,.sl false 1 16 (rows w8 a1.words),.sl false 4 72 (rows u5.cells a1.subs)]]),some (.arr 0 4 0 [[.int .i64 0,.str [],.B2,.B2]]),some (.arr 0 4 0 [[.int .i64 a1.kind,.str v26.1,.ref false (st.length+3) gt0 0 t0.length,.ref false (st.length+5) 0 0 0]]),some (.arr gt0 1 16 (rows w8 t0)),some (.mps false (mrw w8 c27)),some (.arr 0 4 72 (rows u5.cells []))]) (ey (by simp) (P1 hsc (by simp<;>omega)) (.lv (.lv (.live _ _ _ _ (.arr _ _ _ _ _ (.cons _ _ _ _ (.cons _ _ _ _ .s (.cons _ _ _ _ .s (.cons _ _ _ _ .s (.cons _ _ _ _ (.nref _ _ _ _ _ _ (D1.trans rfl)) .nil)))) (.same _))) (.lv (.lv (.lv (.nil _))))))) (by simp<;>omega) ⟨.s,.s,.s,.s,.s,.s,.s,trivial⟩ (by simp<;>omega)) ?_
    refine aln 67 fun hl1=>?_
    refine rng (body:=W5 (H8 n) a1 B7 m1 l2 c27) (kk:=W6 a1 v26 t0) (n:=a1.subs.length) (s0:=(v26.2,[]))
     (fun(gs1:Nat) (k1:Nat) (s1:Int×(List u5))=>[(0,.ptr o0 0 0 0),(2,.mp (st.length+4)),(6,.ptr (st.length+1) 0 0 0),(7,.ptr (st.length+2) 0 0 0),(67,.sl false 4 72 (rows u5.cells a1.subs)),(68,.int .i64 (↑a1.subs.length:Int)),(69,.int .i64 (↑k1:Int))])
     (fun(gs1:Nat) (k1:Nat) (s1:Int×(List u5))=>(C0 st [(o0,(.arr 0 4 0 [[.sl false 11 216 (rows u7.cells B7),.mp o1,.ref false o2 q2 0 l2.length,.int .i64 s1.1]])),(o1,(.mps false (mrw K7 m1))),(o2,(.arr q2 2 16 (rows u6.cells l2))),(o3,(.mps false (mrw w8 m3)))])++[none,some (.arr 0 4 0 [[.int .i64 0,.str [],.B2,.B2]]),some (.arr 0 4 0 [[.int .i64 a1.kind,.str v26.1,.ref false (st.length+3) gt0 0 t0.length,.ref false (st.length+5) gs1 0 s1.2.length]]),some (.arr gt0 1 16 (rows w8 t0)),some (.mps false (mrw w8 c27)),some (.arr gs1 4 72 (rows u5.cells s1.2))])
     (fun(gt1:Nat) (t1:Int×(List u5))=>[(6,.ptr (st.length+1) 0 0 0),(7,.ptr (st.length+2) 0 0 0)])
     (fun(gt1:Nat) (t1:Int×(List u5))=>(C0 st [(o0,(.arr 0 4 0 [[.sl false 11 216 (rows u7.cells B7),.mp o1,.ref false o2 q2 0 l2.length,.int .i64 t1.1]])),(o1,(.mps false (mrw K7 m1))),(o2,(.arr q2 2 16 (rows u6.cells l2))),(o3,(.mps false (mrw w8 m3)))])++[none,some (.arr 0 4 0 [[.int .i64 0,.str [],.B2,.B2]]),some (.arr 0 4 0 [[.int .i64 a1.kind,.str v26.1,.ref false (st.length+3) gt0 0 t0.length,.ref false (st.length+5) gt1 0 t1.2.length]]),some (.arr gt0 1 16 (rows w8 t0)),none,some (.arr gt1 4 72 (rows u5.cells t1.2))])
     0 fx hl1 h (bu hsc)
     (fun gs1 k1 s1 b1 fx h hx1=>?_) (fun gs1 s1=>?_) (fun gt1 t1 fr1 st1 h hb=>?_)
    ·unfold W5 at h
     refine ct ?_
     refine rn ?_
     refine dw [1,5] 2 ?_
     obtain⟨v36,hv36,h⟩:=J5 h
     refine bG [o0,o1,o2,(st.length+4)] (fun st2 h2=>(ih _ _ _ _ _ _ _ hv36 st2 o0 o1 o2 (st.length+4) q2 (by simp[fx]<;>omega) ((h2 _ (by simp)).trans (by simp only[go_sem,fx])) ((h2 _ (by simp)).trans (by simp only[go_sem,fx])) ((h2 _ (by simp)).trans (by simp only[go_sem,fx])) ((h2 _ (by simp)).trans (C6.trans rfl)))) (by simp) (by simp only[List.mem_cons,List.not_mem_nil,or_false,forall_eq_or_imp,forall_eq];exact⟨⟨by first|omega|(simp<;>omega),_,(by simp only[go_sem,fx]<;>rfl),Ob.noConfusion⟩,⟨by first|omega|(simp<;>omega),_,(by simp only[go_sem,fx]<;>rfl),Ob.noConfusion⟩,⟨by first|omega|(simp<;>omega),_,(by simp only[go_sem,fx]<;>rfl),Ob.noConfusion⟩,⟨by first|omega|(simp<;>omega),_,(C6.trans rfl),Ob.noConfusion⟩⟩) (by simp) ?_
     obtain⟨c38,Sj,h⟩:=gq h
     have fy:=(show rows u5.cells s1.2++[[.int .i64 v36.1.kind,.str v36.1.name,.sl false 1 16 (rows w8 v36.1.words),.sl false 4 72 (rows u5.cells v36.1.subs)]]=rows u5.cells c38 from by rw[Sj];first|exact D5 (E:=u5.cells) s1.2 [v36.1]|simp only[go_sem,rows,List.map_append,List.map_cons,List.map_nil])
     have fy:=fa fy (show s1.2.length+1=c38.length from by rw[Sj];simp)
     obtain⟨fx,h⟩:=ck fx h
     try simp only[go_sem,fx,fy]
     try refine⟨by first|omega|(simp<;>omega),?_⟩
     refine rn ?_
     cases h
     exact cj (gs1+1) (bu hsc)
    ·refine cf ?_
     refine cM ?_;simp only[go_sem,fx]
     exact⟨gs1,(bu hsc)⟩
    ·try simp only[go_sem,fx]
     unfold W6 at h
     refine L6 hb ?_
     refine rr ?_
     exact fuo (.agg [.int .i64 a1.kind,.str v26.1,.sl false 1 16 (rows w8 t0),.sl false 4 72 (rows u5.cells t1.2)]) (.agg _ _ (.cons _ _ _ _ .s (.cons _ _ _ _ .s (.cons _ _ _ _ (.ref _ _ _ _ _ _ _ _ _ (D1.trans rfl) W0 (by decide) (jS _) (by simp only[go_sem])) (.cons _ _ _ _ (.ref _ _ _ _ _ _ _ _ _ (D1.trans rfl) W0 (by decide) (jS _) (by simp only[go_sem])) .nil))))) h hsc
   ·refine r0 ?_
    refine r0 ?_
    (repeat apply sq_)
    refine S4 4 72 ?_
    try simp only[List.append_assoc,List.cons_append,List.nil_append]
    refine L6 (F:=[(0,.ptr o0 0 0 0),(2,.mp o3),(6,.ptr (st.length+1) 0 0 0),(7,.ptr (st.length+2) 0 0 0),(67,.sl false 4 72 (rows u5.cells a1.subs)),(68,.int .i64 (↑a1.subs.length:Int)),(69,.int .i64 0)]) (T:=(C0 st [(o0,(.arr 0 4 0 [[.sl false 11 216 (rows u7.cells B7),.mp o1,.ref false o2 q2 0 l2.length,.int .i64 E0]])),(o1,(.mps false (mrw K7 m1))),(o2,(.arr q2 2 16 (rows u6.cells l2))),(o3,(.mps false (mrw w8 m3)))])++[some (.arr 0 4 0 [[.int .i64 a1.kind,.str a1.name,.sl false 1 16 (rows w8 a1.words),.sl false 4 72 (rows u5.cells a1.subs)]]),some (.arr 0 4 0 [[.int .i64 0,.str [],.B2,.B2]]),some (.arr 0 4 0 [[.int .i64 a1.kind,.str a1.name,.ref false (st.length+3) gt0 0 t0.length,.ref false (st.length+4) 0 0 0]]),some (.arr gt0 1 16 (rows w8 t0)),some (.arr 0 4 72 (rows u5.cells []))]) (ey (by simp) (P1 hsc (by simp<;>omega)) (.lv (.lv (.live _ _ _ _ (.arr _ _ _ _ _ (.cons _ _ _ _ (.cons _ _ _ _ .s (.cons _ _ _ _ .s (.cons _ _ _ _ .s (.cons _ _ _ _ (.nref _ _ _ _ _ _ (D1.trans rfl)) .nil)))) (.same _))) (.lv (.lv (.nil _)))))) (by simp<;>omega) ⟨.s,.s,.s,.s,.s,.s,.s,trivial⟩ (by simp<;>omega)) ?_
    refine aln 67 fun hl2=>?_
    refine rng (body:=W7 (H8 n) a1 B7 m1 l2 m3) (kk:=W8 a1 t0) (n:=a1.subs.length) (s0:=(E0,[]))
     (fun(gs2:Nat) (k2:Nat) (s2:Int×(List u5))=>[(0,.ptr o0 0 0 0),(2,.mp o3),(6,.ptr (st.length+1) 0 0 0),(7,.ptr (st.length+2) 0 0 0),(67,.sl false 4 72 (rows u5.cells a1.subs)),(68,.int .i64 (↑a1.subs.length:Int)),(69,.int .i64 (↑k2:Int))])
     (fun(gs2:Nat) (k2:Nat) (s2:Int×(List u5))=>(C0 st [(o0,(.arr 0 4 0 [[.sl false 11 216 (rows u7.cells B7),.mp o1,.ref false o2 q2 0 l2.length,.int .i64 s2.1]])),(o1,(.mps false (mrw K7 m1))),(o2,(.arr q2 2 16 (rows u6.cells l2))),(o3,(.mps false (mrw w8 m3)))])++[none,some (.arr 0 4 0 [[.int .i64 0,.str [],.B2,.B2]]),some (.arr 0 4 0 [[.int .i64 a1.kind,.str a1.name,.ref false (st.length+3) gt0 0 t0.length,.ref false (st.length+4) gs2 0 s2.2.length]]),some (.arr gt0 1 16 (rows w8 t0)),some (.arr gs2 4 72 (rows u5.cells s2.2))])
     (fun(gt2:Nat) (t2:Int×(List u5))=>[(6,.ptr (st.length+1) 0 0 0),(7,.ptr (st.length+2) 0 0 0)])
     (fun(gt2:Nat) (t2:Int×(List u5))=>(C0 st [(o0,(.arr 0 4 0 [[.sl false 11 216 (rows u7.cells B7),.mp o1,.ref false o2 q2 0 l2.length,.int .i64 t2.1]])),(o1,(.mps false (mrw K7 m1))),(o2,(.arr q2 2 16 (rows u6.cells l2))),(o3,(.mps false (mrw w8 m3)))])++[none,some (.arr 0 4 0 [[.int .i64 0,.str [],.B2,.B2]]),some (.arr 0 4 0 [[.int .i64 a1.kind,.str a1.name,.ref false (st.length+3) gt0 0 t0.length,.ref false (st.length+4) gt2 0 t2.2.length]]),some (.arr gt0 1 16 (rows w8 t0)),some (.arr gt2 4 72 (rows u5.cells t2.2))])
     0 fx hl2 h (bu hsc)
     (fun gs2 k2 s2 b2 fx h hx2=>?_) (fun gs2 s2=>?_) (fun gt2 t2 fr1 st1 h hb=>?_)
    ·unfold W7 at h
     refine ct ?_
     refine rn ?_
     refine dw [1,5] 2 ?_
     obtain⟨v50,hv50,h⟩:=J5 h
     refine bG [o0,o1,o2,o3] (fun st2 h2=>(ih _ _ _ _ _ _ _ hv50 st2 _ _ _ _ q2 hnd ((h2 _ (by simp)).trans (by simp only[go_sem,fx])) ((h2 _ (by simp)).trans (by simp only[go_sem,fx])) ((h2 _ (by simp)).trans (by simp only[go_sem,fx])) ((h2 _ (by simp)).trans (by simp only[go_sem,fx])))) (by simp) (by simp only[List.mem_cons,List.not_mem_nil,or_false,forall_eq_or_imp,forall_eq];exact⟨⟨by first|omega|(simp<;>omega),_,(by simp only[go_sem,fx]<;>rfl),Ob.noConfusion⟩,⟨by first|omega|(simp<;>omega),_,(by simp only[go_sem,fx]<;>rfl),Ob.noConfusion⟩,⟨by first|omega|(simp<;>omega),_,(by simp only[go_sem,fx]<;>rfl),Ob.noConfusion⟩,⟨by first|omega|(simp<;>omega),_,(by simp only[go_sem,fx]<;>rfl),Ob.noConfusion⟩⟩) (by simp) ?_
     obtain⟨c52,JJ,h⟩:=gq h
     have fy:=(show rows u5.cells s2.2++[[.int .i64 v50.1.kind,.str v50.1.name,.sl false 1 16 (rows w8 v50.1.words),.sl false 4 72 (rows u5.cells v50.1.subs)]]=rows u5.cells c52 from by rw[JJ];first|exact D5 (E:=u5.cells) s2.2 [v50.1]|simp only[go_sem,rows,List.map_append,List.map_cons,List.map_nil])
     have fy:=fa fy (show s2.2.length+1=c52.length from by rw[JJ];simp)
     obtain⟨fx,h⟩:=ck fx h
     try simp only[go_sem,fx,fy]
     try refine⟨by first|omega|(simp<;>omega),?_⟩
     refine rn ?_
     cases h
     exact cj (gs2+1) (bu hsc)
    ·refine cf ?_
     refine cM ?_;simp only[go_sem,fx]
     exact⟨gs2,(bu hsc)⟩
    ·try simp only[go_sem,fx]
     unfold W8 at h
     refine L6 hb ?_
     refine rr ?_
     exact fuo (.agg [.int .i64 a1.kind,.str a1.name,.sl false 1 16 (rows w8 t0),.sl false 4 72 (rows u5.cells t2.2)]) (.agg _ _ (.cons _ _ _ _ .s (.cons _ _ _ _ .s (.cons _ _ _ _ (.ref _ _ _ _ _ _ _ _ _ (D1.trans rfl) W0 (by decide) (jS _) (by simp only[go_sem])) (.cons _ _ _ _ (.ref _ _ _ _ _ _ _ _ _ (D1.trans rfl) W0 (by decide) (jS _) (by simp only[go_sem])) .nil))))) h hsc
end Go.Proofs.YtanlbioodbnakaaGreatDoor
