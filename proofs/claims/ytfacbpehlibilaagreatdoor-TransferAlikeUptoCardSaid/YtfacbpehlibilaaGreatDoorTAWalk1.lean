import Derived.Test.YtfacbpehlibilaaGreatDoorTAWalk0
import Derived.Test.YtfacbpehlibilaaGreatDoorTADel
set_option linter.unusedVariables false
set_option linter.unusedSimpArgs false
set_option maxHeartbeats 2000000
set_option maxRecDepth 100000
namespace Go.Proofs.YtfacbpehlibilaaGreatDoor
open Go Go.Am
theorem d4g{l r:(List Bs)}(h:Xy l=some r):r.length=l.length:=by
 unfold Xy at h
 obtain⟨_,h⟩:=p2q h
 obtain rfl:=Option.some.inj h
 exact(d1C _ _).length_eq
set_option maxRecDepth 100000 in
theorem d4G(l0:(List Bs))(r:(List Bs))(h:Xy l0=some r):∀(st:St) (o0 q0:Nat) (hnd: [o0].Nodup) (XZ:Am.look st o0=some (.arr q0 1 16 (rows Wt l0))),Am.Spec Tryz.prog gl 79 [.ref false o0 q0 0 l0.length] st (fun d st'=>d= .tup []∧st'=puts st [(o0,(.arr q0 1 16 (rows Wt r)))]):=by
 intro st o0 q0 hnd XZ
 unfold Xy at h
 obtain⟨hl,h⟩:=p2q h
 obtain rfl:=Option.some.inj h
 rw[←p2z]
 exact i3Q p5B (by kernel_rfl) XZ hl
set_option maxRecDepth 100000 in
theorem d3I(l0:(List Bs))(r:(List Bs))(h:XT l0=some r):∀(st:St) (o0 q0:Nat) (hnd: [o0].Nodup) (XZ:Am.look st o0=some (.arr q0 1 16 (rows Wt l0))),Am.Spec Tryz.prog gl 80 [.ref false o0 q0 0 l0.length] st (fun d st'=>d= .ref false o0 q0 0 (Lib.compact l0).length∧st'=puts st [(o0,.arr q0 1 16 (rows Wt (cpt l0)))]):=by
 intro st o0 q0 hnd XZ
 unfold XT at h
 obtain⟨hl,h⟩:=p2q h
 exact i0h p5C (by kernel_rfl) XZ hl
theorem d4a(n:Nat)(a0:Lr)(r:(List Bs))(h:Yr n a0=some r):Pure Tryz.prog gl 52 [.agg [.int .i64 a0.kind,.str a0.name,.sl false 1 16 (rows Wt a0.words),.sl false 4 72 (rows Lr.cells a0.subs)]] (.sl false 1 16 (rows Wt r)):=by
 intro st
 unfold Yr at h
 have fx:=trivial
 refine fb 13 [.tmp 2] [0,1,2,3,4] Tryz.func52 fun hsc=>?_
 refine r0 ?_
 refine r0 ?_
 refine r0 ?_
 refine r0 ?_
 (repeat apply sq_)
 refine d0f 1 16 ?_
 try simp only[List.append_assoc,List.cons_append,List.nil_append]
 refine Zk (F:=[(1,.ptr st.length 0 0 0),(3,.ptr (st.length+1) 0 0 0),(4,.ptr (st.length+2) 0 0 0)]) (T:=st++[some (.arr 0 4 0 [[.int .i64 a0.kind,.str a0.name,.sl false 1 16 (rows Wt a0.words),.sl false 4 72 (rows Lr.cells a0.subs)]]),some (.arr 0 1 0 [[.ref false (st.length+3) 0 0 0]]),some (.arr 0 1 0 [[.fn 78 [] [.ptr (st.length+1) 0 0 0,.ptr (st.length+2) 0 0 0]]]),some (.arr 0 1 16 (rows Wt []))]) (i8C hsc (.lv (.live _ _ _ _ (.arr _ _ _ _ _ (.cons _ _ _ _ (.cons _ _ _ _ (.nref _ _ _ _ _ _ (i2t.trans rfl)) .nil) (.same _))) (.lv (.lv (.nil _))))) (by simp) ⟨.s,.s,.s,trivial⟩ (by simp)) ?_
 refine rn ?_
 obtain⟨v1,hv1,h⟩:=ZA h
 refine((d6u n _ _ _ _ hv1 _ _ _ _ 0 (by simp) (d4H.trans rfl) (d4H.trans rfl) (d4H.trans rfl)).up (.cons _ _ _ _ .s (.cons _ _ _ _ (.WB _ _ _ (by decide)) (.cons _ _ _ _ .s (.cons _ _ _ _ .s .nil)))) (by simp<;>omega)).mono ?_
 rintro d1 st1 ⟨g2,rfl,rfl⟩
 refine rn ?_
 obtain⟨v3,hv3,h⟩:=ZA h
 refine(d4G _ _ hv3 _ _ g2 (by simp) (d4H.trans rfl)).mono ?_
 rintro d1 st1 ⟨rfl,rfl⟩
 try simp only[go_sem,fx]
 have e4:D.ref false (st.length+3) g2 0 v1.length=D.ref false (st.length+3) g2 0 v3.length:=by rw[d4g hv3]
 try simp only[e4]
 refine rn ?_
 obtain⟨v5,hv5,h⟩:=ZA h
 refine(d3I _ _ hv5 _ _ g2 (by simp) (d4H.trans rfl)).mono ?_
 rintro d1 st1 ⟨rfl,rfl⟩
 refine rr ?_
 exact fo (.sl false 1 16 (rows Wt (Lib.compact v3))) (.ref _ _ _ _ _ _ _ _ _ (i2t.trans rfl) p2p (by decide) (d5x _) (p2x _).symm) h hsc
theorem d8W:∀(n:Nat) (a0:Lr) (a1:Bs) (r:Bool×Bool) (h:YH n a0 a1=some r),Pure Tryz.prog gl 53 [.agg [.int .i64 a0.kind,.str a0.name,.sl false 1 16 (rows Wt a0.words),.sl false 4 72 (rows Lr.cells a0.subs)],.str a1] (.tup [.bool r.1,.bool r.2]):=by
 intro n
 induction n with
 |zero=>intro a0 a1 r h;cases h
 |succ n ih=>
  intro a0 a1 r h st
  unfold YH at h
  have fx:=trivial
  refine fb 51 [.tmp 4,.tmp 5] [0,1,2,4,5,7,8,9,14,15,16,17,18,28,29,30,31,42,46] Tryz.func53 fun hsc=>?_
  refine rn ?_
  refine d2X (ZF (YH n) a0 a1) r (fun(gj0:Unit) (j0:Bool×Bool)=>[(1,.str a1),(2,.ptr st.length 0 0 0),(4,.bool j0.1),(5,.bool j0.2)]) (fun(gj0:Unit) (j0:Bool×Bool)=>st++[some (.arr 0 4 0 [[.int .i64 a0.kind,.str a0.name,.sl false 1 16 (rows Wt a0.words),.sl false 4 72 (rows Lr.cells a0.subs)]])]) (fun gj0 j0 fr1 st1 h hb=>?_) (fun hj0=>?_)
  ·try simp only[go_sem,fx]
   unfold ZF at h
   refine Zk hb ?_
   refine aln 28 fun hl1=>?_
   refine rng (body:=d2j (YH n) a0 a1) (kk:=d2k) (n:=a0.subs.length) (s0:=(j0.1,j0.2))
    (fun(gs1:Unit) (k1:Nat) (s1:Bool×Bool)=>[(1,.str a1),(4,.bool s1.1),(5,.bool s1.2),(28,.sl false 4 72 (rows Lr.cells a0.subs)),(29,.int .i64 (↑a0.subs.length:Int)),(30,.int .i64 (↑k1:Int))])
    (fun(gs1:Unit) (k1:Nat) (s1:Bool×Bool)=>st)
    (fun(gt1:Unit) (t1:Bool×Bool)=>[(4,.bool t1.1),(5,.bool t1.2)])
    (fun(gt1:Unit) (t1:Bool×Bool)=>st)
    () fx hl1 h (bm0 hsc)
    (fun gs1 k1 s1 b1 fx h hx1=>?_) (fun gs1 s1=>?_) (fun gt1 t1 fr1 st1 h hb=>?_)
   ·unfold d2j at h
    refine ct ?_
    refine cl h (ih _ _) fun v2 h=>?_
    refine rn ?_
    cases h
    exact d2U () (bm0 hsc)
   ·refine cf ?_
    refine d2V ?_;simp only[go_sem,fx]
    exact⟨(),(d8H hsc)⟩
   ·try simp only[go_sem,fx]
    unfold d2k at h
    refine Zk hb ?_
    exact rt
  ·refine cd h (fun hc h=>?_) fun hc h=>?_
   ·refine rs ?_
    refine dw [] 0 ?_
    refine hj0 () _ _ _ h ?_;exact(bm hsc)
   ·refine r0 ?_
    refine hj0 () _ _ _ h ?_;exact(bm hsc)
theorem XO:∀(n:Nat) (a0:Lr) (r:(List Bs)) (h:WI n a0=some r),Pure Tryz.prog gl 30 [.agg [.int .i64 a0.kind,.str a0.name,.sl false 1 16 (rows Wt a0.words),.sl false 4 72 (rows Lr.cells a0.subs)]] (.sl false 1 16 (rows Wt r)):=by
 intro n
 induction n with
 |zero=>intro a0 r h;cases h
 |succ n ih=>
  intro a0 r h st
  unfold WI at h
  have fx:=trivial
  refine fb 26 [.tmp 2] [0,1,2,3,5,7,14,15,16,17] Tryz.func30 fun hsc=>?_
  refine cl h (WX _) fun v1 h=>?_
  try simp only[go_sem,fx]
  (repeat apply sq_)
  refine d0f 1 16 ?_
  try simp only[List.append_assoc,List.cons_append,List.nil_append]
  refine Zk (F:=[(1,.ptr st.length 0 0 0),(3,.ref false (st.length+1) 0 0 0),(7,.bool v1)]) (T:=st++[some (.arr 0 4 0 [[.int .i64 a0.kind,.str a0.name,.sl false 1 16 (rows Wt a0.words),.sl false 4 72 (rows Lr.cells a0.subs)]]),some (.arr 0 1 16 (rows Wt []))]) (i8C hsc (.lv (.lv (.nil _))) (by simp) ⟨.s,.nref _ _ _ _ _ _ (i2t.trans rfl),.s,trivial⟩ (by simp)) ?_
  (repeat apply sq_)
  refine d2X (XL (WI n) a0) r (fun(gj0:Nat) (j0:(List Bs))=>[(1,.ptr st.length 0 0 0),(3,.ref false (st.length+1) gj0 0 j0.length)]) (fun(gj0:Nat) (j0:(List Bs))=>st++[some (.arr 0 4 0 [[.int .i64 a0.kind,.str a0.name,.sl false 1 16 (rows Wt a0.words),.sl false 4 72 (rows Lr.cells a0.subs)]]),some (.arr gj0 1 16 (rows Wt j0))]) (fun gj0 j0 fr1 st1 h hb=>?_) (fun hj0=>?_)
  ·try simp only[go_sem,fx]
   unfold XL at h
   refine Zk hb ?_
   refine aln 14 fun hl1=>?_
   refine rng (body:=Zd (WI n) a0) (kk:=Ze) (n:=a0.subs.length) (s0:=j0)
    (fun(gs1:Nat) (k1:Nat) (s1:(List Bs))=>[(3,.ref false (st.length+1) gs1 0 s1.length),(14,.sl false 4 72 (rows Lr.cells a0.subs)),(15,.int .i64 (↑a0.subs.length:Int)),(16,.int .i64 (↑k1:Int))])
    (fun(gs1:Nat) (k1:Nat) (s1:(List Bs))=>st++[none,some (.arr gs1 1 16 (rows Wt s1))])
    (fun(gt1:Nat) (t1:(List Bs))=>[(3,.ref false (st.length+1) gt1 0 t1.length)])
    (fun(gt1:Nat) (t1:(List Bs))=>st++[none,some (.arr gt1 1 16 (rows Wt t1))])
    gj0 fx hl1 h (bm hsc)
    (fun gs1 k1 s1 b1 fx h hx1=>?_) (fun gs1 s1=>?_) (fun gt1 t1 fr1 st1 h hb=>?_)
   ·unfold Zd at h
    refine ct ?_
    refine r0 ?_
    refine r0 ?_
    refine r0 ?_
    refine cl h (ih _) fun v14 h=>?_
    obtain⟨c15,r1r,h⟩:=d4o h
    have fy:=(show rows Wt s1++rows Wt v14=rows Wt c15 from by rw[r1r];first|exact Xi (E:=Wt) s1 v14|simp only[go_sem,rows,List.map_append,List.map_cons,List.map_nil])
    have fy:=fa fy (show s1.length+v14.length=c15.length from by rw[r1r];simp)
    obtain⟨fx,h⟩:=ck fx h
    try simp only[go_sem,fx,fy]
    refine rn ?_
    cases h
    exact d2U (gs1+1) (bm hsc)
   ·refine cf ?_
    refine d2V ?_;simp only[go_sem,fx]
    exact⟨gs1,(bm hsc)⟩
   ·try simp only[go_sem,fx]
    unfold Ze at h
    refine Zk hb ?_
    refine rr ?_
    exact fo (.sl false 1 16 (rows Wt t1)) (.ref _ _ _ _ _ _ _ _ _ (i2t.trans rfl) p2p (by decide) (d5x _) (by simp only[go_sem])) h hsc
  ·refine cd h (fun hc h=>?_) fun hc h=>?_
   ·obtain⟨c3,hc3,h⟩:=d4o h
    obtain⟨fx,h⟩:=ck fx h
    refine r0 ?_
    have e6:D.ref false (st.length+1) 1 0 1=D.ref false (st.length+1) 1 0 c3.length:=by simp[hc3]
    have e7: [[.str a0.name]]=rows Wt c3:=by rw[hc3];first|rfl|simp only[go_sem,rows,List.nil_append,List.map_append,List.map_cons,List.map_nil]
    try simp only[e6,e7]
    refine hj0 1 _ _ _ h ?_;exact(bm hsc)
   ·refine r0 ?_
    refine hj0 0 _ _ _ h ?_;exact(bm hsc)
theorem d6v(n:Nat)(a0:Wu)(r:WC)(h:d0h n a0=some r):Pure Tryz.prog gl 27 [.agg [.int .i64 a0.form.kind,.str a0.form.name,.sl false 1 16 (rows Wt a0.form.words),.sl false 4 72 (rows Lr.cells a0.form.subs),.sl false 1 16 (rows Wt a0.words),.sl false 1 16 (rows Wt a0.WO),.sl false 1 16 (rows Wt a0.parts)]] (.agg [.int .i64 r.code,.int .i64 r.index]):=by
 intro st
 unfold d0h at h
 have fx:=trivial
 refine fb 119 [.cell 2 25] [0,1,2,3,4,5,6,7,8,9,10,11,12,18,24,29,30,31,32,38,45,55,64,67,80,81,82,85,89,98,99,100,101,111,112,113,114,115] Tryz.func27 fun hsc=>?_
 refine cl h (d1q n _) fun v1 h=>?_
 refine cd h (fun hc h=>?_) fun hc h=>?_
 ·exact rt
 ·refine cl h (d3v _) fun v2 h=>?_
  refine cd h (fun hc h=>?_) fun hc h=>?_
  ·refine cl h (Yd _ _) fun v3 h=>?_
   exact rt
  ·refine cl h (d4a n _) fun v4 h=>?_
   refine aln 4 fun hl0=>?_
   refine rng (body:=ZY n v2 a0 v4) (kk:=d0a n a0) (n:=v2.length) (s0:=())
    (fun(gs0:Unit) (k0:Nat) (s0:Unit)=>[(1,.ptr st.length 0 0 0),(2,.ptr (st.length+1) 0 0 0),(4,.sl false 1 16 (rows Wt v2)),(5,.sl false 1 16 (rows Wt v4)),(29,.sl false 1 16 (rows Wt v2)),(30,.int .i64 (↑v2.length:Int)),(31,.int .i64 (↑k0:Int))])
    (fun(gs0:Unit) (k0:Nat) (s0:Unit)=>st++[some (.arr 0 7 0 [[.int .i64 a0.form.kind,.str a0.form.name,.sl false 1 16 (rows Wt a0.form.words),.sl false 4 72 (rows Lr.cells a0.form.subs),.sl false 1 16 (rows Wt a0.words),.sl false 1 16 (rows Wt a0.WO),.sl false 1 16 (rows Wt a0.parts)]]),some (.arr 0 2 0 [[.int .i64 0,.int .i64 0]])])
    (fun(gt0:Unit) (t0:Unit)=>[(1,.ptr st.length 0 0 0),(2,.ptr (st.length+1) 0 0 0)])
    (fun(gt0:Unit) (t0:Unit)=>st++[some (.arr 0 7 0 [[.int .i64 a0.form.kind,.str a0.form.name,.sl false 1 16 (rows Wt a0.form.words),.sl false 4 72 (rows Lr.cells a0.form.subs),.sl false 1 16 (rows Wt a0.words),.sl false 1 16 (rows Wt a0.WO),.sl false 1 16 (rows Wt a0.parts)]]),some (.arr 0 2 0 [[.int .i64 0,.int .i64 0]])])
    () fx hl0 h (bm hsc)
    (fun gs0 k0 s0 b0 fx h hx0=>?_) (fun gs0 s0=>?_) (fun gt0 t0 fr1 st1 h hb=>?_)
   ·unfold ZY at h
    refine ct ?_
    refine cl h (d6X _) fun v17 h=>?_
    refine cd h (fun hc h=>?_) fun hc h=>?_
    ·refine cl h (Yd _ _) fun v18 h=>?_
     refine ra ?_
     cases h
     refine XY ?_;have h:=congrArg some (hx0 _ rfl)
     exact rt
    ·obtain⟨fx,h⟩:=ck fx h
     refine cl h (Wx _ _) fun v21 h=>?_
     refine cd h (fun hc h=>?_) fun hc h=>?_
     ·refine cl h (Yd _ _) fun v22 h=>?_
      refine ra ?_
      cases h
      refine XY ?_;have h:=congrArg some (hx0 _ rfl)
      exact rt
     ·refine cl h (d8W n _ _) fun v23 h=>?_
      refine cd h (fun hc h=>?_) fun hc h=>?_
      ·refine cl h (Wx _ _) fun v24 h=>?_
       refine cd h (fun hc h=>?_) fun hc h=>?_
       ·refine cl h (Yd _ _) fun v25 h=>?_
        refine ra ?_
        cases h
        refine XY ?_;have h:=congrArg some (hx0 _ rfl)
        exact rt
       ·refine rn ?_
        cases h
        exact d2U () (bm hsc)
      ·refine cd h (fun hc h=>?_) fun hc h=>?_
       ·refine cd h (fun hc h=>?_) fun hc h=>?_
        ·refine cl h (Yd _ _) fun v26 h=>?_
         refine ra ?_
         cases h
         refine XY ?_;have h:=congrArg some (hx0 _ rfl)
         exact rt
        ·refine rn ?_
         cases h
         exact d2U () (bm hsc)
       ·refine cd h (fun hc h=>?_) fun hc h=>?_
        ·refine cl h (Yd _ _) fun v27 h=>?_
         refine ra ?_
         cases h
         refine XY ?_;have h:=congrArg some (hx0 _ rfl)
         exact rt
        ·refine cd h (fun hc h=>?_) fun hc h=>?_
         ·refine cl h (Yd _ _) fun v28 h=>?_
          refine ra ?_
          cases h
          refine XY ?_;have h:=congrArg some (hx0 _ rfl)
          exact rt
         ·refine rn ?_
          cases h
          exact d2U () (bm hsc)
   ·refine cf ?_
    refine d2V ?_;simp only[go_sem,fx]
    exact⟨(),(bm hsc)⟩
   ·try simp only[go_sem,fx]
    unfold d0a at h
    refine Zk hb ?_
    refine cl h (XO n _) fun v29 h=>?_
    refine aln 10 fun hl1=>?_
    refine rng (body:=d0b v29 a0) (kk:=d0c) (n:=v29.length) (s0:=())
     (fun(gs1:Unit) (k1:Nat) (s1:Unit)=>[(1,.ptr st.length 0 0 0),(2,.ptr (st.length+1) 0 0 0),(10,.sl false 1 16 (rows Wt v29)),(98,.sl false 1 16 (rows Wt v29)),(99,.int .i64 (↑v29.length:Int)),(100,.int .i64 (↑k1:Int))])
     (fun(gs1:Unit) (k1:Nat) (s1:Unit)=>st++[some (.arr 0 7 0 [[.int .i64 a0.form.kind,.str a0.form.name,.sl false 1 16 (rows Wt a0.form.words),.sl false 4 72 (rows Lr.cells a0.form.subs),.sl false 1 16 (rows Wt a0.words),.sl false 1 16 (rows Wt a0.WO),.sl false 1 16 (rows Wt a0.parts)]]),some (.arr 0 2 0 [[.int .i64 0,.int .i64 0]])])
     (fun(gt1:Unit) (t1:Unit)=>[(2,.ptr (st.length+1) 0 0 0)])
     (fun(gt1:Unit) (t1:Unit)=>st++[none,some (.arr 0 2 0 [[.int .i64 0,.int .i64 0]])])
     () fx hl1 h (bm hsc)
     (fun gs1 k1 s1 b1 fx h hx1=>?_) (fun gs1 s1=>?_) (fun gt1 t1 fr1 st1 h hb=>?_)
    ·unfold d0b at h
     refine ct ?_
     obtain⟨fx,h⟩:=ck fx h
     refine cl h (Wx _ _) fun v37 h=>?_
     refine rn ?_
     obtain⟨v38,hv38,h⟩:=ZA h
     refine d2H (fun hG=>(Wx _ _ _ (i5t hv38 (by simpa using hG)))) ?_
     refine cd h (fun hc h=>?_) fun hc h=>?_
     ·refine cl h (Yd _ _) fun v39 h=>?_
      refine ra ?_
      cases h
      refine XY ?_;have h:=congrArg some (hx1 _ rfl)
      exact rt
     ·refine rn ?_
      cases h
      exact d2U () (bm hsc)
    ·refine cf ?_
     refine d2V ?_;simp only[go_sem,fx]
     exact⟨(),(bm hsc)⟩
    ·try simp only[go_sem,fx]
     unfold d0c at h
     refine Zk hb ?_
     exact rt
theorem YT(a0:Wu)(a1:Lr)(r:Bool)(h:Xz a0 a1=some r):Pure Tryz.prog gl 28 [.agg [.int .i64 a0.form.kind,.str a0.form.name,.sl false 1 16 (rows Wt a0.form.words),.sl false 4 72 (rows Lr.cells a0.form.subs),.sl false 1 16 (rows Wt a0.words),.sl false 1 16 (rows Wt a0.WO),.sl false 1 16 (rows Wt a0.parts)],.agg [.int .i64 a1.kind,.str a1.name,.sl false 1 16 (rows Wt a1.words),.sl false 4 72 (rows Lr.cells a1.subs)]] (.bool r):=by
 intro st
 unfold Xz at h
 have fx:=trivial
 refine fb 21 [.tmp 4] [0,1,2,3,4,9,10,11,12,15,16,17,18,19] Tryz.func28 fun hsc=>?_
 refine rn ?_
 obtain⟨v1,hv1,h⟩:=ZA h
 refine d2H (fun hG=>(Wx _ _ _ (i5t hv1 (by simpa using hG)))) ?_
 exact rt
theorem d4h(a0:(List Bs))(r:(List Bs))(h:Zf a0=some r):Pure Tryz.prog gl 59 [.sl false 1 16 (rows Wt a0)] (.sl false 1 16 (rows Wt r)):=by
 intro st
 refine i6G ?_
 unfold Zf at h
 have hr:=Option.some.inj h
 subst hr
 refine p9R (N:=8) (rs:=[.tmp 2]) (keep:=[0,2,4]) Tryz.func59 rfl rfl rfl (by kernel_rfl) rfl fun hsc=>?_
 refine p9F (t:=0) rfl fun hl=>?_
 (repeat apply sq_);apply er_;simp only[go_sem]
 (repeat apply sq_);refine i3M rfl ⟨9,by rw[r1p]⟩ (by omega) (by omega) fun c hcn=>?_
 simp only[go_sem]
 (repeat apply sq_);refine p6L (by rfl) (fun hc=>?_) fun hc=>?_
 ·(repeat apply sq_);apply er_;simp only[go_sem]
  refine p4m ?_
  try simp only[go_sem]
  have r0y:=hcn hc
  rw[r0y]
  refine p6f ?_;simp only[go_sem]
  exact d7w hsc (.WB _ _ _ (by decide)) (by simp) ⟨rfl,rfl⟩
 ·refine p1C ?_;try simp only[go_sem]
  (repeat apply sq_);apply er_;simp only[go_sem]
  simp only[d6S]at hl
  refine⟨⟨by omega,by simp only[top]at *; omega⟩,?_⟩
  refine p4m ?_
  try simp only[go_sem]
  refine p6f ?_;simp only[go_sem]
  exact i2s hsc (.ref _ _ _ _ _ _ _ _ _ (i2t.trans rfl) p2p (by decide) (d5x a0) (by simp only[go_sem])) (by simp) ⟨rfl,rfl⟩
theorem Xp(a0 l0:(List Bs))(r:(List Bs))(h:WS a0 l0=some r):∀(st:St) (o0 q0:Nat) (hnd: [o0].Nodup) (XZ:Am.look st o0=some (.arr q0 1 16 (rows Wt l0))),Am.Spec Tryz.prog gl 59 [.sl false 1 16 (rows Wt a0)] st (fun d st'=>d= .ref false o0 (q0+1) 0 r.length∧st'=puts st [(o0,.arr (q0+1) 1 16 (rows Wt r))]):=by
 intro st o0 q0 hnd XZ
 obtain⟨rfl,rfl⟩:l0=[]∧r=a0:=by
  unfold WS at h
  cases l0 with
  |nil=>exact⟨rfl,(Option.some.inj h).symm⟩
  |cons x l=>cases h
 refine i6G ?_
 rw[show r.length=(rows Wt r).length from(d6S r).symm]
 refine i9U (g:=0) (fun hsc=>(YP (m:=[(o0,.arr (q0+1) 1 16 (rows Wt r))]) hsc (by simp))) XZ ?_
 refine p9R (N:=8) (rs:=[.tmp 2]) (keep:=[0,2,4]) Tryz.func59 rfl rfl rfl (by kernel_rfl) rfl fun hsc=>?_
 refine p9F (t:=0) rfl fun hl=>?_
 (repeat apply sq_);apply er_;simp only[go_sem]
 (repeat apply sq_);refine i3M rfl ⟨9,by rw[r1p]⟩ (by omega) (by omega) fun c hcn=>?_
 simp only[go_sem]
 (repeat apply sq_);refine p6L (by rfl) (fun hc=>?_) fun hc=>?_
 ·(repeat apply sq_);apply er_;simp only[go_sem]
  refine p4m ?_
  try simp only[go_sem]
  have r0y:=hcn hc
  refine p6f ?_;simp only[go_sem]
  exact d7w hsc (.same _) (by simp) (.inr (.inr ⟨rfl,rfl,r0y⟩))
 ·refine p1C ?_;try simp only[go_sem]
  (repeat apply sq_);apply er_;simp only[go_sem]
  simp only[d6S]at hl
  refine⟨⟨by omega,by simp only[top]at *; omega⟩,?_⟩
  refine p4m ?_
  try simp only[go_sem]
  refine p6f ?_;simp only[go_sem]
  exact⟨st++[none,some (.arr 0 1 16 (rows Wt r))],_,by simp,i2q hsc (.dead _ _ _ (.lv (.nil _))) (by simp),.s,by simp,.inr (.inl ⟨rfl,rfl⟩)⟩
theorem d5Y{st:St}{o:Nat}:∀ {m:List (Nat×Ob)},(∀p∈m,p.1≠o)→Am.look (WE st m) o=Am.look st o
 | [],_=>rfl
 |(a,x)::m,h=>by
  have ih:=d5Y (st:=st) (m:=m) fun p hp=>h p (List.mem_cons_of_mem _ hp)
  have h0:=h (a,x) (List.mem_cons_self ..)
  unfold Am.look at ih⊢
  simp only[WE]
  rw[List.getElem?_set_ne h0]
  exact ih
theorem i3l{st:St}{oM B n:Nat}:∀ {m:List (Nat×Ob)},(∀p∈m,p.1=oM∨(B≤p.1∧p.1<B+n)∨st[p.1]? =some (some p.2))→Chg st (WE st m) oM B n
 | [],_=>Chg.refl _ _ _ _
 |(a,x)::m,h=>by
  have ih:=i3l (st:=st) (m:=m) fun p hp=>h p (List.mem_cons_of_mem _ hp)
  refine⟨by simp[WE,ih.len],fun o h1 h2=>?_⟩
  simp only[WE]
  by_cases e:a=o
  ·subst e
   have h3:st[a]? =some (some x):=((h (a,x) (List.mem_cons_self ..)).resolve_left h1).resolve_left h2
   have hl:a<(WE st m).length:=by rw[ih.len];exact(List.getElem?_eq_some_iff.1 h3).1
   rw[List.getElem?_set_self hl,h3]
  ·rw[List.getElem?_set_ne e]
   exact ih.same o h1 h2
theorem p5F{t:Nat}:d1R ⟨1,24,[.WB],[.sl false 1 16 []],some .WB,.slice t⟩ none= .sl false 1 16 []:=rfl
theorem p8x{t o g len:Nat}:d1R ⟨1,24,[.WB],[.sl false 1 16 []],some .WB,.slice t⟩ (some [.ref false o g 0 len])= .ref false o g 0 len:=rfl
set_option maxHeartbeats 4000000 in
set_option maxRecDepth 100000 in
theorem d7L:∀(n:Nat) (f:Lr) (a1:List Bs) (s:Wu) (m r:List (Bs×List Bs)) (h:Xo n f a1 s m=some r) (hnm:s.parts.Nodup),∀(st:St) (o0 o1 oM o3 B:Nat) (hnd: [o0,o1,oM,o3].Nodup) (hB:o0<B∧o1<B∧oM<B∧o3<B) (hBl:B+s.parts.length≤st.length)
 (XZ:Am.look st o0=some (.arr 0 7 0 [[.int .i64 s.form.kind,.str s.form.name,.sl false 1 16 (rows Wt s.form.words),.sl false 4 72 (rows Lr.cells s.form.subs),.sl false 1 16 (rows Wt s.words),.sl false 1 16 (rows Wt s.WO),.sl false 1 16 (rows Wt s.parts)]]))
 (ZG:Am.look st o1=some (.arr 0 1 0 [[.mp oM]])) (d4b:Am.look st o3=some (.arr 0 1 0 [[.fn 84 [] [.ptr o0 0 0 0,.ptr o1 0 0 0,.ptr o3 0 0 0]]])) (g:Nat→Nat) (z:Nat→List Bs) (hF:Fam st oM B s.parts g z m),
 Am.Spec Tryz.prog gl 84 [.agg [.int .i64 f.kind,.str f.name,.sl false 1 16 (rows Wt f.words),.sl false 4 72 (rows Lr.cells f.subs)],.sl false 1 16 (rows Wt a1),.ptr o0 0 0 0,.ptr o1 0 0 0,.ptr o3 0 0 0] st (fun d st'=>d= .tup []∧Chg st st' oM B s.parts.length∧∃g z,Fam st' oM B s.parts g z r):=by
 intro n
 induction n with
 |zero=>intro f a1 s m r h;cases h
 |succ n ih=>
  intro f a1 s m r h hnm st o0 o1 oM o3 B hnd hB hBl XZ ZG d4b g z hF
  unfold Xo at h
  have p9e:=hF.mp
  have ho0:=WA XZ
  have ho1:=WA ZG
  have hoM:=WA p9e
  have ho3:=WA d4b
  obtain⟨hB0,hB1,hBM,hB3⟩:=hB
  have fx:=fa (fa (fa (fa (idf ho0) (idf ho1)) (idf hoM)) (idf ho3)) (nd4 hnd)
  refine fb 51 [] [0,1,2,3,4,5,6,7,8,10,13,22,32,40,41,42,43] Tryz.func84 fun hsc=>?_
  have e4:WE st [(o0,(.arr 0 7 0 [[.int .i64 s.form.kind,.str s.form.name,.sl false 1 16 (rows Wt s.form.words),.sl false 4 72 (rows Lr.cells s.form.subs),.sl false 1 16 (rows Wt s.words),.sl false 1 16 (rows Wt s.WO),.sl false 1 16 (rows Wt s.parts)]])),(o1,(.arr 0 1 0 [[.mp oM]])),(oM,(.mps false (mref B s.parts g m))),(o3,(.arr 0 1 0 [[.fn 84 [] [.ptr o0 0 0 0,.ptr o1 0 0 0,.ptr o3 0 0 0]]]))]=st:=WJ (by simp[XZ,ZG,p9e,d4b])
  refine ZJ e4 ?_
  refine cl h (YT _ _) fun v1 h=>?_
  refine rn ?_
  refine d2X (σ:={q:List (Bs×List Bs)×St // Chg st q.2 oM B s.parts.length∧∃g z,Fam q.2 oM B s.parts g z q.1}) (fun q=>i0K (fun f a m=>Xo n f a s m) f a1 q.1.1) r
   (fun(gj0:Unit) q=>[(4,.ptr o3 0 0 0),(5,.ptr st.length 0 0 0),(6,.ptr (st.length+1) 0 0 0)])
   (fun(gj0:Unit) q=>q.1.2++[some (.arr 0 4 0 [[.int .i64 f.kind,.str f.name,.sl false 1 16 (rows Wt f.words),.sl false 4 72 (rows Lr.cells f.subs)]]),some (.arr 0 1 0 [[.sl false 1 16 (rows Wt a1)]])]) (fun gj0 q fr1 st1 h hb=>?_) (fun hj0=>?_)
  ·obtain⟨⟨m1,S⟩,hC,g1,z1,hF1⟩:=q
   replace hC:Chg st S oM B s.parts.length:=hC
   replace hF1:Fam S oM B s.parts g1 z1 m1:=hF1
   replace h:i0K (fun f a m=>Xo n f a s m) f a1 m1=some r:=h
   have hSl:S.length=st.length:=hC.len
   have hlt:(∀x∈ [o0,o1,o3],x≠oM):=by simp at hnd ⊢; omega
   have hl0:Am.look S o0=_:=(hC.look (hlt o0 (by simp)) hB0).trans XZ
   have hl1:Am.look S o1=_:=(hC.look (hlt o1 (by simp)) hB1).trans ZG
   have hl3:Am.look S o3=_:=(hC.look (hlt o3 (by simp)) hB3).trans d4b
   have p9f:d4l S.length S:=hF1.sc hC hsc
   have fx:=fa (fa (fa (idf (WA hl0)) (idf (WA hl1))) (idf (WA hl3))) (nd3 (show [o0,o1,o3].Nodup by simp at hnd ⊢; omega))
   try simp only[go_sem,fx]
   unfold i0K at h
   refine Zk hb ?_
   rw[←hSl]
   have e3:WE S [(o0,(.arr 0 7 0 [[.int .i64 s.form.kind,.str s.form.name,.sl false 1 16 (rows Wt s.form.words),.sl false 4 72 (rows Lr.cells s.form.subs),.sl false 1 16 (rows Wt s.words),.sl false 1 16 (rows Wt s.WO),.sl false 1 16 (rows Wt s.parts)]])),(o1,(.arr 0 1 0 [[.mp oM]])),(o3,(.arr 0 1 0 [[.fn 84 [] [.ptr o0 0 0 0,.ptr o1 0 0 0,.ptr o3 0 0 0]]]))]=S:=WJ (by simp[hl0,hl1,hl3])
   refine ZJ (congrArg (· ++_) e3) ?_
   refine cl h (WX _) fun v3 h=>?_
   refine rn ?_
   refine d2X (i1U (fun f a m=>Xo n f a s m) f m1) r (fun(gj1:Unit) (j1:List Bs)=>[(4,.ptr o3 0 0 0),(5,.ptr S.length 0 0 0),(6,.ptr (S.length+1) 0 0 0)]) (fun(gj1:Unit) (j1:List Bs)=>WE S [(o0,(.arr 0 7 0 [[.int .i64 s.form.kind,.str s.form.name,.sl false 1 16 (rows Wt s.form.words),.sl false 4 72 (rows Lr.cells s.form.subs),.sl false 1 16 (rows Wt s.words),.sl false 1 16 (rows Wt s.WO),.sl false 1 16 (rows Wt s.parts)]])),(o1,(.arr 0 1 0 [[.mp oM]])),(o3,(.arr 0 1 0 [[.fn 84 [] [.ptr o0 0 0 0,.ptr o1 0 0 0,.ptr o3 0 0 0]]]))]++[some (.arr 0 4 0 [[.int .i64 f.kind,.str f.name,.sl false 1 16 (rows Wt f.words),.sl false 4 72 (rows Lr.cells f.subs)]]),some (.arr 0 1 0 [[.sl false 1 16 (rows Wt j1)]])]) (fun gj1 j1 fr1 st1 h hb=>?_) (fun hj1=>?_)
   ·try simp only[go_sem,fx]
    unfold i1U at h
    refine Zk hb ?_
    refine aln 40 fun hl2=>?_
    refine i8e (body:=i4B (fun f a m=>Xo n f a s m) f j1) (n:=f.subs.length) (s0:=m1) (kk:=fun t=>some t) (e:=r)
     (fun k sm fr T=>∃S1,Chg st S1 oM B s.parts.length∧(∃g z,Fam S1 oM B s.parts g z sm)∧fr=[(4,.ptr o3 0 0 0),(6,.ptr (S.length+1) 0 0 0),(40,.sl false 4 72 (rows Lr.cells f.subs)),(41,.int .i64 (↑f.subs.length:Int)),(42,.int .i64 (↑k:Int))]∧T=S1++[none,some (.arr 0 1 0 [[.sl false 1 16 (rows Wt j1)]])])
     (fun sm fr T=>∃S1,Chg st S1 oM B s.parts.length∧(∃g z,Fam S1 oM B s.parts g z sm)∧fr=[]∧T=S1)
     (fun k sm b hb=>?_) h ?_ (fun k sm s2 fr T hk hb hI=>?_) (fun sm fr T hI=>?_) (fun sm F T fr st2 hk hJ hb=>?_)
    ·unfold i4B at hb
     obtain⟨v,hv,hb⟩:=ZA hb
     exact⟨v,(Option.some.inj hb).symm⟩
    ·rw[e3]
     exact⟨_,_,bm p9f (hs:=by simp<;>omega),S,hC,⟨g1,z1,hF1⟩,rfl,rfl⟩
    ·obtain⟨S1,hC1,⟨g2,z2,hF2⟩,rfl,rfl⟩:=hI
     have hS1:S.length=S1.length:=hSl.trans hC1.len.symm
     have hl0:Am.look S1 o0=_:=(hC1.look (hlt o0 (by simp)) hB0).trans XZ
     have hl1:Am.look S1 o1=_:=(hC1.look (hlt o1 (by simp)) hB1).trans ZG
     have hl3:Am.look S1 o3=_:=(hC1.look (hlt o3 (by simp)) hB3).trans d4b
     have p3u:d4l S1.length S1:=hF2.sc hC1 hsc
     have hwr:=p2s hk hl2
     have fx:=fa (fa (fa (fa (fa (idf (WA hl0)) (idf (WA hl1))) (idf (WA hl3))) (nd3 (show [o0,o1,o3].Nodup by simp at hnd ⊢; omega))) hk) hwr
     rw[hS1]
     have e3':WE S1 [(o0,(.arr 0 7 0 [[.int .i64 s.form.kind,.str s.form.name,.sl false 1 16 (rows Wt s.form.words),.sl false 4 72 (rows Lr.cells s.form.subs),.sl false 1 16 (rows Wt s.words),.sl false 1 16 (rows Wt s.WO),.sl false 1 16 (rows Wt s.parts)]])),(o1,(.arr 0 1 0 [[.mp oM]])),(o3,(.arr 0 1 0 [[.fn 84 [] [.ptr o0 0 0 0,.ptr o1 0 0 0,.ptr o3 0 0 0]]]))]=S1:=WJ (by simp[hl0,hl1,hl3])
     refine ZJ (congrArg (· ++_) e3') ?_
     unfold i4B at hb
     obtain⟨v,hv,hb⟩:=ZA hb
     cases hb
     refine ct ?_
     refine rn ?_
     rw[e3']
     refine(ih _ _ _ _ _ hv hnm _ o0 o1 oM o3 B hnd ⟨hB0,hB1,hBM,hB3⟩ (by rw[List.length_append];omega) ((d3T (WA hl0)).trans hl0) ((d3T (WA hl1)).trans hl1) ((d3T (WA hl3)).trans hl3) g2 z2 hF2.app).mono ?_
     rintro d1 st1 ⟨rfl,hC3,g3,z3,hF3⟩
     obtain⟨S3,rfl,hC4⟩:=p4J hC3 (by omega) (by omega)
     have hF4:=hF3.left (by rw[hC4.len];omega) (by rw[hC4.len];omega)
     have hS3:S1.length=S3.length:=hC4.len.symm
     refine rn ?_
     exact⟨[(4,.ptr o3 0 0 0),(6,.ptr (S1.length+1) 0 0 0),(40,.sl false 4 72 (rows Lr.cells f.subs)),(41,.int .i64 (↑f.subs.length:Int)),(42,.int .i64 (↑(k+1):Int))],S3++[none,some (.arr 0 1 0 [[.sl false 1 16 (rows Wt j1)]])],d1O (by omega) (hF4.sc (hC1.trans hC4) hsc) (.dead _ _ _ (.lv (.nil _))) (by simp) ⟨.s,.s,.s,.s,.s,trivial⟩ (by simp<;>omega),S3,hC1.trans hC4,⟨g3,z3,hF4⟩,rfl,rfl⟩
    ·obtain⟨S1,hC1,⟨g2,z2,hF2⟩,rfl,rfl⟩:=hI
     have hS1:S.length=S1.length:=hSl.trans hC1.len.symm
     have p3u:d4l S1.length S1:=hF2.sc hC1 hsc
     rw[hS1]
     refine cf ?_
     refine d2V ?_;simp only[go_sem,fx]
     exact⟨[],S1,i9L (Nat.le_refl _) p3u trivial trivial,S1,hC1,⟨g2,z2,hF2⟩,rfl,rfl⟩
    ·obtain⟨S1,hC1,⟨g2,z2,hF2⟩,hfe,hte⟩:=hJ
     rw[hfe,hte]at hb
     have hS1:S.length=S1.length:=hSl.trans hC1.len.symm
     have p3u:d4l S1.length S1:=hF2.sc hC1 hsc
     rw[hS1]at hb⊢
     refine d9k hb ?_
     refine rr ?_
     exact fs (.tup []) (.same _) hk p3u (hr:=by rintro rfl;exact⟨rfl,hC1,g2,z2,hF2⟩)
   ·refine cd h (fun hc h=>?_) fun hc h=>?_
    ·(repeat apply sq_)
     refine d0f 1 16 ?_
     try simp only[List.append_assoc,List.cons_append,List.nil_append]
     refine Zk (F:=[(4,.ptr o3 0 0 0),(5,.ptr S.length 0 0 0),(6,.ptr (S.length+1) 0 0 0),(32,.bool v3)]) (T:=WE S [(o0,(.arr 0 7 0 [[.int .i64 s.form.kind,.str s.form.name,.sl false 1 16 (rows Wt s.form.words),.sl false 4 72 (rows Lr.cells s.form.subs),.sl false 1 16 (rows Wt s.words),.sl false 1 16 (rows Wt s.WO),.sl false 1 16 (rows Wt s.parts)]])),(o1,(.arr 0 1 0 [[.mp oM]])),(o3,(.arr 0 1 0 [[.fn 84 [] [.ptr o0 0 0 0,.ptr o1 0 0 0,.ptr o3 0 0 0]]]))]++[some (.arr 0 4 0 [[.int .i64 f.kind,.str f.name,.sl false 1 16 (rows Wt f.words),.sl false 4 72 (rows Lr.cells f.subs)]]),some (.arr 0 1 0 [[.sl false 1 16 (rows Wt a1)]]),some (.arr 0 1 16 (rows Wt []))]) (d1O (by simp) (YP p9f (by simp<;>omega)) (.lv (.lv (.lv (.nil _)))) (by simp<;>omega) ⟨.s,.s,.s,.s,trivial⟩ (by simp<;>omega)) ?_
     refine rs ?_
     refine dw [1,3] 2 ?_
     obtain⟨v4,hv4,h⟩:=ZA h
     refine d2Y [(S.length+2)] (fun st2 h2=>(Xp _ _ _ hv4 st2 (S.length+2) 0 (by simp) ((h2 _ (by simp)).trans (WR.trans rfl)))) (by simp) (by simp only[List.mem_cons,List.not_mem_nil,or_false,forall_eq_or_imp,forall_eq];exact⟨by first|omega|(simp<;>omega),_,(WR.trans rfl),Ob.noConfusion⟩) (by simp) ?_
     obtain⟨c6,hc6,h⟩:=d4o h
     have fy:=(show rows Wt v4++[[.str f.name]]=rows Wt c6 from by rw[hc6];first|exact Xi (E:=Wt) v4 [f.name]|simp only[go_sem,rows,List.map_append,List.map_cons,List.map_nil])
     have fy:=fa fy (show v4.length+1=c6.length from by rw[hc6];simp)
     obtain⟨fx,h⟩:=ck fx h
     try simp only[go_sem,fx,fy]
     try refine⟨by first|omega|(simp<;>omega),?_⟩
     refine hj1 () _ _ _ h ?_;exact(bu p9f (hu:=(.lv (.live _ _ _ _ (.arr _ _ _ _ _ (.cons _ _ _ _ (.cons _ _ _ _ (.ref _ _ _ _ _ _ _ _ _ (WT.trans rfl) (d3c (by first|decide|simp)) (by decide) (d5x _) (by simp only[go_sem])) .nil) (.same _))) (.nil _)))))
    ·refine r0 ?_
     refine hj1 () _ _ _ h ?_;exact(bu p9f)
  ·refine cd h (fun hc h=>?_) fun hc h=>?_
   ·obtain⟨⟨_,hmem,hle⟩,h⟩:=ck fx h
    obtain⟨hk,hx⟩:=d8f hmem
    generalize hkk:i1k s.parts f.name=k at hk hx
    have hob:=hF.ob k hk
    rw[hx]at hob
    have hoP:=WA hob
    have r3D: [o0,o1,oM,o3,B+k].Nodup:=by simp at hnd ⊢; omega
    have fx:=fa (fa (fa (fa (fa (idf ho0) (idf ho1)) (idf hoM)) (idf ho3)) (idf hoP)) (nd5 r3D)
    rw[e4]
    cases hp:assoc f.name m with
    |none=>
     have hz:z k=[]:=hF.z0 k hk (by rw[hx];exact hp)
     have r0z:ent m f.name=[]:=by unfold ent;rw[hp];rfl
     rw[r0z,hz,List.append_nil]at hob
     rw[hp]at h hle
     simp only[Option.getD_none]at h hle
     have fx:=fa fx (show assoc f.name (mref B s.parts g m)=none by rw[d8g,hp];rfl)
     have fx:=fa fx (@p5F)
     have e5:WE st [(o0,(.arr 0 7 0 [[.int .i64 s.form.kind,.str s.form.name,.sl false 1 16 (rows Wt s.form.words),.sl false 4 72 (rows Lr.cells s.form.subs),.sl false 1 16 (rows Wt s.words),.sl false 1 16 (rows Wt s.WO),.sl false 1 16 (rows Wt s.parts)]])),(o1,(.arr 0 1 0 [[.mp oM]])),(oM,(.mps false (mref B s.parts g m))),(o3,(.arr 0 1 0 [[.fn 84 [] [.ptr o0 0 0 0,.ptr o1 0 0 0,.ptr o3 0 0 0]]])),(B+k,(.arr (g k) 1 16 (rows Wt [])))]=st:=WJ (by simp[XZ,ZG,p9e,d4b,hob])
     refine ZJ (congrArg (· ++_) e5) ?_
     refine rn ?_
     refine ct ?_
     refine rn ?_
     refine(Xp a1 [] a1 rfl _ (B+k) (g k) (by simp) (by simp only[go_sem,fx])).mono ?_
     rintro d1 st1 ⟨rfl,rfl⟩
     refine rn ?_
     refine dw [0,2,5,6] 0 ?_
     refine d2Y [B+k,st.length+1] (r:=.ref false (B+k) (g k+1) 0 (flt (i3n a1) a1).length) (ups:=[(B+k,.arr (g k+1) 1 16 (rows Wt (i1j (i3n a1) a1++[])))]) (fun st2 h2=>(i4a (st:=st2) (z:=[]) (l:=a1) (ar:=a1) (by rw[List.append_nil];exact(h2 _ (by simp)).trans (by simp only[go_sem,fx])) ((h2 _ (by simp)).trans (by simp only[go_sem,fx]<;>rfl)) (by omega) (by omega)).mono fun d st' hd=>⟨hd.1,hd.2⟩) (by simp) (by simp only[List.mem_cons,List.not_mem_nil,or_false,forall_eq_or_imp,forall_eq];exact⟨⟨by first|omega|(simp<;>omega),_,(by simp only[go_sem,fx]<;>rfl),Ob.noConfusion⟩,⟨by first|omega|(simp<;>omega),_,(by simp only[go_sem,fx]<;>rfl),Ob.noConfusion⟩⟩) (by simp) ?_
     try simp only[go_sem,fx]
     refine⟨by simp<;>omega,?_⟩
     have hC':Chg st (WE st [(o0,(.arr 0 7 0 [[.int .i64 s.form.kind,.str s.form.name,.sl false 1 16 (rows Wt s.form.words),.sl false 4 72 (rows Lr.cells s.form.subs),.sl false 1 16 (rows Wt s.words),.sl false 1 16 (rows Wt s.WO),.sl false 1 16 (rows Wt s.parts)]])),(o1,(.arr 0 1 0 [[.mp oM]])),(oM,(.mps false (Wz f.name [.ref false (B+k) (g k+1) 0 (flt (i3n a1) a1).length] (mref B s.parts g m)))),(o3,(.arr 0 1 0 [[.fn 84 [] [.ptr o0 0 0 0,.ptr o1 0 0 0,.ptr o3 0 0 0]]])),(B+k,(.arr (g k+1) 1 16 (rows Wt (i1j (i3n a1) a1))))]) oM B s.parts.length:=i3l (fun p hp=>by
      simp only[List.mem_cons,List.not_mem_nil,or_false]at hp
      rcases hp with rfl|rfl|rfl|rfl|rfl
      ·exact .inr (.inr (WQ XZ))
      ·exact .inr (.inr (WQ ZG))
      ·exact .inl rfl
      ·exact .inr (.inr (WQ d4b))
      ·exact .inr (.inl ⟨Nat.le_add_right _ _,Nat.add_lt_add_left hk _⟩))
     have hF':=Fam.put (T:=WE st [(o0,(.arr 0 7 0 [[.int .i64 s.form.kind,.str s.form.name,.sl false 1 16 (rows Wt s.form.words),.sl false 4 72 (rows Lr.cells s.form.subs),.sl false 1 16 (rows Wt s.words),.sl false 1 16 (rows Wt s.WO),.sl false 1 16 (rows Wt s.parts)]])),(o1,(.arr 0 1 0 [[.mp oM]])),(oM,(.mps false (Wz f.name [.ref false (B+k) (g k+1) 0 (flt (i3n a1) a1).length] (mref B s.parts g m)))),(o3,(.arr 0 1 0 [[.fn 84 [] [.ptr o0 0 0 0,.ptr o1 0 0 0,.ptr o3 0 0 0]]])),(B+k,(.arr (g k+1) 1 16 (rows Wt (i1j (i3n a1) a1))))]) (zk:=List.replicate (a1.length-(flt (i3n a1) a1).length) []) (l:=flt (i3n a1) a1) hF hnm hk hx (gk:=(g k+1)) (fun e=>by rw[hp]at e;cases e) (by simp only[go_sem,fx]) (by simp only[go_sem,fx,i1j]) (fun j hj hjk=>d5Y (by simp;omega))
     have i0Q:=hF'.sc hC' hsc
     refine hj0 () ⟨(_,_),hC',_,_,hF'⟩ _ _ h ?_
     exact d1O (by simp) i0Q (.lv (.lv (.nil _))) (by simp) ⟨.s,.s,.s,trivial⟩ (by simp<;>omega)
    |some l=>
     have r0z:ent m f.name=l:=by unfold ent;rw[hp];rfl
     rw[r0z]at hob
     rw[hp]at h hle
     simp only[Option.getD_some]at h hle
     have fx:=fa fx (show assoc f.name (mref B s.parts g m)=some [.ref false (B+k) (g k) 0 l.length]by rw[d8g,hp,hkk];rfl)
     have fx:=fa fx (@p8x)
     have e5:WE st [(o0,(.arr 0 7 0 [[.int .i64 s.form.kind,.str s.form.name,.sl false 1 16 (rows Wt s.form.words),.sl false 4 72 (rows Lr.cells s.form.subs),.sl false 1 16 (rows Wt s.words),.sl false 1 16 (rows Wt s.WO),.sl false 1 16 (rows Wt s.parts)]])),(o1,(.arr 0 1 0 [[.mp oM]])),(oM,(.mps false (mref B s.parts g m))),(o3,(.arr 0 1 0 [[.fn 84 [] [.ptr o0 0 0 0,.ptr o1 0 0 0,.ptr o3 0 0 0]]])),(B+k,(.arr (g k) 1 16 (rows Wt (l++z k))))]=st:=WJ (by simp[XZ,ZG,p9e,d4b,hob])
     refine ZJ (congrArg (· ++_) e5) ?_
     refine rn ?_
     refine cf ?_
     refine rn ?_
     refine dw [0,2,5,6] 0 ?_
     refine d2Y [B+k,st.length+1] (r:=.ref false (B+k) (g k) 0 (flt (i3n a1) l).length) (ups:=[(B+k,.arr (g k) 1 16 (rows Wt (i1j (i3n a1) l++z k)))]) (fun st2 h2=>(i4a (st:=st2) (z:=z k) (l:=l) (ar:=a1) ((h2 _ (by simp)).trans (by simp only[go_sem,fx])) ((h2 _ (by simp)).trans (by simp only[go_sem,fx]<;>rfl)) (by omega) (by omega)).mono fun d st' hd=>⟨hd.1,hd.2⟩) (by simp) (by simp only[List.mem_cons,List.not_mem_nil,or_false,forall_eq_or_imp,forall_eq];exact⟨⟨by first|omega|(simp<;>omega),_,(by simp only[go_sem,fx]<;>rfl),Ob.noConfusion⟩,⟨by first|omega|(simp<;>omega),_,(by simp only[go_sem,fx]<;>rfl),Ob.noConfusion⟩⟩) (by simp) ?_
     try simp only[go_sem,fx]
     refine⟨by simp<;>omega,?_⟩
     have hC':Chg st (WE st [(o0,(.arr 0 7 0 [[.int .i64 s.form.kind,.str s.form.name,.sl false 1 16 (rows Wt s.form.words),.sl false 4 72 (rows Lr.cells s.form.subs),.sl false 1 16 (rows Wt s.words),.sl false 1 16 (rows Wt s.WO),.sl false 1 16 (rows Wt s.parts)]])),(o1,(.arr 0 1 0 [[.mp oM]])),(oM,(.mps false (Wz f.name [.ref false (B+k) (g k) 0 (flt (i3n a1) l).length] (mref B s.parts g m)))),(o3,(.arr 0 1 0 [[.fn 84 [] [.ptr o0 0 0 0,.ptr o1 0 0 0,.ptr o3 0 0 0]]])),(B+k,(.arr (g k) 1 16 (rows Wt (i1j (i3n a1) l++z k))))]) oM B s.parts.length:=i3l (fun p hp=>by
      simp only[List.mem_cons,List.not_mem_nil,or_false]at hp
      rcases hp with rfl|rfl|rfl|rfl|rfl
      ·exact .inr (.inr (WQ XZ))
      ·exact .inr (.inr (WQ ZG))
      ·exact .inl rfl
      ·exact .inr (.inr (WQ d4b))
      ·exact .inr (.inl ⟨Nat.le_add_right _ _,Nat.add_lt_add_left hk _⟩))
     have hF':=Fam.put (T:=WE st [(o0,(.arr 0 7 0 [[.int .i64 s.form.kind,.str s.form.name,.sl false 1 16 (rows Wt s.form.words),.sl false 4 72 (rows Lr.cells s.form.subs),.sl false 1 16 (rows Wt s.words),.sl false 1 16 (rows Wt s.WO),.sl false 1 16 (rows Wt s.parts)]])),(o1,(.arr 0 1 0 [[.mp oM]])),(oM,(.mps false (Wz f.name [.ref false (B+k) (g k) 0 (flt (i3n a1) l).length] (mref B s.parts g m)))),(o3,(.arr 0 1 0 [[.fn 84 [] [.ptr o0 0 0 0,.ptr o1 0 0 0,.ptr o3 0 0 0]]])),(B+k,(.arr (g k) 1 16 (rows Wt (i1j (i3n a1) l++z k))))]) (zk:=List.replicate (l.length-(flt (i3n a1) l).length) []++z k) (l:=flt (i3n a1) l) hF hnm hk hx (gk:=(g k)) (fun _=>rfl) (by simp only[go_sem,fx]) (by simp only[go_sem,fx,i1j,List.append_assoc]) (fun j hj hjk=>d5Y (by simp;omega))
     have i0Q:=hF'.sc hC' hsc
     refine hj0 () ⟨(_,_),hC',_,_,hF'⟩ _ _ h ?_
     exact d1O (by simp) i0Q (.lv (.lv (.nil _))) (by simp) ⟨.s,.s,.s,trivial⟩ (by simp<;>omega)
   ·rw[e4]
    refine r0 ?_
    refine hj0 () ⟨(m,st),Chg.refl _ _ _ _,g,z,hF⟩ _ _ h ?_
    exact bm hsc (hs:=by simp<;>omega)
theorem p5G{α:Type}(x:α){n k:Nat}(h:k<n):(List.replicate n x)[k]? =some x:=by rw[List.getElem?_replicate,if_pos h]
set_option maxHeartbeats 4000000 in
set_option maxRecDepth 100000 in
theorem d8v(n:Nat)(a0:Wu)(r:List (Bs×List Bs))(h:d2a n a0=some r):∀st:St,Am.Spec Tryz.prog gl 57 [.agg [.int .i64 a0.form.kind,.str a0.form.name,.sl false 1 16 (rows Wt a0.form.words),.sl false 4 72 (rows Lr.cells a0.form.subs),.sl false 1 16 (rows Wt a0.words),.sl false 1 16 (rows Wt a0.WO),.sl false 1 16 (rows Wt a0.parts)]] st (fun d st'=>d= .mp (st.length+1)∧st'=st++[none,some (.mps false (mrw (slc 1 16 Wt) r))]):=by
 intro st
 unfold d2a at h
 obtain⟨hnm,h⟩:=p2q h
 have fx:=trivial
 refine fb 12 [.tmp 2] [0,1,2,3,4] Tryz.func57 fun hsc=>?_
 refine r0 ?_
 refine r0 ?_
 refine r0 ?_
 refine r0 ?_
 refine p0a 1 16 a0.parts.length ?_
 simp only[List.append_assoc,List.cons_append,List.nil_append]
 refine rn ?_
 have r3E:Fam (st++some (.arr 0 7 0 [[.int .i64 a0.form.kind,.str a0.form.name,.sl false 1 16 (rows Wt a0.form.words),.sl false 4 72 (rows Lr.cells a0.form.subs),.sl false 1 16 (rows Wt a0.words),.sl false 1 16 (rows Wt a0.WO),.sl false 1 16 (rows Wt a0.parts)]])::some (.mps false [])::some (.arr 0 1 0 [[.mp (st.length+1)]])::some (.arr 0 1 0 [[.fn 84 [] [.ptr st.length 0 0 0,.ptr (st.length+2) 0 0 0,.ptr (st.length+3) 0 0 0]]])::List.replicate a0.parts.length (some (.arr 0 1 16 []))) (st.length+1) (st.length+4) a0.parts (fun _=>0) (fun _=>[]) []:=by
  refine⟨fun p hp=>(by cases hp),d4H.trans rfl,fun k hk=>?_,fun _ _ _=>rfl,List.nodup_nil⟩
  refine d4m.2 ?_
  rw[List.getElem?_append_right (by omega),show st.length+4+k-st.length=k+4 by omega]
  exact p5G _ hk
 refine((d7L n _ _ _ _ _ h hnm _ st.length (st.length+2) (st.length+1) (st.length+3) (st.length+4) (by simp) (by omega) (by simp only[List.length_append,List.length_cons,List.length_replicate];omega) (d3q.trans rfl) (d4H.trans rfl) (d4H.trans rfl) _ _ r3E).up (.cons _ _ _ _ .s (.cons _ _ _ _ (.WB _ _ _ (by decide)) (.cons _ _ _ _ .s (.cons _ _ _ _ .s (.cons _ _ _ _ .s .nil))))) (by simp<;>omega)).mono ?_
 rintro d1 st1 ⟨rfl,hC,g,z,hF⟩
 have fx:=(hC.look (o:=st.length+2) (by omega) (by omega)).trans (d4H.trans rfl)
 have hlen:st1.length=st.length+(a0.parts.length+4):=by rw[hC.len];simp only[List.length_append,List.length_cons,List.length_replicate]
 refine rr ?_
 refine⟨st++[none,some (.mps false (mrw (slc 1 16 Wt) r))],.mp (st.length+1),by simp,⟨by simp;omega,fun o ob' e=>?_,fun o ob' e=>?_⟩,.s,by simp,rfl,rfl⟩
 ·by_cases ho:o<st.length
  ·rw[List.getElem?_append_left ho]at e
   exact⟨ob',by rw[hC.same o (by omega) (by omega),List.getElem?_append_left ho];exact e,.s⟩
  ·rw[List.getElem?_append_right (by omega)]at e
   have ho2:o-st.length<2:=by
    have:=(List.getElem?_eq_some_iff.1 e).1
    simpa using this
   by_cases h0:o-st.length=0
   ·rw[h0]at e;cases e
   ·have h1:o-st.length=1:=by omega
    rw[h1]at e
    cases e
    obtain rfl:o=st.length+1:=by omega
    refine⟨_,d4m.1 hF.mp,hF.ups fun k hk=>?_⟩
    unfold Am.look
    rw[List.getElem?_eq_none (by simp;omega)]
    rfl
 ·by_cases ho:o<st.length
  ·rw[List.getElem?_append_left ho]at e
   exact Ob.i7Z (by simp) (hsc o ob' e)
  ·rw[List.getElem?_append_right (by omega)]at e
   have ho2:o-st.length<2:=by
    have:=(List.getElem?_eq_some_iff.1 e).1
    simpa using this
   by_cases h0:o-st.length=0
   ·rw[h0]at e;cases e
   ·have h1:o-st.length=1:=by omega
    rw[h1]at e
    cases e
    intro q hq
    obtain⟨x,_,rfl⟩:=List.mem_map.1 hq
    exact⟨trivial,trivial⟩
end Go.Proofs.YtfacbpehlibilaaGreatDoor
