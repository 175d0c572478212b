import Derived.Test.YtahjhbkhcaphgaaGreatDoorFTWalk0
set_option linter.unusedVariables false
set_option linter.unusedSimpArgs false
set_option maxHeartbeats 2000000
set_option maxRecDepth 100000
namespace Go.Proofs.YtahjhbkhcaphgaaGreatDoor
open Go Go.Am
theorem fq{l r:(List Bs)}(h:G9 l=some r):r.length=l.length:=by
 unfold G9 at h
 obtain⟨_,h⟩:=Br h
 obtain rfl:=Option.some.inj h
 exact(gq _ _).length_eq
set_option maxRecDepth 100000 in
theorem fQ(l0:(List Bs))(r:(List Bs))(h:G9 l0=some r):∀(st:St) (o0 q0:Nat) (hnd: [o0].Nodup) (R8:Am.look st o0=some (.arr q0 1 16 (rows w9 l0))),Am.Spec Tryz.prog gl 57 [.ref false o0 q0 0 l0.length] st (fun d st'=>d= .tup []∧st'=puts st [(o0,(.arr q0 1 16 (rows w9 r)))]):=by
 intro st o0 q0 hnd R8
 unfold G9 at h
 obtain⟨hl,h⟩:=Br h
 obtain rfl:=Option.some.inj h
 rw[←Cu]
 exact sO Fz (by kernel_rfl) R8 hl
set_option maxRecDepth 100000 in
theorem dW(l0:(List Bs))(r:(List Bs))(h:N0 l0=some r):∀(st:St) (o0 q0:Nat) (hnd: [o0].Nodup) (R8:Am.look st o0=some (.arr q0 1 16 (rows w9 l0))),Am.Spec Tryz.prog gl 58 [.ref false o0 q0 0 l0.length] st (fun d st'=>d= .ref false o0 q0 0 (Lib.compact l0).length∧st'=puts st [(o0,.arr q0 1 16 (rows w9 (cpt l0)))]):=by
 intro st o0 q0 hnd R8
 unfold N0 at h
 obtain⟨hl,h⟩:=Br h
 exact oB FC (by kernel_rfl) R8 hl
theorem eX(n:Nat)(a0:u6)(r:(List Bs))(h:U3 n a0=some r):Pure Tryz.prog gl 34 [.agg [.int .i64 a0.kind,.str a0.name,.sl false 1 16 (rows w9 a0.words),.sl false 4 72 (rows u6.cells a0.subs)]] (.sl false 1 16 (rows w9 r)):=by
 intro st
 unfold U3 at h
 have fx:=trivial
 refine fb 13 [.tmp 2] [0,1,2,3,4] Tryz.func34 fun hsc=>?_
 refine r0 ?_
 refine r0 ?_
 refine r0 ?_
 refine r0 ?_
 (repeat apply sq_)
 refine eJ 1 16 ?_
 try simp only[List.append_assoc,List.cons_append,List.nil_append]
 refine R6 (F:=[(1,.ptr st.length 0 0 0),(3,.ptr (st.length+1) 0 0 0),(4,.ptr (st.length+2) 0 0 0)]) (T:=st++[some (.arr 0 4 0 [[.int .i64 a0.kind,.str a0.name,.sl false 1 16 (rows w9 a0.words),.sl false 4 72 (rows u6.cells a0.subs)]]),some (.arr 0 1 0 [[.ref false (st.length+3) 0 0 0]]),some (.arr 0 1 0 [[.fn 55 [] [.ptr (st.length+1) 0 0 0,.ptr (st.length+2) 0 0 0]]]),some (.arr 0 1 16 (rows w9 []))]) (xU hsc (.lv (.live _ _ _ _ (.arr _ _ _ _ _ (.cons _ _ _ _ (.cons _ _ _ _ (.nref _ _ _ _ _ _ (qd.trans rfl)) .nil) (.same _))) (.lv (.lv (.nil _))))) (by simp) ⟨.s,.s,.s,trivial⟩ (by simp)) ?_
 refine rn ?_
 obtain⟨v1,hv1,h⟩:=M1 h
 refine((jr n _ _ _ _ hv1 _ _ _ _ 0 (by simp) (lC.trans rfl) (lC.trans rfl) (lC.trans rfl)).up (.cons _ _ _ _ .s (.cons _ _ _ _ (.y5 _ _ _ (by decide)) (.cons _ _ _ _ .s (.cons _ _ _ _ .s .nil)))) (by simp<;>omega)).mono ?_
 rintro d1 st1 ⟨g2,rfl,rfl⟩
 refine rn ?_
 obtain⟨v3,hv3,h⟩:=M1 h
 refine(fQ _ _ hv3 _ _ g2 (by simp) (lC.trans rfl)).mono ?_
 rintro d1 st1 ⟨rfl,rfl⟩
 try simp only[go_sem,fx]
 have e4:D.ref false (st.length+3) g2 0 v1.length=D.ref false (st.length+3) g2 0 v3.length:=by rw[fq hv3]
 try simp only[e4]
 refine rn ?_
 obtain⟨v5,hv5,h⟩:=M1 h
 refine(dW _ _ hv5 _ _ g2 (by simp) (lC.trans rfl)).mono ?_
 rintro d1 st1 ⟨rfl,rfl⟩
 refine rr ?_
 exact fo (.sl false 1 16 (rows w9 (Lib.compact v3))) (.ref _ _ _ _ _ _ _ _ _ (qd.trans rfl) Bq (by decide) (ng _) (Cr _).symm) h hsc
theorem mM:∀(n:Nat) (a0:u6) (a1:Bs) (r:Bool×Bool) (h:N2 n a0 a1=some r),Pure Tryz.prog gl 36 [.agg [.int .i64 a0.kind,.str a0.name,.sl false 1 16 (rows w9 a0.words),.sl false 4 72 (rows u6.cells a0.subs)],.str a1] (.tup [.bool r.1,.bool r.2]):=by
 intro n
 induction n with
 |zero=>intro a0 a1 r h;cases h
 |succ n ih=>
  intro a0 a1 r h st
  unfold N2 at h
  have fx:=trivial
  refine fb 51 [.tmp 4,.tmp 5] [0,1,2,4,5,7,8,9,14,15,16,17,18,28,29,30,31,42,46] Tryz.func36 fun hsc=>?_
  refine rn ?_
  refine aF (U4 (N2 n) a0 a1) r (fun(gj0:Unit) (j0:Bool×Bool)=>[(1,.str a1),(2,.ptr st.length 0 0 0),(4,.bool j0.1),(5,.bool j0.2)]) (fun(gj0:Unit) (j0:Bool×Bool)=>st++[some (.arr 0 4 0 [[.int .i64 a0.kind,.str a0.name,.sl false 1 16 (rows w9 a0.words),.sl false 4 72 (rows u6.cells a0.subs)]])]) (fun gj0 j0 fr1 st1 h hb=>?_) (fun hj0=>?_)
  ·try simp only[go_sem,fx]
   unfold U4 at h
   refine R6 hb ?_
   refine aln 28 fun hl1=>?_
   refine rng (body:=bh (N2 n) a0 a1) (kk:=bn) (n:=a0.subs.length) (s0:=(j0.1,j0.2))
    (fun(gs1:Unit) (k1:Nat) (s1:Bool×Bool)=>[(1,.str a1),(4,.bool s1.1),(5,.bool s1.2),(28,.sl false 4 72 (rows u6.cells a0.subs)),(29,.int .i64 (↑a0.subs.length:Int)),(30,.int .i64 (↑k1:Int))])
    (fun(gs1:Unit) (k1:Nat) (s1:Bool×Bool)=>st)
    (fun(gt1:Unit) (t1:Bool×Bool)=>[(4,.bool t1.1),(5,.bool t1.2)])
    (fun(gt1:Unit) (t1:Bool×Bool)=>st)
    () fx hl1 h (bm0 hsc)
    (fun gs1 k1 s1 b1 fx h hx1=>?_) (fun gs1 s1=>?_) (fun gt1 t1 fr1 st1 h hb=>?_)
   ·unfold bh at h
    refine ct ?_
    refine cl h (ih _ _) fun v2 h=>?_
    refine rn ?_
    cases h
    exact ig () (bm0 hsc)
   ·refine cf ?_
    refine gO ?_;simp only[go_sem,fx]
    exact⟨(),(jP hsc)⟩
   ·try simp only[go_sem,fx]
    unfold bn at h
    refine R6 hb ?_
    exact rt
  ·refine cd h (fun hc h=>?_) fun hc h=>?_
   ·refine rs ?_
    refine dw [] 0 ?_
    refine hj0 () _ _ _ h ?_;exact(bm hsc)
   ·refine r0 ?_
    refine hj0 () _ _ _ h ?_;exact(bm hsc)
theorem Z2:∀(n:Nat) (a0:u6) (r:(List Bs)) (h:B7 n a0=some r),Pure Tryz.prog gl 37 [.agg [.int .i64 a0.kind,.str a0.name,.sl false 1 16 (rows w9 a0.words),.sl false 4 72 (rows u6.cells a0.subs)]] (.sl false 1 16 (rows w9 r)):=by
 intro n
 induction n with
 |zero=>intro a0 r h;cases h
 |succ n ih=>
  intro a0 r h st
  unfold B7 at h
  have fx:=trivial
  refine fb 26 [.tmp 2] [0,1,2,3,5,7,14,15,16,17] Tryz.func37 fun hsc=>?_
  refine cl h (K6 _) fun v1 h=>?_
  try simp only[go_sem,fx]
  (repeat apply sq_)
  refine eJ 1 16 ?_
  try simp only[List.append_assoc,List.cons_append,List.nil_append]
  refine R6 (F:=[(1,.ptr st.length 0 0 0),(3,.ref false (st.length+1) 0 0 0),(7,.bool v1)]) (T:=st++[some (.arr 0 4 0 [[.int .i64 a0.kind,.str a0.name,.sl false 1 16 (rows w9 a0.words),.sl false 4 72 (rows u6.cells a0.subs)]]),some (.arr 0 1 16 (rows w9 []))]) (xU hsc (.lv (.lv (.nil _))) (by simp) ⟨.s,.nref _ _ _ _ _ _ (qd.trans rfl),.s,trivial⟩ (by simp)) ?_
  (repeat apply sq_)
  refine aF (G0 (B7 n) a0) r (fun(gj0:Nat) (j0:(List Bs))=>[(1,.ptr st.length 0 0 0),(3,.ref false (st.length+1) gj0 0 j0.length)]) (fun(gj0:Nat) (j0:(List Bs))=>st++[some (.arr 0 4 0 [[.int .i64 a0.kind,.str a0.name,.sl false 1 16 (rows w9 a0.words),.sl false 4 72 (rows u6.cells a0.subs)]]),some (.arr gj0 1 16 (rows w9 j0))]) (fun gj0 j0 fr1 st1 h hb=>?_) (fun hj0=>?_)
  ·try simp only[go_sem,fx]
   unfold G0 at h
   refine R6 hb ?_
   refine aln 14 fun hl1=>?_
   refine rng (body:=Q9 (B7 n) a0) (kk:=R0) (n:=a0.subs.length) (s0:=j0)
    (fun(gs1:Nat) (k1:Nat) (s1:(List Bs))=>[(3,.ref false (st.length+1) gs1 0 s1.length),(14,.sl false 4 72 (rows u6.cells a0.subs)),(15,.int .i64 (↑a0.subs.length:Int)),(16,.int .i64 (↑k1:Int))])
    (fun(gs1:Nat) (k1:Nat) (s1:(List Bs))=>st++[none,some (.arr gs1 1 16 (rows w9 s1))])
    (fun(gt1:Nat) (t1:(List Bs))=>[(3,.ref false (st.length+1) gt1 0 t1.length)])
    (fun(gt1:Nat) (t1:(List Bs))=>st++[none,some (.arr gt1 1 16 (rows w9 t1))])
    gj0 fx hl1 h (bm hsc)
    (fun gs1 k1 s1 b1 fx h hx1=>?_) (fun gs1 s1=>?_) (fun gt1 t1 fr1 st1 h hb=>?_)
   ·unfold Q9 at h
    refine ct ?_
    refine r0 ?_
    refine r0 ?_
    refine r0 ?_
    refine cl h (ih _) fun v14 h=>?_
    obtain⟨c15,LZ,h⟩:=gG h
    have fy:=(show rows w9 s1++rows w9 v14=rows w9 c15 from by rw[LZ];first|exact F1 (E:=w9) s1 v14|simp only[go_sem,rows,List.map_append,List.map_cons,List.map_nil])
    have fy:=fa fy (show s1.length+v14.length=c15.length from by rw[LZ];simp)
    obtain⟨fx,h⟩:=ck fx h
    try simp only[go_sem,fx,fy]
    refine rn ?_
    cases h
    exact ig (gs1+1) (bm hsc)
   ·refine cf ?_
    refine gO ?_;simp only[go_sem,fx]
    exact⟨gs1,(bm hsc)⟩
   ·try simp only[go_sem,fx]
    unfold R0 at h
    refine R6 hb ?_
    refine rr ?_
    exact fo (.sl false 1 16 (rows w9 t1)) (.ref _ _ _ _ _ _ _ _ _ (qd.trans rfl) Bq (by decide) (ng _) (by simp only[go_sem])) h hsc
  ·refine cd h (fun hc h=>?_) fun hc h=>?_
   ·obtain⟨c3,hc3,h⟩:=gG h
    obtain⟨fx,h⟩:=ck fx h
    refine r0 ?_
    have e6:D.ref false (st.length+1) 1 0 1=D.ref false (st.length+1) 1 0 c3.length:=by simp[hc3]
    have e7: [[.str a0.name]]=rows w9 c3:=by rw[hc3];first|rfl|simp only[go_sem,rows,List.nil_append,List.map_append,List.map_cons,List.map_nil]
    try simp only[e6,e7]
    refine hj0 1 _ _ _ h ?_;exact(bm hsc)
   ·refine r0 ?_
    refine hj0 0 _ _ _ h ?_;exact(bm hsc)
theorem X7(n:Nat)(a0:w8)(r:x6)(h:J0 n a0=some r):Pure Tryz.prog gl 15 [.agg [.int .i64 a0.form.kind,.str a0.form.name,.sl false 1 16 (rows w9 a0.form.words),.sl false 4 72 (rows u6.cells a0.form.subs),.sl false 1 16 (rows w9 a0.words),.sl false 1 16 (rows w9 a0.B1),.sl false 1 16 (rows w9 a0.parts)]] (.agg [.int .i64 r.code,.int .i64 r.index]):=by
 intro st
 unfold J0 at h
 have fx:=trivial
 refine fb 119 [.cell 2 30] [0,1,2,3,4,5,6,7,8,9,10,11,12,18,24,29,30,31,32,38,45,55,64,67,80,81,82,85,89,98,99,100,101,111,112,113,114,115] Tryz.func15 fun hsc=>?_
 refine cl h (bW n _) fun v1 h=>?_
 refine cd h (fun hc h=>?_) fun hc h=>?_
 ·exact rt
 ·refine cl h (dh _) fun v2 h=>?_
  refine cd h (fun hc h=>?_) fun hc h=>?_
  ·refine cl h (C7 _ _) fun v3 h=>?_
   exact rt
  ·refine cl h (eX n _) fun v4 h=>?_
   refine aln 4 fun hl0=>?_
   refine rng (body:=X1 n v2 a0 v4) (kk:=X2 n a0) (n:=v2.length) (s0:=())
    (fun(gs0:Unit) (k0:Nat) (s0:Unit)=>[(1,.ptr st.length 0 0 0),(2,.ptr (st.length+1) 0 0 0),(4,.sl false 1 16 (rows w9 v2)),(5,.sl false 1 16 (rows w9 v4)),(29,.sl false 1 16 (rows w9 v2)),(30,.int .i64 (↑v2.length:Int)),(31,.int .i64 (↑k0:Int))])
    (fun(gs0:Unit) (k0:Nat) (s0:Unit)=>st++[some (.arr 0 7 0 [[.int .i64 a0.form.kind,.str a0.form.name,.sl false 1 16 (rows w9 a0.form.words),.sl false 4 72 (rows u6.cells a0.form.subs),.sl false 1 16 (rows w9 a0.words),.sl false 1 16 (rows w9 a0.B1),.sl false 1 16 (rows w9 a0.parts)]]),some (.arr 0 2 0 [[.int .i64 0,.int .i64 0]])])
    (fun(gt0:Unit) (t0:Unit)=>[(1,.ptr st.length 0 0 0),(2,.ptr (st.length+1) 0 0 0)])
    (fun(gt0:Unit) (t0:Unit)=>st++[some (.arr 0 7 0 [[.int .i64 a0.form.kind,.str a0.form.name,.sl false 1 16 (rows w9 a0.form.words),.sl false 4 72 (rows u6.cells a0.form.subs),.sl false 1 16 (rows w9 a0.words),.sl false 1 16 (rows w9 a0.B1),.sl false 1 16 (rows w9 a0.parts)]]),some (.arr 0 2 0 [[.int .i64 0,.int .i64 0]])])
    () fx hl0 h (bm hsc)
    (fun gs0 k0 s0 b0 fx h hx0=>?_) (fun gs0 s0=>?_) (fun gt0 t0 fr1 st1 h hb=>?_)
   ·unfold X1 at h
    refine ct ?_
    refine cl h (eW _) fun v17 h=>?_
    refine cd h (fun hc h=>?_) fun hc h=>?_
    ·refine cl h (C7 _ _) fun v18 h=>?_
     refine ra ?_
     cases h
     refine X8 ?_;have h:=congrArg some (hx0 _ rfl)
     exact rt
    ·obtain⟨fx,h⟩:=ck fx h
     refine cl h (y3 _ _) fun v21 h=>?_
     refine cd h (fun hc h=>?_) fun hc h=>?_
     ·refine cl h (C7 _ _) fun v22 h=>?_
      refine ra ?_
      cases h
      refine X8 ?_;have h:=congrArg some (hx0 _ rfl)
      exact rt
     ·refine cl h (mM n _ _) fun v23 h=>?_
      refine cd h (fun hc h=>?_) fun hc h=>?_
      ·refine cl h (y3 _ _) fun v24 h=>?_
       refine cd h (fun hc h=>?_) fun hc h=>?_
       ·refine cl h (C7 _ _) fun v25 h=>?_
        refine ra ?_
        cases h
        refine X8 ?_;have h:=congrArg some (hx0 _ rfl)
        exact rt
       ·refine rn ?_
        cases h
        exact ig () (bm hsc)
      ·refine cd h (fun hc h=>?_) fun hc h=>?_
       ·refine cd h (fun hc h=>?_) fun hc h=>?_
        ·refine cl h (C7 _ _) fun v26 h=>?_
         refine ra ?_
         cases h
         refine X8 ?_;have h:=congrArg some (hx0 _ rfl)
         exact rt
        ·refine rn ?_
         cases h
         exact ig () (bm hsc)
       ·refine cd h (fun hc h=>?_) fun hc h=>?_
        ·refine cl h (C7 _ _) fun v27 h=>?_
         refine ra ?_
         cases h
         refine X8 ?_;have h:=congrArg some (hx0 _ rfl)
         exact rt
        ·refine cd h (fun hc h=>?_) fun hc h=>?_
         ·refine cl h (C7 _ _) fun v28 h=>?_
          refine ra ?_
          cases h
          refine X8 ?_;have h:=congrArg some (hx0 _ rfl)
          exact rt
         ·refine rn ?_
          cases h
          exact ig () (bm hsc)
   ·refine cf ?_
    refine gO ?_;simp only[go_sem,fx]
    exact⟨(),(bm hsc)⟩
   ·try simp only[go_sem,fx]
    unfold X2 at h
    refine R6 hb ?_
    refine cl h (Z2 n _) fun v29 h=>?_
    refine aln 10 fun hl1=>?_
    refine rng (body:=X3 v29 a0) (kk:=X4) (n:=v29.length) (s0:=())
     (fun(gs1:Unit) (k1:Nat) (s1:Unit)=>[(1,.ptr st.length 0 0 0),(2,.ptr (st.length+1) 0 0 0),(10,.sl false 1 16 (rows w9 v29)),(98,.sl false 1 16 (rows w9 v29)),(99,.int .i64 (↑v29.length:Int)),(100,.int .i64 (↑k1:Int))])
     (fun(gs1:Unit) (k1:Nat) (s1:Unit)=>st++[some (.arr 0 7 0 [[.int .i64 a0.form.kind,.str a0.form.name,.sl false 1 16 (rows w9 a0.form.words),.sl false 4 72 (rows u6.cells a0.form.subs),.sl false 1 16 (rows w9 a0.words),.sl false 1 16 (rows w9 a0.B1),.sl false 1 16 (rows w9 a0.parts)]]),some (.arr 0 2 0 [[.int .i64 0,.int .i64 0]])])
     (fun(gt1:Unit) (t1:Unit)=>[(2,.ptr (st.length+1) 0 0 0)])
     (fun(gt1:Unit) (t1:Unit)=>st++[none,some (.arr 0 2 0 [[.int .i64 0,.int .i64 0]])])
     () fx hl1 h (bm hsc)
     (fun gs1 k1 s1 b1 fx h hx1=>?_) (fun gs1 s1=>?_) (fun gt1 t1 fr1 st1 h hb=>?_)
    ·unfold X3 at h
     refine ct ?_
     obtain⟨fx,h⟩:=ck fx h
     refine cl h (y3 _ _) fun v37 h=>?_
     refine rn ?_
     obtain⟨v38,hv38,h⟩:=M1 h
     refine bp (fun hG=>(y3 _ _ _ (pE hv38 (by simpa using hG)))) ?_
     refine cd h (fun hc h=>?_) fun hc h=>?_
     ·refine cl h (C7 _ _) fun v39 h=>?_
      refine ra ?_
      cases h
      refine X8 ?_;have h:=congrArg some (hx1 _ rfl)
      exact rt
     ·refine rn ?_
      cases h
      exact ig () (bm hsc)
    ·refine cf ?_
     refine gO ?_;simp only[go_sem,fx]
     exact⟨(),(bm hsc)⟩
    ·try simp only[go_sem,fx]
     unfold X4 at h
     refine R6 hb ?_
     exact rt
theorem mN(n:Nat)(B0:Int)(U0:(List Bs))(r:Bs×Int)(h:gX n B0 U0=some r):∀(st:St) (o0 o1:Nat) (hnd: [o0,o1].Nodup) (R8:Am.look st o0=some (.arr 0 1 0 [[.int .i64 B0]])) (ny:Am.look st o1=some (.arr 0 1 0 [[.sl false 1 16 (rows w9 U0)]])),Am.Spec Tryz.prog gl 84 [.ptr o0 0 0 0,.ptr o1 0 0 0] st (fun d st'=>d= .str r.1∧st'=puts st [(o0,(.arr 0 1 0 [[.int .i64 r.2]])),(o1,(.arr 0 1 0 [[.sl false 1 16 (rows w9 U0)]]))]):=by
 intro st o0 o1 hnd R8 ny
 unfold gX at h
 have ho0:=F2 R8
 have ho1:=F2 ny
 have fx:=fa (fa (idf ho0) (idf ho1)) (nd2 hnd)
 refine fb 14 [.tmp 2] [0,1,2,3,12] Tryz.func84 fun hsc=>?_
 refine aO (s':=(E8 st [(o0,(.arr 0 1 0 [[.int .i64 B0]])),(o1,(.arr 0 1 0 [[.sl false 1 16 (rows w9 U0)]]))])) (C5 (by simp[R8,ny])) ?_
 refine rn ?_
 refine D6 (body:=dA U0) (kk:=dB) (n:=n) (s0:=B0)
  (fun(gs0:Unit) (s0:Int)=>[(0,.ptr o0 0 0 0),(1,.ptr o1 0 0 0)])
  (fun(gs0:Unit) (s0:Int)=>(E8 st [(o0,(.arr 0 1 0 [[.int .i64 s0]])),(o1,(.arr 0 1 0 [[.sl false 1 16 (rows w9 U0)]]))]))
  (fun(gt0:Unit) (t0:Unit)=>[])
  (fun(gt0:Unit) (t0:Unit)=>(E8 st [(o0,(.arr 0 1 0 [[.int .i64 B0]])),(o1,(.arr 0 1 0 [[.sl false 1 16 (rows w9 U0)]]))]))
  () h (xw hsc)
  (fun gs0 s0 b0 h hx0=>?_) (fun gt0 t0 fr1 st1 h hb=>?_)
 ·unfold dA at h
  refine cl h (FH _) fun v4 h=>?_
  obtain⟨fx,h⟩:=ck fx h
  refine cl h (y3 _ _) fun v6 h=>?_
  refine cd h (fun hc h=>?_) fun hc h=>?_
  ·refine ra ?_
   cases h
   refine bS ?_;have h:=congrArg some (hx0 _ rfl)
   refine rr ?_
   exact fus (.str (bX [118] v4)) (.same _) h hsc
  ·refine rn ?_
   cases h
   exact I6 () (xw hsc)
 ·try simp only[go_sem,fx]
  unfold dB at h
  cases h
theorem lY:∀(n:Nat) (a0:u6) (a1:(List x9)) (B0:Int) (U0:(List Bs)) (r:u6×Int) (h:V2 n a0 a1 B0 U0=some r),∀(st:St) (o0 o1:Nat) (hnd: [o0,o1].Nodup) (R8:Am.look st o0=some (.arr 0 1 0 [[.int .i64 B0]])) (ny:Am.look st o1=some (.arr 0 1 0 [[.sl false 1 16 (rows w9 U0)]])),Am.Spec Tryz.prog gl 86 [.agg [.int .i64 a0.kind,.str a0.name,.sl false 1 16 (rows w9 a0.words),.sl false 4 72 (rows u6.cells a0.subs)],.sl false 2 32 (rows x9.cells a1),.fn 84 [] [.ptr o0 0 0 0,.ptr o1 0 0 0]] st (fun d st'=>d= .agg [.int .i64 r.1.kind,.str r.1.name,.sl false 1 16 (rows w9 r.1.words),.sl false 4 72 (rows u6.cells r.1.subs)]∧st'=puts st [(o0,(.arr 0 1 0 [[.int .i64 r.2]])),(o1,(.arr 0 1 0 [[.sl false 1 16 (rows w9 U0)]]))]):=by
 intro n
 induction n with
 |zero=>intro a0 a1 B0 U0 r h;cases h
 |succ n ih=>
  intro a0 a1 B0 U0 r h st o0 o1 hnd R8 ny
  unfold V2 at h
  have ho0:=F2 R8
  have ho1:=F2 ny
  have fx:=fa (fa (idf ho0) (idf ho1)) (nd2 hnd)
  refine fb 87 [.cell 6 25] [0,1,2,3,6,7,9,10,12,19,20,21,22,29,38,52,70,71,72,73] Tryz.func86 fun hsc=>?_
  refine aO (s':=(E8 st [(o0,(.arr 0 1 0 [[.int .i64 B0]])),(o1,(.arr 0 1 0 [[.sl false 1 16 (rows w9 U0)]]))])) (C5 (by simp[R8,ny])) ?_
  refine r0 ?_
  refine r0 ?_
  refine r0 ?_
  (repeat apply sq_)
  refine eJ 1 16 ?_
  try simp only[List.append_assoc,List.cons_append,List.nil_append]
  refine R6 (F:=[(1,.sl false 2 32 (rows x9.cells a1)),(2,.fn 84 [] [.ptr o0 0 0 0,.ptr o1 0 0 0]),(3,.ptr st.length 0 0 0),(6,.ptr (st.length+1) 0 0 0),(7,.ptr (st.length+2) 0 0 0),(19,.sl false 1 16 (rows w9 a0.words)),(20,.int .i64 (↑a0.words.length:Int)),(21,.int .i64 0)]) (T:=(E8 st [(o0,(.arr 0 1 0 [[.int .i64 B0]])),(o1,(.arr 0 1 0 [[.sl false 1 16 (rows w9 U0)]]))])++[some (.arr 0 4 0 [[.int .i64 a0.kind,.str a0.name,.sl false 1 16 (rows w9 a0.words),.sl false 4 72 (rows u6.cells a0.subs)]]),some (.arr 0 4 0 [[.int .i64 0,.str [],.y5,.y5]]),some (.arr 0 4 0 [[.int .i64 a0.kind,.str a0.name,.ref false (st.length+3) 0 0 0,.y5]]),some (.arr 0 1 16 (rows w9 []))]) (jF (by simp) (aQ hsc (by simp<;>omega)) (.lv (.lv (.live _ _ _ _ (.arr _ _ _ _ _ (.cons _ _ _ _ (.cons _ _ _ _ .s (.cons _ _ _ _ .s (.cons _ _ _ _ (.nref _ _ _ _ _ _ (L4.trans rfl)) (.cons _ _ _ _ .s .nil)))) (.same _))) (.lv (.nil _))))) (by simp<;>omega) ⟨.s,.s,.s,.s,.s,.s,.s,.s,trivial⟩ (by simp<;>omega)) ?_
  refine aln 19 fun hl0=>?_
  refine rng (body:=cF n a1 a0) (kk:=cI (V2 n) n a0 B0 U0 a1) (n:=a0.words.length) (s0:=[])
   (fun(gs0:Nat) (k0:Nat) (s0:(List Bs))=>[(1,.sl false 2 32 (rows x9.cells a1)),(2,.fn 84 [] [.ptr o0 0 0 0,.ptr o1 0 0 0]),(3,.ptr st.length 0 0 0),(6,.ptr (st.length+1) 0 0 0),(7,.ptr (st.length+2) 0 0 0),(19,.sl false 1 16 (rows w9 a0.words)),(20,.int .i64 (↑a0.words.length:Int)),(21,.int .i64 (↑k0:Int))])
   (fun(gs0:Nat) (k0:Nat) (s0:(List Bs))=>(E8 st [(o0,(.arr 0 1 0 [[.int .i64 B0]])),(o1,(.arr 0 1 0 [[.sl false 1 16 (rows w9 U0)]]))])++[some (.arr 0 4 0 [[.int .i64 a0.kind,.str a0.name,.sl false 1 16 (rows w9 a0.words),.sl false 4 72 (rows u6.cells a0.subs)]]),some (.arr 0 4 0 [[.int .i64 0,.str [],.y5,.y5]]),some (.arr 0 4 0 [[.int .i64 a0.kind,.str a0.name,.ref false (st.length+3) gs0 0 s0.length,.y5]]),some (.arr gs0 1 16 (rows w9 s0))])
   (fun(gt0:Nat) (t0:(List Bs))=>[(1,.sl false 2 32 (rows x9.cells a1)),(2,.fn 84 [] [.ptr o0 0 0 0,.ptr o1 0 0 0]),(3,.ptr st.length 0 0 0),(6,.ptr (st.length+1) 0 0 0),(7,.ptr (st.length+2) 0 0 0)])
   (fun(gt0:Nat) (t0:(List Bs))=>(E8 st [(o0,(.arr 0 1 0 [[.int .i64 B0]])),(o1,(.arr 0 1 0 [[.sl false 1 16 (rows w9 U0)]]))])++[some (.arr 0 4 0 [[.int .i64 a0.kind,.str a0.name,.sl false 1 16 (rows w9 a0.words),.sl false 4 72 (rows u6.cells a0.subs)]]),some (.arr 0 4 0 [[.int .i64 0,.str [],.y5,.y5]]),some (.arr 0 4 0 [[.int .i64 a0.kind,.str a0.name,.ref false (st.length+3) gt0 0 t0.length,.y5]]),some (.arr gt0 1 16 (rows w9 t0))])
   0 fx hl0 h (bu hsc)
   (fun gs0 k0 s0 b0 fx h hx0=>?_) (fun gs0 s0=>?_) (fun gt0 t0 fr1 st1 h hb=>?_)
  ·unfold cF at h
   refine ct ?_
   refine rn ?_
   refine D6 (body:=cD a1 a0 k0) (kk:=cE s0) (n:=n) (s0:=(wr .i64 ((↑a1.length:Int)-1)))
    (fun(gs2:Unit) (s2:Int)=>[(1,.sl false 2 32 (rows x9.cells a1)),(2,.fn 84 [] [.ptr o0 0 0 0,.ptr o1 0 0 0]),(3,.ptr st.length 0 0 0),(6,.ptr (st.length+1) 0 0 0),(7,.ptr (st.length+2) 0 0 0),(9,.str (get a0.words k0)),(10,.int .i64 s2),(19,.sl false 1 16 (rows w9 a0.words)),(20,.int .i64 (↑a0.words.length:Int)),(21,.int .i64 (↑k0:Int))])
    (fun(gs2:Unit) (s2:Int)=>(E8 st [(o0,(.arr 0 1 0 [[.int .i64 B0]])),(o1,(.arr 0 1 0 [[.sl false 1 16 (rows w9 U0)]]))])++[some (.arr 0 4 0 [[.int .i64 a0.kind,.str a0.name,.sl false 1 16 (rows w9 a0.words),.sl false 4 72 (rows u6.cells a0.subs)]]),some (.arr 0 4 0 [[.int .i64 0,.str [],.y5,.y5]]),some (.arr 0 4 0 [[.int .i64 a0.kind,.str a0.name,.ref false (st.length+3) gs0 0 s0.length,.y5]]),some (.arr gs0 1 16 (rows w9 s0))])
    (fun(gt2:Unit) (t2:Bs)=>[(1,.sl false 2 32 (rows x9.cells a1)),(2,.fn 84 [] [.ptr o0 0 0 0,.ptr o1 0 0 0]),(3,.ptr st.length 0 0 0),(6,.ptr (st.length+1) 0 0 0),(7,.ptr (st.length+2) 0 0 0),(9,.str t2),(19,.sl false 1 16 (rows w9 a0.words)),(20,.int .i64 (↑a0.words.length:Int)),(21,.int .i64 (↑k0:Int))])
    (fun(gt2:Unit) (t2:Bs)=>(E8 st [(o0,(.arr 0 1 0 [[.int .i64 B0]])),(o1,(.arr 0 1 0 [[.sl false 1 16 (rows w9 U0)]]))])++[some (.arr 0 4 0 [[.int .i64 a0.kind,.str a0.name,.sl false 1 16 (rows w9 a0.words),.sl false 4 72 (rows u6.cells a0.subs)]]),some (.arr 0 4 0 [[.int .i64 0,.str [],.y5,.y5]]),some (.arr 0 4 0 [[.int .i64 a0.kind,.str a0.name,.ref false (st.length+3) gs0 0 s0.length,.y5]]),some (.arr gs0 1 16 (rows w9 s0))])
    () h (bu hsc)
    (fun gs2 s2 b2 h hx2=>?_) (fun gt2 t2 fr1 st1 h hb=>?_)
   ·unfold cD at h
    refine cd h (fun hc h=>?_) fun hc h=>?_
    ·obtain⟨fx,h⟩:=ck fx h
     refine cd h (fun hc h=>?_) fun hc h=>?_
     ·refine rn ?_
      cases h
      exact J9 () (bu hsc)
     ·refine rn ?_
      cases h
      exact I6 () (bu hsc)
    ·refine rn ?_
     cases h
     exact J9 () (bu hsc)
   ·try simp only[go_sem,fx]
    unfold cE at h
    refine R6 hb ?_
    obtain⟨c16,Ma,h⟩:=gG h
    have fy:=(show rows w9 s0++[[.str t2]]=rows w9 c16 from by rw[Ma];first|exact F1 (E:=w9) s0 [t2]|simp only[go_sem,rows,List.map_append,List.map_cons,List.map_nil])
    have fy:=fa fy (show s0.length+1=c16.length from by rw[Ma];simp)
    obtain⟨fx,h⟩:=ck fx h
    refine r1 ?_
    refine rn ?_
    cases h
    exact ig (gs0+1) (bu hsc)
  ·refine cf ?_
   refine gO ?_;simp only[go_sem,fx]
   exact⟨gs0,(bu hsc)⟩
  ·try simp only[go_sem,fx]
   unfold cI at h
   refine R6 hb ?_
   refine cl h (K6 _) fun v21 h=>?_
   refine rn ?_
   refine aF (aK (V2 n) a0 U0 t0) r (fun(gj3:Unit) (j3:Int×Bs×(List x9))=>[(1,.sl false 2 32 (rows x9.cells j3.2.2)),(2,.fn 84 [] [.ptr o0 0 0 0,.ptr o1 0 0 0]),(3,.ptr st.length 0 0 0),(6,.ptr (st.length+1) 0 0 0),(7,.ptr (st.length+2) 0 0 0)]) (fun(gj3:Unit) (j3:Int×Bs×(List x9))=>(E8 st [(o0,(.arr 0 1 0 [[.int .i64 j3.1]])),(o1,(.arr 0 1 0 [[.sl false 1 16 (rows w9 U0)]]))])++[some (.arr 0 4 0 [[.int .i64 a0.kind,.str a0.name,.sl false 1 16 (rows w9 a0.words),.sl false 4 72 (rows u6.cells a0.subs)]]),some (.arr 0 4 0 [[.int .i64 0,.str [],.y5,.y5]]),some (.arr 0 4 0 [[.int .i64 a0.kind,.str j3.2.1,.ref false (st.length+3) gt0 0 t0.length,.y5]]),some (.arr gt0 1 16 (rows w9 t0))]) (fun gj3 j3 fr1 st1 h hb=>?_) (fun hj3=>?_)
   ·try simp only[go_sem,fx]
    unfold aK at h
    refine R6 hb ?_
    refine r0 ?_
    (repeat apply sq_)
    refine eJ 4 72 ?_
    try simp only[List.append_assoc,List.cons_append,List.nil_append]
    refine R6 (F:=[(1,.sl false 2 32 (rows x9.cells j3.2.2)),(2,.fn 84 [] [.ptr o0 0 0 0,.ptr o1 0 0 0]),(6,.ptr (st.length+1) 0 0 0),(7,.ptr (st.length+2) 0 0 0),(70,.sl false 4 72 (rows u6.cells a0.subs)),(71,.int .i64 (↑a0.subs.length:Int)),(72,.int .i64 0)]) (T:=(E8 st [(o0,(.arr 0 1 0 [[.int .i64 j3.1]])),(o1,(.arr 0 1 0 [[.sl false 1 16 (rows w9 U0)]]))])++[some (.arr 0 4 0 [[.int .i64 a0.kind,.str a0.name,.sl false 1 16 (rows w9 a0.words),.sl false 4 72 (rows u6.cells a0.subs)]]),some (.arr 0 4 0 [[.int .i64 0,.str [],.y5,.y5]]),some (.arr 0 4 0 [[.int .i64 a0.kind,.str j3.2.1,.ref false (st.length+3) gt0 0 t0.length,.ref false (st.length+4) 0 0 0]]),some (.arr gt0 1 16 (rows w9 t0)),some (.arr 0 4 72 (rows u6.cells []))]) (jF (by simp) (aQ hsc (by simp<;>omega)) (.lv (.lv (.live _ _ _ _ (.arr _ _ _ _ _ (.cons _ _ _ _ (.cons _ _ _ _ .s (.cons _ _ _ _ .s (.cons _ _ _ _ .s (.cons _ _ _ _ (.nref _ _ _ _ _ _ (L4.trans rfl)) .nil)))) (.same _))) (.lv (.lv (.nil _)))))) (by simp<;>omega) ⟨.s,.s,.s,.s,.s,.s,.s,trivial⟩ (by simp<;>omega)) ?_
    refine aln 70 fun hl4=>?_
    refine rng (body:=cG (V2 n) a0 j3 U0) (kk:=cH a0 j3 t0) (n:=a0.subs.length) (s0:=(j3.1,[]))
     (fun(gs4:Nat) (k4:Nat) (s4:Int×(List u6))=>[(1,.sl false 2 32 (rows x9.cells j3.2.2)),(2,.fn 84 [] [.ptr o0 0 0 0,.ptr o1 0 0 0]),(6,.ptr (st.length+1) 0 0 0),(7,.ptr (st.length+2) 0 0 0),(70,.sl false 4 72 (rows u6.cells a0.subs)),(71,.int .i64 (↑a0.subs.length:Int)),(72,.int .i64 (↑k4:Int))])
     (fun(gs4:Nat) (k4:Nat) (s4:Int×(List u6))=>(E8 st [(o0,(.arr 0 1 0 [[.int .i64 s4.1]])),(o1,(.arr 0 1 0 [[.sl false 1 16 (rows w9 U0)]]))])++[none,some (.arr 0 4 0 [[.int .i64 0,.str [],.y5,.y5]]),some (.arr 0 4 0 [[.int .i64 a0.kind,.str j3.2.1,.ref false (st.length+3) gt0 0 t0.length,.ref false (st.length+4) gs4 0 s4.2.length]]),some (.arr gt0 1 16 (rows w9 t0)),some (.arr gs4 4 72 (rows u6.cells s4.2))])
     (fun(gt4:Nat) (t4:Int×(List u6))=>[(6,.ptr (st.length+1) 0 0 0),(7,.ptr (st.length+2) 0 0 0)])
     (fun(gt4:Nat) (t4:Int×(List u6))=>(E8 st [(o0,(.arr 0 1 0 [[.int .i64 t4.1]])),(o1,(.arr 0 1 0 [[.sl false 1 16 (rows w9 U0)]]))])++[none,some (.arr 0 4 0 [[.int .i64 0,.str [],.y5,.y5]]),some (.arr 0 4 0 [[.int .i64 a0.kind,.str j3.2.1,.ref false (st.length+3) gt0 0 t0.length,.ref false (st.length+4) gt4 0 t4.2.length]]),some (.arr gt0 1 16 (rows w9 t0)),some (.arr gt4 4 72 (rows u6.cells t4.2))])
     0 fx hl4 h (bu hsc)
     (fun gs4 k4 s4 b4 fx h hx4=>?_) (fun gs4 s4=>?_) (fun gt4 t4 fr1 st1 h hb=>?_)
    ·unfold cG at h
     refine ct ?_
     refine rn ?_
     refine dw [1,5] 2 ?_
     obtain⟨v38,hv38,h⟩:=M1 h
     refine gn [o0,o1] (fun st2 h2=>(ih _ _ _ _ _ hv38 st2 _ _ hnd ((h2 _ (by simp)).trans (by simp only[go_sem,fx])) ((h2 _ (by simp)).trans (by simp only[go_sem,fx])))) (by simp) (by simp only[List.mem_cons,List.not_mem_nil,or_false,forall_eq_or_imp,forall_eq];exact⟨⟨by first|omega|(simp<;>omega),_,(by simp only[go_sem,fx]<;>rfl),Ob.noConfusion⟩,⟨by first|omega|(simp<;>omega),_,(by simp only[go_sem,fx]<;>rfl),Ob.noConfusion⟩⟩) (by simp) ?_
     obtain⟨c40,Jg,h⟩:=gG h
     have fy:=(show rows u6.cells s4.2++[[.int .i64 v38.1.kind,.str v38.1.name,.sl false 1 16 (rows w9 v38.1.words),.sl false 4 72 (rows u6.cells v38.1.subs)]]=rows u6.cells c40 from by rw[Jg];first|exact F1 (E:=u6.cells) s4.2 [v38.1]|simp only[go_sem,rows,List.map_append,List.map_cons,List.map_nil])
     have fy:=fa fy (show s4.2.length+1=c40.length from by rw[Jg];simp)
     obtain⟨fx,h⟩:=ck fx h
     try simp only[go_sem,fx,fy]
     try refine⟨by first|omega|(simp<;>omega),?_⟩
     refine rn ?_
     cases h
     exact ig (gs4+1) (bu hsc)
    ·refine cf ?_
     refine gO ?_;simp only[go_sem,fx]
     exact⟨gs4,(bu hsc)⟩
    ·try simp only[go_sem,fx]
     unfold cH at h
     refine R6 hb ?_
     refine rr ?_
     exact fuo (.agg [.int .i64 a0.kind,.str j3.2.1,.sl false 1 16 (rows w9 t0),.sl false 4 72 (rows u6.cells t4.2)]) (.agg _ _ (.cons _ _ _ _ .s (.cons _ _ _ _ .s (.cons _ _ _ _ (.ref _ _ _ _ _ _ _ _ _ (L4.trans rfl) eK (by decide) (ng _) (by simp only[go_sem])) (.cons _ _ _ _ (.ref _ _ _ _ _ _ _ _ _ (L4.trans rfl) eK (by decide) (ng _) (by simp only[go_sem])) .nil))))) h hsc
   ·refine cd h (fun hc h=>?_) fun hc h=>?_
    ·refine rn ?_
     obtain⟨v22,hv22,h⟩:=M1 h
     refine(mN n _ _ _ hv22 _ _ _ hnd (by simp only[go_sem,fx]) (by simp only[go_sem,fx])).mono ?_
     rintro d1 st1 ⟨rfl,rfl⟩
     refine rn ?_
     obtain⟨fx,h⟩:=ck fx h
     obtain⟨c26,Jh,h⟩:=gG h
     have fy:=(show rows x9.cells a1++[[.str a0.name,.str v22.1]]=rows x9.cells c26 from by rw[Jh];first|exact F1 (E:=x9.cells) a1 [(x9.mk a0.name v22.1)]|simp only[go_sem,rows,List.map_append,List.map_cons,List.map_nil])
     have fy:=fa fy (show a1.length+1=c26.length from by rw[Jh];simp)
     obtain⟨fx,h⟩:=ck fx h
     refine dwy [] 2 ?_
     refine hj3 () _ _ _ h ?_;exact(bu hsc (hf:=⟨.ref _ _ _ _ _ _ _ _ _ (L4.trans rfl) (eA (by first|decide|simp)) (by decide) (ng _) (by simp only[go_sem]),.s,.s,.s,.s,trivial⟩))
    ·refine r0 ?_
     refine hj3 () _ _ _ h ?_;exact(bu hsc)
end Go.Proofs.YtahjhbkhcaphgaaGreatDoor
