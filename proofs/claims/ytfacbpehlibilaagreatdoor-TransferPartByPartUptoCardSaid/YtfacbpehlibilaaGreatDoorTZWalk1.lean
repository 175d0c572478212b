import Derived.Test.YtfacbpehlibilaaGreatDoorTZWalk0
set_option linter.unusedVariables false
set_option linter.unusedSimpArgs false
set_option maxHeartbeats 2000000
set_option maxRecDepth 100000
namespace Go.Proofs.YtfacbpehlibilaaGreatDoor
open Go Go.Am
theorem iP{l r:(List Bs)}(h:H8 l=some r):r.length=l.length:=by
 unfold H8 at h
 obtain⟨_,h⟩:=Jp h
 obtain rfl:=Option.some.inj h
 exact(cC _ _).length_eq
set_option maxRecDepth 100000 in
theorem jv(l0:(List Bs))(r:(List Bs))(h:H8 l0=some r):∀(st:St) (o0 q0:Nat) (hnd: [o0].Nodup) (M9:Am.look st o0=some (.arr q0 1 16 (rows w7 l0))),Am.Spec Tryz.prog gl 79 [.ref false o0 q0 0 l0.length] st (fun d st'=>d= .tup []∧st'=puts st [(o0,(.arr q0 1 16 (rows w7 r)))]):=by
 intro st o0 q0 hnd M9
 unfold H8 at h
 obtain⟨hl,h⟩:=Jp h
 obtain rfl:=Option.some.inj h
 rw[←Ic]
 exact xZ Lz (by kernel_rfl) M9 hl
set_option maxRecDepth 100000 in
theorem gT(l0:(List Bs))(r:(List Bs))(h:K6 l0=some r):∀(st:St) (o0 q0:Nat) (hnd: [o0].Nodup) (M9:Am.look st o0=some (.arr q0 1 16 (rows w7 l0))),Am.Spec Tryz.prog gl 80 [.ref false o0 q0 0 l0.length] st (fun d st'=>d= .ref false o0 q0 0 (Lib.compact l0).length∧st'=puts st [(o0,.arr q0 1 16 (rows w7 (cpt l0)))]):=by
 intro st o0 q0 hnd M9
 unfold K6 at h
 obtain⟨hl,h⟩:=Jp h
 exact sv LA (by kernel_rfl) M9 hl
theorem iJ(n:Nat)(a0:u5)(r:(List Bs))(h:N8 n a0=some r):Pure Tryz.prog gl 52 [.agg [.int .i64 a0.kind,.str a0.name,.sl false 1 16 (rows w7 a0.words),.sl false 4 72 (rows u5.cells a0.subs)]] (.sl false 1 16 (rows w7 r)):=by
 intro st
 unfold N8 at h
 have fx:=trivial
 refine fb 13 [.tmp 2] [0,1,2,3,4] Tryz.func52 fun hsc=>?_
 refine r0 ?_
 refine r0 ?_
 refine r0 ?_
 refine r0 ?_
 (repeat apply sq_)
 refine W6 1 16 ?_
 try simp only[List.append_assoc,List.cons_append,List.nil_append]
 refine Q9 (F:=[(1,.ptr st.length 0 0 0),(3,.ptr (st.length+1) 0 0 0),(4,.ptr (st.length+2) 0 0 0)]) (T:=st++[some (.arr 0 4 0 [[.int .i64 a0.kind,.str a0.name,.sl false 1 16 (rows w7 a0.words),.sl false 4 72 (rows u5.cells a0.subs)]]),some (.arr 0 1 0 [[.ref false (st.length+3) 0 0 0]]),some (.arr 0 1 0 [[.fn 78 [] [.ptr (st.length+1) 0 0 0,.ptr (st.length+2) 0 0 0]]]),some (.arr 0 1 16 (rows w7 []))]) (BL hsc (.lv (.live _ _ _ _ (.arr _ _ _ _ _ (.cons _ _ _ _ (.cons _ _ _ _ (.nref _ _ _ _ _ _ (oD.trans rfl)) .nil) (.same _))) (.lv (.lv (.nil _))))) (by simp) ⟨.s,.s,.s,trivial⟩ (by simp)) ?_
 refine rn ?_
 obtain⟨v1,hv1,h⟩:=P8 h
 refine((lV n _ _ _ _ hv1 _ _ _ _ 0 (by simp) (jm.trans rfl) (jm.trans rfl) (jm.trans rfl)).up (.cons _ _ _ _ .s (.cons _ _ _ _ (.A9 _ _ _ (by decide)) (.cons _ _ _ _ .s (.cons _ _ _ _ .s .nil)))) (by simp<;>omega)).mono ?_
 rintro d1 st1 ⟨g2,rfl,rfl⟩
 refine rn ?_
 obtain⟨v3,hv3,h⟩:=P8 h
 refine(jv _ _ hv3 _ _ g2 (by simp) (jm.trans rfl)).mono ?_
 rintro d1 st1 ⟨rfl,rfl⟩
 try simp only[go_sem,fx]
 have e4:D.ref false (st.length+3) g2 0 v1.length=D.ref false (st.length+3) g2 0 v3.length:=by rw[iP hv3]
 try simp only[e4]
 refine rn ?_
 obtain⟨v5,hv5,h⟩:=P8 h
 refine(gT _ _ hv5 _ _ g2 (by simp) (jm.trans rfl)).mono ?_
 rintro d1 st1 ⟨rfl,rfl⟩
 refine rr ?_
 exact fo (.sl false 1 16 (rows w7 (Lib.compact v3))) (.ref _ _ _ _ _ _ _ _ _ (oD.trans rfl) DP (by decide) (jS _) (Ia _).symm) h hsc
theorem qo:∀(n:Nat) (a0:u5) (a1:Bs) (r:Bool×Bool) (h:P5 n a0 a1=some r),Pure Tryz.prog gl 53 [.agg [.int .i64 a0.kind,.str a0.name,.sl false 1 16 (rows w7 a0.words),.sl false 4 72 (rows u5.cells a0.subs)],.str a1] (.tup [.bool r.1,.bool r.2]):=by
 intro n
 induction n with
 |zero=>intro a0 a1 r h;cases h
 |succ n ih=>
  intro a0 a1 r h st
  unfold P5 at h
  have fx:=trivial
  refine fb 51 [.tmp 4,.tmp 5] [0,1,2,4,5,7,8,9,14,15,16,17,18,28,29,30,31,42,46] Tryz.func53 fun hsc=>?_
  refine rn ?_
  refine eC (W1 (P5 n) a0 a1) r (fun(gj0:Unit) (j0:Bool×Bool)=>[(1,.str a1),(2,.ptr st.length 0 0 0),(4,.bool j0.1),(5,.bool j0.2)]) (fun(gj0:Unit) (j0:Bool×Bool)=>st++[some (.arr 0 4 0 [[.int .i64 a0.kind,.str a0.name,.sl false 1 16 (rows w7 a0.words),.sl false 4 72 (rows u5.cells a0.subs)]])]) (fun gj0 j0 fr1 st1 h hb=>?_) (fun hj0=>?_)
  ·try simp only[go_sem,fx]
   unfold W1 at h
   refine Q9 hb ?_
   refine aln 28 fun hl1=>?_
   refine rng (body:=dx (P5 n) a0 a1) (kk:=dy) (n:=a0.subs.length) (s0:=(j0.1,j0.2))
    (fun(gs1:Unit) (k1:Nat) (s1:Bool×Bool)=>[(1,.str a1),(4,.bool s1.1),(5,.bool s1.2),(28,.sl false 4 72 (rows u5.cells a0.subs)),(29,.int .i64 (↑a0.subs.length:Int)),(30,.int .i64 (↑k1:Int))])
    (fun(gs1:Unit) (k1:Nat) (s1:Bool×Bool)=>st)
    (fun(gt1:Unit) (t1:Bool×Bool)=>[(4,.bool t1.1),(5,.bool t1.2)])
    (fun(gt1:Unit) (t1:Bool×Bool)=>st)
    () fx hl1 h (bm0 hsc)
    (fun gs1 k1 s1 b1 fx h hx1=>?_) (fun gs1 s1=>?_) (fun gt1 t1 fr1 st1 h hb=>?_)
   ·unfold dx at h
    refine ct ?_
    refine cl h (ih _ _) fun v2 h=>?_
    refine rn ?_
    cases h
    exact eE () (bm0 hsc)
   ·refine cf ?_
    refine fA ?_;simp only[go_sem,fx]
    exact⟨(),(nM hsc)⟩
   ·try simp only[go_sem,fx]
    unfold dy at h
    refine Q9 hb ?_
    exact rt
  ·refine cd h (fun hc h=>?_) fun hc h=>?_
   ·refine rs ?_
    refine dw [] 0 ?_
    refine hj0 () _ _ _ h ?_;exact(bm hsc)
   ·refine r0 ?_
    refine hj0 () _ _ _ h ?_;exact(bm hsc)
theorem J8:∀(n:Nat) (a0:u5) (r:(List Bs)) (h:C0 n a0=some r),Pure Tryz.prog gl 30 [.agg [.int .i64 a0.kind,.str a0.name,.sl false 1 16 (rows w7 a0.words),.sl false 4 72 (rows u5.cells a0.subs)]] (.sl false 1 16 (rows w7 r)):=by
 intro n
 induction n with
 |zero=>intro a0 r h;cases h
 |succ n ih=>
  intro a0 r h st
  unfold C0 at h
  have fx:=trivial
  refine fb 26 [.tmp 2] [0,1,2,3,5,7,14,15,16,17] Tryz.func30 fun hsc=>?_
  refine cl h (E0 _) fun v1 h=>?_
  try simp only[go_sem,fx]
  (repeat apply sq_)
  refine W6 1 16 ?_
  try simp only[List.append_assoc,List.cons_append,List.nil_append]
  refine Q9 (F:=[(1,.ptr st.length 0 0 0),(3,.ref false (st.length+1) 0 0 0),(7,.bool v1)]) (T:=st++[some (.arr 0 4 0 [[.int .i64 a0.kind,.str a0.name,.sl false 1 16 (rows w7 a0.words),.sl false 4 72 (rows u5.cells a0.subs)]]),some (.arr 0 1 16 (rows w7 []))]) (BL hsc (.lv (.lv (.nil _))) (by simp) ⟨.s,.nref _ _ _ _ _ _ (oD.trans rfl),.s,trivial⟩ (by simp)) ?_
  (repeat apply sq_)
  refine eC (J6 (C0 n) a0) r (fun(gj0:Nat) (j0:(List Bs))=>[(1,.ptr st.length 0 0 0),(3,.ref false (st.length+1) gj0 0 j0.length)]) (fun(gj0:Nat) (j0:(List Bs))=>st++[some (.arr 0 4 0 [[.int .i64 a0.kind,.str a0.name,.sl false 1 16 (rows w7 a0.words),.sl false 4 72 (rows u5.cells a0.subs)]]),some (.arr gj0 1 16 (rows w7 j0))]) (fun gj0 j0 fr1 st1 h hb=>?_) (fun hj0=>?_)
  ·try simp only[go_sem,fx]
   unfold J6 at h
   refine Q9 hb ?_
   refine aln 14 fun hl1=>?_
   refine rng (body:=S9 (C0 n) a0) (kk:=T2) (n:=a0.subs.length) (s0:=j0)
    (fun(gs1:Nat) (k1:Nat) (s1:(List Bs))=>[(3,.ref false (st.length+1) gs1 0 s1.length),(14,.sl false 4 72 (rows u5.cells a0.subs)),(15,.int .i64 (↑a0.subs.length:Int)),(16,.int .i64 (↑k1:Int))])
    (fun(gs1:Nat) (k1:Nat) (s1:(List Bs))=>st++[none,some (.arr gs1 1 16 (rows w7 s1))])
    (fun(gt1:Nat) (t1:(List Bs))=>[(3,.ref false (st.length+1) gt1 0 t1.length)])
    (fun(gt1:Nat) (t1:(List Bs))=>st++[none,some (.arr gt1 1 16 (rows w7 t1))])
    gj0 fx hl1 h (bm hsc)
    (fun gs1 k1 s1 b1 fx h hx1=>?_) (fun gs1 s1=>?_) (fun gt1 t1 fr1 st1 h hb=>?_)
   ·unfold S9 at h
    refine ct ?_
    refine r0 ?_
    refine r0 ?_
    refine r0 ?_
    refine cl h (ih _) fun v14 h=>?_
    obtain⟨c15,Sb,h⟩:=gX h
    have fy:=(show rows w7 s1++rows w7 v14=rows w7 c15 from by rw[Sb];first|exact E1 (E:=w7) s1 v14|simp only[go_sem,rows,List.map_append,List.map_cons,List.map_nil])
    have fy:=fa fy (show s1.length+v14.length=c15.length from by rw[Sb];simp)
    obtain⟨fx,h⟩:=ck fx h
    try simp only[go_sem,fx,fy]
    refine rn ?_
    cases h
    exact eE (gs1+1) (bm hsc)
   ·refine cf ?_
    refine fA ?_;simp only[go_sem,fx]
    exact⟨gs1,(bm hsc)⟩
   ·try simp only[go_sem,fx]
    unfold T2 at h
    refine Q9 hb ?_
    refine rr ?_
    exact fo (.sl false 1 16 (rows w7 t1)) (.ref _ _ _ _ _ _ _ _ _ (oD.trans rfl) DP (by decide) (jS _) (by simp only[go_sem])) h hsc
  ·refine cd h (fun hc h=>?_) fun hc h=>?_
   ·obtain⟨c3,hc3,h⟩:=gX h
    obtain⟨fx,h⟩:=ck fx h
    refine r0 ?_
    have e6:D.ref false (st.length+1) 1 0 1=D.ref false (st.length+1) 1 0 c3.length:=by simp[hc3]
    have e7: [[.str a0.name]]=rows w7 c3:=by rw[hc3];first|rfl|simp only[go_sem,rows,List.nil_append,List.map_append,List.map_cons,List.map_nil]
    try simp only[e6,e7]
    refine hj0 1 _ _ _ h ?_;exact(bm hsc)
   ·refine r0 ?_
    refine hj0 0 _ _ _ h ?_;exact(bm hsc)
theorem lW(n:Nat)(a0:w9)(r:B1)(h:ay n a0=some r):Pure Tryz.prog gl 27 [.agg [.int .i64 a0.form.kind,.str a0.form.name,.sl false 1 16 (rows w7 a0.form.words),.sl false 4 72 (rows u5.cells a0.form.subs),.sl false 1 16 (rows w7 a0.words),.sl false 1 16 (rows w7 a0.C4),.sl false 1 16 (rows w7 a0.parts)]] (.agg [.int .i64 r.code,.int .i64 r.index]):=by
 intro st
 unfold ay at h
 have fx:=trivial
 refine fb 119 [.cell 2 25] [0,1,2,3,4,5,6,7,8,9,10,11,12,18,24,29,30,31,32,38,45,55,64,67,80,81,82,85,89,98,99,100,101,111,112,113,114,115] Tryz.func27 fun hsc=>?_
 refine cl h (bU n _) fun v1 h=>?_
 refine cd h (fun hc h=>?_) fun hc h=>?_
 ·exact rt
 ·refine cl h (gD _) fun v2 h=>?_
  refine cd h (fun hc h=>?_) fun hc h=>?_
  ·refine cl h (L8 _ _) fun v3 h=>?_
   exact rt
  ·refine cl h (iJ n _) fun v4 h=>?_
   refine aln 4 fun hl0=>?_
   refine rng (body:=Z9 n v2 a0 v4) (kk:=ah n a0) (n:=v2.length) (s0:=())
    (fun(gs0:Unit) (k0:Nat) (s0:Unit)=>[(1,.ptr st.length 0 0 0),(2,.ptr (st.length+1) 0 0 0),(4,.sl false 1 16 (rows w7 v2)),(5,.sl false 1 16 (rows w7 v4)),(29,.sl false 1 16 (rows w7 v2)),(30,.int .i64 (↑v2.length:Int)),(31,.int .i64 (↑k0:Int))])
    (fun(gs0:Unit) (k0:Nat) (s0:Unit)=>st++[some (.arr 0 7 0 [[.int .i64 a0.form.kind,.str a0.form.name,.sl false 1 16 (rows w7 a0.form.words),.sl false 4 72 (rows u5.cells a0.form.subs),.sl false 1 16 (rows w7 a0.words),.sl false 1 16 (rows w7 a0.C4),.sl false 1 16 (rows w7 a0.parts)]]),some (.arr 0 2 0 [[.int .i64 0,.int .i64 0]])])
    (fun(gt0:Unit) (t0:Unit)=>[(1,.ptr st.length 0 0 0),(2,.ptr (st.length+1) 0 0 0)])
    (fun(gt0:Unit) (t0:Unit)=>st++[some (.arr 0 7 0 [[.int .i64 a0.form.kind,.str a0.form.name,.sl false 1 16 (rows w7 a0.form.words),.sl false 4 72 (rows u5.cells a0.form.subs),.sl false 1 16 (rows w7 a0.words),.sl false 1 16 (rows w7 a0.C4),.sl false 1 16 (rows w7 a0.parts)]]),some (.arr 0 2 0 [[.int .i64 0,.int .i64 0]])])
    () fx hl0 h (bm hsc)
    (fun gs0 k0 s0 b0 fx h hx0=>?_) (fun gs0 s0=>?_) (fun gt0 t0 fr1 st1 h hb=>?_)
   ·unfold Z9 at h
    refine ct ?_
    refine cl h (iI _) fun v17 h=>?_
    refine cd h (fun hc h=>?_) fun hc h=>?_
    ·refine cl h (L8 _ _) fun v18 h=>?_
     refine ra ?_
     cases h
     refine L0 ?_;have h:=congrArg some (hx0 _ rfl)
     exact rt
    ·obtain⟨fx,h⟩:=ck fx h
     refine cl h (A8 _ _) fun v21 h=>?_
     refine cd h (fun hc h=>?_) fun hc h=>?_
     ·refine cl h (L8 _ _) fun v22 h=>?_
      refine ra ?_
      cases h
      refine L0 ?_;have h:=congrArg some (hx0 _ rfl)
      exact rt
     ·refine cl h (qo n _ _) fun v23 h=>?_
      refine cd h (fun hc h=>?_) fun hc h=>?_
      ·refine cl h (A8 _ _) fun v24 h=>?_
       refine cd h (fun hc h=>?_) fun hc h=>?_
       ·refine cl h (L8 _ _) fun v25 h=>?_
        refine ra ?_
        cases h
        refine L0 ?_;have h:=congrArg some (hx0 _ rfl)
        exact rt
       ·refine rn ?_
        cases h
        exact eE () (bm hsc)
      ·refine cd h (fun hc h=>?_) fun hc h=>?_
       ·refine cd h (fun hc h=>?_) fun hc h=>?_
        ·refine cl h (L8 _ _) fun v26 h=>?_
         refine ra ?_
         cases h
         refine L0 ?_;have h:=congrArg some (hx0 _ rfl)
         exact rt
        ·refine rn ?_
         cases h
         exact eE () (bm hsc)
       ·refine cd h (fun hc h=>?_) fun hc h=>?_
        ·refine cl h (L8 _ _) fun v27 h=>?_
         refine ra ?_
         cases h
         refine L0 ?_;have h:=congrArg some (hx0 _ rfl)
         exact rt
        ·refine cd h (fun hc h=>?_) fun hc h=>?_
         ·refine cl h (L8 _ _) fun v28 h=>?_
          refine ra ?_
          cases h
          refine L0 ?_;have h:=congrArg some (hx0 _ rfl)
          exact rt
         ·refine rn ?_
          cases h
          exact eE () (bm hsc)
   ·refine cf ?_
    refine fA ?_;simp only[go_sem,fx]
    exact⟨(),(bm hsc)⟩
   ·try simp only[go_sem,fx]
    unfold ah at h
    refine Q9 hb ?_
    refine cl h (J8 n _) fun v29 h=>?_
    refine aln 10 fun hl1=>?_
    refine rng (body:=aj v29 a0) (kk:=ak) (n:=v29.length) (s0:=())
     (fun(gs1:Unit) (k1:Nat) (s1:Unit)=>[(1,.ptr st.length 0 0 0),(2,.ptr (st.length+1) 0 0 0),(10,.sl false 1 16 (rows w7 v29)),(98,.sl false 1 16 (rows w7 v29)),(99,.int .i64 (↑v29.length:Int)),(100,.int .i64 (↑k1:Int))])
     (fun(gs1:Unit) (k1:Nat) (s1:Unit)=>st++[some (.arr 0 7 0 [[.int .i64 a0.form.kind,.str a0.form.name,.sl false 1 16 (rows w7 a0.form.words),.sl false 4 72 (rows u5.cells a0.form.subs),.sl false 1 16 (rows w7 a0.words),.sl false 1 16 (rows w7 a0.C4),.sl false 1 16 (rows w7 a0.parts)]]),some (.arr 0 2 0 [[.int .i64 0,.int .i64 0]])])
     (fun(gt1:Unit) (t1:Unit)=>[(2,.ptr (st.length+1) 0 0 0)])
     (fun(gt1:Unit) (t1:Unit)=>st++[none,some (.arr 0 2 0 [[.int .i64 0,.int .i64 0]])])
     () fx hl1 h (bm hsc)
     (fun gs1 k1 s1 b1 fx h hx1=>?_) (fun gs1 s1=>?_) (fun gt1 t1 fr1 st1 h hb=>?_)
    ·unfold aj at h
     refine ct ?_
     obtain⟨fx,h⟩:=ck fx h
     refine cl h (A8 _ _) fun v37 h=>?_
     refine rn ?_
     obtain⟨v38,hv38,h⟩:=P8 h
     refine aV (fun hG=>(A8 _ _ _ (qj hv38 (by simpa using hG)))) ?_
     refine cd h (fun hc h=>?_) fun hc h=>?_
     ·refine cl h (L8 _ _) fun v39 h=>?_
      refine ra ?_
      cases h
      refine L0 ?_;have h:=congrArg some (hx1 _ rfl)
      exact rt
     ·refine rn ?_
      cases h
      exact eE () (bm hsc)
    ·refine cf ?_
     refine fA ?_;simp only[go_sem,fx]
     exact⟨(),(bm hsc)⟩
    ·try simp only[go_sem,fx]
     unfold ak at h
     refine Q9 hb ?_
     exact rt
theorem S0(a0:w9)(a1:u5)(r:Bool)(h:D4 a0 a1=some r):Pure Tryz.prog gl 28 [.agg [.int .i64 a0.form.kind,.str a0.form.name,.sl false 1 16 (rows w7 a0.form.words),.sl false 4 72 (rows u5.cells a0.form.subs),.sl false 1 16 (rows w7 a0.words),.sl false 1 16 (rows w7 a0.C4),.sl false 1 16 (rows w7 a0.parts)],.agg [.int .i64 a1.kind,.str a1.name,.sl false 1 16 (rows w7 a1.words),.sl false 4 72 (rows u5.cells a1.subs)]] (.bool r):=by
 intro st
 unfold D4 at h
 have fx:=trivial
 refine fb 21 [.tmp 4] [0,1,2,3,4,9,10,11,12,15,16,17,18,19] Tryz.func28 fun hsc=>?_
 refine rn ?_
 obtain⟨v1,hv1,h⟩:=P8 h
 refine aV (fun hG=>(A8 _ _ _ (qj hv1 (by simpa using hG)))) ?_
 exact rt
theorem iQ(a0:(List Bs))(r:(List Bs))(h:T4 a0=some r):Pure Tryz.prog gl 59 [.sl false 1 16 (rows w7 a0)] (.sl false 1 16 (rows w7 r)):=by
 intro st
 refine BP ?_
 unfold T4 at h
 have hr:=Option.some.inj h
 subst hr
 refine Qx (N:=8) (rs:=[.tmp 2]) (keep:=[0,2,4]) Tryz.func59 rfl rfl rfl (by kernel_rfl) rfl fun hsc=>?_
 refine Ql (t:=0) rfl fun hl=>?_
 (repeat apply sq_);apply er_;simp only[go_sem]
 (repeat apply sq_);refine xU rfl ⟨9,by rw[RY]⟩ (by omega) (by omega) fun c hcn=>?_
 simp only[go_sem]
 (repeat apply sq_);refine ML (by rfl) (fun hc=>?_) fun hc=>?_
 ·(repeat apply sq_);apply er_;simp only[go_sem]
  refine JW ?_
  try simp only[go_sem]
  have Rc:=hcn hc
  rw[Rc]
  refine Mf ?_;simp only[go_sem]
  exact nK hsc (.A9 _ _ _ (by decide)) (by simp) ⟨rfl,rfl⟩
 ·refine GX ?_;try simp only[go_sem]
  (repeat apply sq_);apply er_;simp only[go_sem]
  simp only[pW]at hl
  refine⟨⟨by omega,by simp only[top]at *; omega⟩,?_⟩
  refine JW ?_
  try simp only[go_sem]
  refine Mf ?_;simp only[go_sem]
  exact vR hsc (.ref _ _ _ _ _ _ _ _ _ (oD.trans rfl) DP (by decide) (jS a0) (by simp only[go_sem])) (by simp) ⟨rfl,rfl⟩
theorem K3(a0 l0:(List Bs))(r:(List Bs))(h:D6 a0 l0=some r):∀(st:St) (o0 q0:Nat) (hnd: [o0].Nodup) (M9:Am.look st o0=some (.arr q0 1 16 (rows w7 l0))),Am.Spec Tryz.prog gl 59 [.sl false 1 16 (rows w7 a0)] st (fun d st'=>d= .ref false o0 (q0+1) 0 r.length∧st'=puts st [(o0,.arr (q0+1) 1 16 (rows w7 r))]):=by
 intro st o0 q0 hnd M9
 obtain⟨rfl,rfl⟩:l0=[]∧r=a0:=by
  unfold D6 at h
  cases l0 with
  |nil=>exact⟨rfl,(Option.some.inj h).symm⟩
  |cons x l=>cases h
 refine BP ?_
 rw[show r.length=(rows w7 r).length from(pW r).symm]
 refine Fm (g:=0) (fun hsc=>(R6 (m:=[(o0,.arr (q0+1) 1 16 (rows w7 r))]) hsc (by simp))) M9 ?_
 refine Qx (N:=8) (rs:=[.tmp 2]) (keep:=[0,2,4]) Tryz.func59 rfl rfl rfl (by kernel_rfl) rfl fun hsc=>?_
 refine Ql (t:=0) rfl fun hl=>?_
 (repeat apply sq_);apply er_;simp only[go_sem]
 (repeat apply sq_);refine xU rfl ⟨9,by rw[RY]⟩ (by omega) (by omega) fun c hcn=>?_
 simp only[go_sem]
 (repeat apply sq_);refine ML (by rfl) (fun hc=>?_) fun hc=>?_
 ·(repeat apply sq_);apply er_;simp only[go_sem]
  refine JW ?_
  try simp only[go_sem]
  have Rc:=hcn hc
  refine Mf ?_;simp only[go_sem]
  exact nK hsc (.same _) (by simp) (.inr (.inr ⟨rfl,rfl,Rc⟩))
 ·refine GX ?_;try simp only[go_sem]
  (repeat apply sq_);apply er_;simp only[go_sem]
  simp only[pW]at hl
  refine⟨⟨by omega,by simp only[top]at *; omega⟩,?_⟩
  refine JW ?_
  try simp only[go_sem]
  refine Mf ?_;simp only[go_sem]
  exact⟨st++[none,some (.arr 0 1 16 (rows w7 r))],_,by simp,sj hsc (.dead _ _ _ (.lv (.nil _))) (by simp),.s,by simp,.inr (.inl ⟨rfl,rfl⟩)⟩
theorem ot:∀(n:Nat) (a0:u5) (a1:(List Bs)) (B7:Int) (M6:Bs) (M7:(List Bs)) (D7:(List u5)) (L3:(List Bs)) (M4:(List Bs)) (M8:(List Bs)) (m2:(List (Bs×(List Bs)))) (r:Unit) (h:K7 n a0 a1 B7 M6 M7 D7 L3 M4 M8 m2=some r),∀(st:St) (o0 o1 o2 o3:Nat) (hnd: [o0,o1,o2,o3].Nodup) (M9:Am.look st o0=some (.arr 0 7 0 [[.int .i64 B7,.str M6,.sl false 1 16 (rows w7 M7),.sl false 4 72 (rows u5.cells D7),.sl false 1 16 (rows w7 L3),.sl false 1 16 (rows w7 M4),.sl false 1 16 (rows w7 M8)]])) (Z6:Am.look st o1=some (.arr 0 1 0 [[.mp o2]])) (bY:Am.look st o2=some (.mps false (mrw (slc 1 16 w7) m2))) (jx:Am.look st o3=some (.arr 0 1 0 [[.fn 84 [] [.ptr o0 0 0 0,.ptr o1 0 0 0,.ptr o3 0 0 0]]])),Am.Spec Tryz.prog gl 84 [.agg [.int .i64 a0.kind,.str a0.name,.sl false 1 16 (rows w7 a0.words),.sl false 4 72 (rows u5.cells a0.subs)],.sl false 1 16 (rows w7 a1),.ptr o0 0 0 0,.ptr o1 0 0 0,.ptr o3 0 0 0] st (fun d st'=>d= .tup []∧st'=puts st []):=by
 intro n
 induction n with
 |zero=>intro a0 a1 B7 M6 M7 D7 L3 M4 M8 m2 r h;cases h
 |succ n ih=>
  intro a0 a1 B7 M6 M7 D7 L3 M4 M8 m2 r h st o0 o1 o2 o3 hnd M9 Z6 bY jx
  unfold K7 at h
  have ho0:=B3 M9
  have ho1:=B3 Z6
  have ho2:=B3 bY
  have ho3:=B3 jx
  have fx:=fa (fa (fa (fa (idf ho0) (idf ho1)) (idf ho2)) (idf ho3)) (nd4 hnd)
  refine fb 51 [] [0,1,2,3,4,5,6,7,8,10,13,22,32,40,41,42,43] Tryz.func84 fun hsc=>?_
  refine bD (s':=(B8 st [(o0,(.arr 0 7 0 [[.int .i64 B7,.str M6,.sl false 1 16 (rows w7 M7),.sl false 4 72 (rows u5.cells D7),.sl false 1 16 (rows w7 L3),.sl false 1 16 (rows w7 M4),.sl false 1 16 (rows w7 M8)]])),(o1,(.arr 0 1 0 [[.mp o2]])),(o2,(.mps false (mrw (slc 1 16 w7) m2))),(o3,(.arr 0 1 0 [[.fn 84 [] [.ptr o0 0 0 0,.ptr o1 0 0 0,.ptr o3 0 0 0]]]))])) (C7 (by simp[M9,Z6,bY,jx])) ?_
  refine cl h (S0 _ _) fun v1 h=>?_
  refine rn ?_
  refine eC (R4 (K7 n) a0 a1 B7 M6 M7 D7 L3 M4 M8 m2) r (fun(gj0:Unit) (j0:Unit)=>[(4,.ptr o3 0 0 0),(5,.ptr st.length 0 0 0),(6,.ptr (st.length+1) 0 0 0)]) (fun(gj0:Unit) (j0:Unit)=>(B8 st [(o0,(.arr 0 7 0 [[.int .i64 B7,.str M6,.sl false 1 16 (rows w7 M7),.sl false 4 72 (rows u5.cells D7),.sl false 1 16 (rows w7 L3),.sl false 1 16 (rows w7 M4),.sl false 1 16 (rows w7 M8)]])),(o1,(.arr 0 1 0 [[.mp o2]])),(o2,(.mps false (mrw (slc 1 16 w7) m2))),(o3,(.arr 0 1 0 [[.fn 84 [] [.ptr o0 0 0 0,.ptr o1 0 0 0,.ptr o3 0 0 0]]]))])++[some (.arr 0 4 0 [[.int .i64 a0.kind,.str a0.name,.sl false 1 16 (rows w7 a0.words),.sl false 4 72 (rows u5.cells a0.subs)]]),some (.arr 0 1 0 [[.sl false 1 16 (rows w7 a1)]])]) (fun gj0 j0 fr1 st1 h hb=>?_) (fun hj0=>?_)
  ·try simp only[go_sem,fx]
   unfold R4 at h
   refine Q9 hb ?_
   refine cl h (E0 _) fun v3 h=>?_
   refine rn ?_
   refine eC (R5 (K7 n) a0 B7 M6 M7 D7 L3 M4 M8 m2) r (fun(gj1:Unit) (j1:(List Bs))=>[(4,.ptr o3 0 0 0),(5,.ptr st.length 0 0 0),(6,.ptr (st.length+1) 0 0 0)]) (fun(gj1:Unit) (j1:(List Bs))=>(B8 st [(o0,(.arr 0 7 0 [[.int .i64 B7,.str M6,.sl false 1 16 (rows w7 M7),.sl false 4 72 (rows u5.cells D7),.sl false 1 16 (rows w7 L3),.sl false 1 16 (rows w7 M4),.sl false 1 16 (rows w7 M8)]])),(o1,(.arr 0 1 0 [[.mp o2]])),(o2,(.mps false (mrw (slc 1 16 w7) m2))),(o3,(.arr 0 1 0 [[.fn 84 [] [.ptr o0 0 0 0,.ptr o1 0 0 0,.ptr o3 0 0 0]]]))])++[some (.arr 0 4 0 [[.int .i64 a0.kind,.str a0.name,.sl false 1 16 (rows w7 a0.words),.sl false 4 72 (rows u5.cells a0.subs)]]),some (.arr 0 1 0 [[.sl false 1 16 (rows w7 j1)]])]) (fun gj1 j1 fr1 st1 h hb=>?_) (fun hj1=>?_)
   ·try simp only[go_sem,fx]
    unfold R5 at h
    refine Q9 hb ?_
    refine aln 40 fun hl2=>?_
    refine rng (body:=eX (K7 n) a0 j1 B7 M6 M7 D7 L3 M4 M8 m2) (kk:=eY) (n:=a0.subs.length) (s0:=())
     (fun(gs2:Unit) (k2:Nat) (s2:Unit)=>[(4,.ptr o3 0 0 0),(6,.ptr (st.length+1) 0 0 0),(40,.sl false 4 72 (rows u5.cells a0.subs)),(41,.int .i64 (↑a0.subs.length:Int)),(42,.int .i64 (↑k2:Int))])
     (fun(gs2:Unit) (k2:Nat) (s2:Unit)=>(B8 st [(o0,(.arr 0 7 0 [[.int .i64 B7,.str M6,.sl false 1 16 (rows w7 M7),.sl false 4 72 (rows u5.cells D7),.sl false 1 16 (rows w7 L3),.sl false 1 16 (rows w7 M4),.sl false 1 16 (rows w7 M8)]])),(o1,(.arr 0 1 0 [[.mp o2]])),(o2,(.mps false (mrw (slc 1 16 w7) m2))),(o3,(.arr 0 1 0 [[.fn 84 [] [.ptr o0 0 0 0,.ptr o1 0 0 0,.ptr o3 0 0 0]]]))])++[none,some (.arr 0 1 0 [[.sl false 1 16 (rows w7 j1)]])])
     (fun(gt2:Unit) (t2:Unit)=>[])
     (fun(gt2:Unit) (t2:Unit)=>(B8 st [(o0,(.arr 0 7 0 [[.int .i64 B7,.str M6,.sl false 1 16 (rows w7 M7),.sl false 4 72 (rows u5.cells D7),.sl false 1 16 (rows w7 L3),.sl false 1 16 (rows w7 M4),.sl false 1 16 (rows w7 M8)]])),(o1,(.arr 0 1 0 [[.mp o2]])),(o2,(.mps false (mrw (slc 1 16 w7) m2))),(o3,(.arr 0 1 0 [[.fn 84 [] [.ptr o0 0 0 0,.ptr o1 0 0 0,.ptr o3 0 0 0]]]))]))
     () fx hl2 h (bu hsc)
     (fun gs2 k2 s2 b2 fx h hx2=>?_) (fun gs2 s2=>?_) (fun gt2 t2 fr1 st1 h hb=>?_)
    ·unfold eX at h
     refine ct ?_
     refine rn ?_
     obtain⟨v11,hv11,h⟩:=P8 h
     refine(ih _ _ _ _ _ _ _ _ _ _ _ hv11 _ _ _ _ _ hnd (by simp only[go_sem,fx]) (by simp only[go_sem,fx]) (by simp only[go_sem,fx]) (by simp only[go_sem,fx])).mono ?_
     rintro d1 st1 ⟨rfl,rfl⟩
     refine rn ?_
     cases h
     exact eE () (bu hsc)
    ·refine cf ?_
     refine fA ?_;simp only[go_sem,fx]
     exact⟨(),(bu0 hsc)⟩
    ·try simp only[go_sem,fx]
     unfold eY at h
     refine qE hb ?_
     refine rr ?_
     exact fus (.tup []) (.same _) h hsc (hr:=by rintro rfl;exact⟨rfl,C7 (by simp[M9,Z6,bY,jx])⟩)
   ·refine cd h (fun hc h=>?_) fun hc h=>?_
    ·(repeat apply sq_)
     refine W6 1 16 ?_
     try simp only[List.append_assoc,List.cons_append,List.nil_append]
     refine Q9 (F:=[(4,.ptr o3 0 0 0),(5,.ptr st.length 0 0 0),(6,.ptr (st.length+1) 0 0 0),(32,.bool v3)]) (T:=(B8 st [(o0,(.arr 0 7 0 [[.int .i64 B7,.str M6,.sl false 1 16 (rows w7 M7),.sl false 4 72 (rows u5.cells D7),.sl false 1 16 (rows w7 L3),.sl false 1 16 (rows w7 M4),.sl false 1 16 (rows w7 M8)]])),(o1,(.arr 0 1 0 [[.mp o2]])),(o2,(.mps false (mrw (slc 1 16 w7) m2))),(o3,(.arr 0 1 0 [[.fn 84 [] [.ptr o0 0 0 0,.ptr o1 0 0 0,.ptr o3 0 0 0]]]))])++[some (.arr 0 4 0 [[.int .i64 a0.kind,.str a0.name,.sl false 1 16 (rows w7 a0.words),.sl false 4 72 (rows u5.cells a0.subs)]]),some (.arr 0 1 0 [[.sl false 1 16 (rows w7 a1)]]),some (.arr 0 1 16 (rows w7 []))]) (eG (by simp) (R6 hsc (by simp<;>omega)) (.lv (.lv (.lv (.nil _)))) (by simp<;>omega) ⟨.s,.s,.s,.s,trivial⟩ (by simp<;>omega)) ?_
     refine rs ?_
     refine dw [1,3] 2 ?_
     obtain⟨v4,hv4,h⟩:=P8 h
     refine gO [(st.length+2)] (fun st2 h2=>(K3 _ _ _ hv4 st2 (st.length+2) 0 (by simp) ((h2 _ (by simp)).trans (D2.trans rfl)))) (by simp) (by simp only[List.mem_cons,List.not_mem_nil,or_false,forall_eq_or_imp,forall_eq];exact⟨by first|omega|(simp<;>omega),_,(D2.trans rfl),Ob.noConfusion⟩) (by simp) ?_
     obtain⟨c6,hc6,h⟩:=gX h
     have fy:=(show rows w7 v4++[[.str a0.name]]=rows w7 c6 from by rw[hc6];first|exact E1 (E:=w7) v4 [a0.name]|simp only[go_sem,rows,List.map_append,List.map_cons,List.map_nil])
     have fy:=fa fy (show v4.length+1=c6.length from by rw[hc6];simp)
     obtain⟨fx,h⟩:=ck fx h
     try simp only[go_sem,fx,fy]
     try refine⟨by first|omega|(simp<;>omega),?_⟩
     refine hj1 () _ _ _ h ?_;exact(bu hsc (hu:=(.lv (.live _ _ _ _ (.arr _ _ _ _ _ (.cons _ _ _ _ (.cons _ _ _ _ (.ref _ _ _ _ _ _ _ _ _ (D3.trans rfl) (fK (by first|decide|simp)) (by decide) (jS _) (by simp only[go_sem])) .nil) (.same _))) (.nil _)))))
    ·refine r0 ?_
     refine hj1 () _ _ _ h ?_;exact(bu hsc)
  ·refine cd h (fun hc h=>?_) fun hc h=>?_
   ·cases h
   ·refine r0 ?_
    refine hj0 () _ _ _ h ?_;exact(bu hsc)
end Go.Proofs.YtfacbpehlibilaaGreatDoor
