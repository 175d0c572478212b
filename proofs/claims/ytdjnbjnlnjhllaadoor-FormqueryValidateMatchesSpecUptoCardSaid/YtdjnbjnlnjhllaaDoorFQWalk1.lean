import Derived.Test.YtdjnbjnlnjhllaaDoorFQWalk0
set_option linter.unusedVariables false
set_option linter.unusedSimpArgs false
set_option maxHeartbeats 2000000
set_option maxRecDepth 100000
namespace Go.Proofs.YtdjnbjnlnjhllaaDoor
open Go Go.Am
theorem dV{l r:(List Bs)}(h:F6 l=some r):r.length=l.length:=by
 unfold F6 at h
 obtain⟨_,h⟩:=DF h
 obtain rfl:=Option.some.inj h
 exact(fu _ _).length_eq
set_option maxRecDepth 100000 in
theorem eP(l0:(List Bs))(r:(List Bs))(h:F6 l0=some r):∀(st:St) (o0 q0:Nat) (hnd: [o0].Nodup) (aG:Am.look st o0=some (.arr q0 1 16 (rows w8 l0))),Am.Spec Tryd.prog gl 43 [.ref false o0 q0 0 l0.length] st (fun d st'=>d= .tup []∧st'=puts st [(o0,(.arr q0 1 16 (rows w8 r)))]):=by
 intro st o0 q0 hnd aG
 unfold F6 at h
 obtain⟨hl,h⟩:=DF h
 obtain rfl:=Option.some.inj h
 rw[←AA]
 exact qO Dk (by kernel_rfl) aG hl
set_option maxRecDepth 100000 in
theorem cY(l0:(List Bs))(r:(List Bs))(h:L7 l0=some r):∀(st:St) (o0 q0:Nat) (hnd: [o0].Nodup) (aG:Am.look st o0=some (.arr q0 1 16 (rows w8 l0))),Am.Spec Tryd.prog gl 44 [.ref false o0 q0 0 l0.length] st (fun d st'=>d= .ref false o0 q0 0 (Lib.compact l0).length∧st'=puts st [(o0,.arr q0 1 16 (rows w8 (cpt l0)))]):=by
 intro st o0 q0 hnd aG
 unfold L7 at h
 obtain⟨hl,h⟩:=DF h
 exact ng Dl (by kernel_rfl) aG hl
theorem dN(n:Nat)(a0:u5)(r:(List Bs))(h:S7 n a0=some r):Pure Tryd.prog gl 21 [.agg [.int .i64 a0.kind,.str a0.name,.sl false 1 16 (rows w8 a0.words),.sl false 4 72 (rows u5.cells a0.subs)]] (.sl false 1 16 (rows w8 r)):=by
 intro st
 unfold S7 at h
 have fx:=trivial
 refine fb 13 [.tmp 2] [0,1,2,3,4] Tryd.func21 fun hsc=>?_
 refine r0 ?_
 refine r0 ?_
 refine r0 ?_
 refine r0 ?_
 (repeat apply sq_)
 refine ep 1 16 ?_
 try simp only[List.append_assoc,List.cons_append,List.nil_append]
 refine R8 (F:=[(1,.ptr st.length 0 0 0),(3,.ptr (st.length+1) 0 0 0),(4,.ptr (st.length+2) 0 0 0)]) (T:=st++[some (.arr 0 4 0 [[.int .i64 a0.kind,.str a0.name,.sl false 1 16 (rows w8 a0.words),.sl false 4 72 (rows u5.cells a0.subs)]]),some (.arr 0 1 0 [[.ref false (st.length+3) 0 0 0]]),some (.arr 0 1 0 [[.fn 42 [] [.ptr (st.length+1) 0 0 0,.ptr (st.length+2) 0 0 0]]]),some (.arr 0 1 16 (rows w8 []))]) (vP hsc (.lv (.live _ _ _ _ (.arr _ _ _ _ _ (.cons _ _ _ _ (.cons _ _ _ _ (.nref _ _ _ _ _ _ (nV.trans rfl)) .nil) (.same _))) (.lv (.lv (.nil _))))) (by simp) ⟨.s,.s,.s,trivial⟩ (by simp)) ?_
 refine rn ?_
 obtain⟨v1,hv1,h⟩:=Y8 h
 refine((iF n _ _ _ _ hv1 _ _ _ _ 0 (by simp) (kU.trans rfl) (kU.trans rfl) (kU.trans rfl)).up (.cons _ _ _ _ .s (.cons _ _ _ _ (.y6 _ _ _ (by decide)) (.cons _ _ _ _ .s (.cons _ _ _ _ .s .nil)))) (by simp<;>omega)).mono ?_
 rintro d1 st1 ⟨g2,rfl,rfl⟩
 refine rn ?_
 obtain⟨v3,hv3,h⟩:=Y8 h
 refine(eP _ _ hv3 _ _ g2 (by simp) (kU.trans rfl)).mono ?_
 rintro d1 st1 ⟨rfl,rfl⟩
 try simp only[go_sem,fx]
 have e4:D.ref false (st.length+3) g2 0 v1.length=D.ref false (st.length+3) g2 0 v3.length:=by rw[dV hv3]
 try simp only[e4]
 refine rn ?_
 obtain⟨v5,hv5,h⟩:=Y8 h
 refine(cY _ _ hv5 _ _ g2 (by simp) (kU.trans rfl)).mono ?_
 rintro d1 st1 ⟨rfl,rfl⟩
 refine rr ?_
 exact fo (.sl false 1 16 (rows w8 (Lib.compact v3))) (.ref _ _ _ _ _ _ _ _ _ (nV.trans rfl) zy (by decide) (mW _) (Ay _).symm) h hsc
theorem lB:∀(n:Nat) (a0:u5) (a1:Bs) (r:Bool×Bool) (h:L8 n a0 a1=some r),Pure Tryd.prog gl 24 [.agg [.int .i64 a0.kind,.str a0.name,.sl false 1 16 (rows w8 a0.words),.sl false 4 72 (rows u5.cells a0.subs)],.str a1] (.tup [.bool r.1,.bool r.2]):=by
 intro n
 induction n with
 |zero=>intro a0 a1 r h;cases h
 |succ n ih=>
  intro a0 a1 r h st
  unfold L8 at h
  have fx:=trivial
  refine fb 51 [.tmp 4,.tmp 5] [0,1,2,4,5,7,8,9,14,15,16,17,18,28,29,30,31,42,46] Tryd.func24 fun hsc=>?_
  refine rn ?_
  refine bB (S8 (L8 n) a0 a1) r (fun(gj0:Unit) (j0:Bool×Bool)=>[(1,.str a1),(2,.ptr st.length 0 0 0),(4,.bool j0.1),(5,.bool j0.2)]) (fun(gj0:Unit) (j0:Bool×Bool)=>st++[some (.arr 0 4 0 [[.int .i64 a0.kind,.str a0.name,.sl false 1 16 (rows w8 a0.words),.sl false 4 72 (rows u5.cells a0.subs)]])]) (fun gj0 j0 fr1 st1 h hb=>?_) (fun hj0=>?_)
  ·try simp only[go_sem,fx]
   unfold S8 at h
   refine R8 hb ?_
   refine aln 28 fun hl1=>?_
   refine rng (body:=aT (L8 n) a0 a1) (kk:=aU) (n:=a0.subs.length) (s0:=(j0.1,j0.2))
    (fun(gs1:Unit) (k1:Nat) (s1:Bool×Bool)=>[(1,.str a1),(4,.bool s1.1),(5,.bool s1.2),(28,.sl false 4 72 (rows u5.cells a0.subs)),(29,.int .i64 (↑a0.subs.length:Int)),(30,.int .i64 (↑k1:Int))])
    (fun(gs1:Unit) (k1:Nat) (s1:Bool×Bool)=>st)
    (fun(gt1:Unit) (t1:Bool×Bool)=>[(4,.bool t1.1),(5,.bool t1.2)])
    (fun(gt1:Unit) (t1:Bool×Bool)=>st)
    () fx hl1 h (bm0 hsc)
    (fun gs1 k1 s1 b1 fx h hx1=>?_) (fun gs1 s1=>?_) (fun gt1 t1 fr1 st1 h hb=>?_)
   ·unfold aT at h
    refine ct ?_
    refine cl h (ih _ _) fun v2 h=>?_
    refine rn ?_
    cases h
    exact gL () (bm0 hsc)
   ·refine cf ?_
    refine gy ?_;simp only[go_sem,fx]
    exact⟨(),(fM hsc)⟩
   ·try simp only[go_sem,fx]
    unfold aU at h
    refine R8 hb ?_
    exact rt
  ·refine cd h (fun hc h=>?_) fun hc h=>?_
   ·refine rs ?_
    refine dw [] 0 ?_
    refine hj0 () _ _ _ h ?_;exact(bm hsc)
   ·refine r0 ?_
    refine hj0 () _ _ _ h ?_;exact(bm hsc)
theorem W8:∀(n:Nat) (a0:u5) (r:(List Bs)) (h:y7 n a0=some r),Pure Tryd.prog gl 25 [.agg [.int .i64 a0.kind,.str a0.name,.sl false 1 16 (rows w8 a0.words),.sl false 4 72 (rows u5.cells a0.subs)]] (.sl false 1 16 (rows w8 r)):=by
 intro n
 induction n with
 |zero=>intro a0 r h;cases h
 |succ n ih=>
  intro a0 r h st
  unfold y7 at h
  have fx:=trivial
  refine fb 26 [.tmp 2] [0,1,2,3,5,7,14,15,16,17] Tryd.func25 fun hsc=>?_
  refine cl h (J7 _) fun v1 h=>?_
  try simp only[go_sem,fx]
  (repeat apply sq_)
  refine ep 1 16 ?_
  try simp only[List.append_assoc,List.cons_append,List.nil_append]
  refine R8 (F:=[(1,.ptr st.length 0 0 0),(3,.ref false (st.length+1) 0 0 0),(7,.bool v1)]) (T:=st++[some (.arr 0 4 0 [[.int .i64 a0.kind,.str a0.name,.sl false 1 16 (rows w8 a0.words),.sl false 4 72 (rows u5.cells a0.subs)]]),some (.arr 0 1 16 (rows w8 []))]) (vP hsc (.lv (.lv (.nil _))) (by simp) ⟨.s,.nref _ _ _ _ _ _ (nV.trans rfl),.s,trivial⟩ (by simp)) ?_
  (repeat apply sq_)
  refine bB (E7 (y7 n) a0) r (fun(gj0:Nat) (j0:(List Bs))=>[(1,.ptr st.length 0 0 0),(3,.ref false (st.length+1) gj0 0 j0.length)]) (fun(gj0:Nat) (j0:(List Bs))=>st++[some (.arr 0 4 0 [[.int .i64 a0.kind,.str a0.name,.sl false 1 16 (rows w8 a0.words),.sl false 4 72 (rows u5.cells a0.subs)]]),some (.arr gj0 1 16 (rows w8 j0))]) (fun gj0 j0 fr1 st1 h hb=>?_) (fun hj0=>?_)
  ·try simp only[go_sem,fx]
   unfold E7 at h
   refine R8 hb ?_
   refine aln 14 fun hl1=>?_
   refine rng (body:=P2 (y7 n) a0) (kk:=P3) (n:=a0.subs.length) (s0:=j0)
    (fun(gs1:Nat) (k1:Nat) (s1:(List Bs))=>[(3,.ref false (st.length+1) gs1 0 s1.length),(14,.sl false 4 72 (rows u5.cells a0.subs)),(15,.int .i64 (↑a0.subs.length:Int)),(16,.int .i64 (↑k1:Int))])
    (fun(gs1:Nat) (k1:Nat) (s1:(List Bs))=>st++[none,some (.arr gs1 1 16 (rows w8 s1))])
    (fun(gt1:Nat) (t1:(List Bs))=>[(3,.ref false (st.length+1) gt1 0 t1.length)])
    (fun(gt1:Nat) (t1:(List Bs))=>st++[none,some (.arr gt1 1 16 (rows w8 t1))])
    gj0 fx hl1 h (bm hsc)
    (fun gs1 k1 s1 b1 fx h hx1=>?_) (fun gs1 s1=>?_) (fun gt1 t1 fr1 st1 h hb=>?_)
   ·unfold P2 at h
    refine ct ?_
    refine r0 ?_
    refine r0 ?_
    refine r0 ?_
    refine cl h (ih _) fun v14 h=>?_
    obtain⟨c15,Ji,h⟩:=iA h
    have fy:=(show rows w8 s1++rows w8 v14=rows w8 c15 from by rw[Ji];first|exact D8 (E:=w8) s1 v14|simp only[go_sem,rows,List.map_append,List.map_cons,List.map_nil])
    have fy:=fa fy (show s1.length+v14.length=c15.length from by rw[Ji];simp)
    obtain⟨fx,h⟩:=ck fx h
    try simp only[go_sem,fx,fy]
    refine rn ?_
    cases h
    exact gL (gs1+1) (bm hsc)
   ·refine cf ?_
    refine gy ?_;simp only[go_sem,fx]
    exact⟨gs1,(bm hsc)⟩
   ·try simp only[go_sem,fx]
    unfold P3 at h
    refine R8 hb ?_
    refine rr ?_
    exact fo (.sl false 1 16 (rows w8 t1)) (.ref _ _ _ _ _ _ _ _ _ (nV.trans rfl) zy (by decide) (mW _) (by simp only[go_sem])) h hsc
  ·refine cd h (fun hc h=>?_) fun hc h=>?_
   ·obtain⟨c3,hc3,h⟩:=iA h
    obtain⟨fx,h⟩:=ck fx h
    refine r0 ?_
    have e6:D.ref false (st.length+1) 1 0 1=D.ref false (st.length+1) 1 0 c3.length:=by simp[hc3]
    have e7: [[.str a0.name]]=rows w8 c3:=by rw[hc3];first|rfl|simp only[go_sem,rows,List.nil_append,List.map_append,List.map_cons,List.map_nil]
    try simp only[e6,e7]
    refine hj0 1 _ _ _ h ?_;exact(bm hsc)
   ·refine r0 ?_
    refine hj0 0 _ _ _ h ?_;exact(bm hsc)
theorem aH(n:Nat)(a0:w6)(r:w9)(h:K9 n a0=some r):Pure Tryd.prog gl 8 [.agg [.int .i64 a0.form.kind,.str a0.form.name,.sl false 1 16 (rows w8 a0.form.words),.sl false 4 72 (rows u5.cells a0.form.subs),.sl false 1 16 (rows w8 a0.words),.sl false 1 16 (rows w8 a0.y5),.sl false 1 16 (rows w8 a0.parts)]] (.agg [.int .i64 r.code,.int .i64 r.index]):=by
 intro st
 unfold K9 at h
 have fx:=trivial
 refine fb 119 [.cell 2 30] [0,1,2,3,4,5,6,7,8,9,10,11,12,18,24,29,30,31,32,38,45,55,64,67,80,81,82,85,89,98,99,100,101,111,112,113,114,115] Tryd.func8 fun hsc=>?_
 refine cl h (Y5 n _) fun v1 h=>?_
 refine cd h (fun hc h=>?_) fun hc h=>?_
 ·exact rt
 ·refine cl h (cG _) fun v2 h=>?_
  refine cd h (fun hc h=>?_) fun hc h=>?_
  ·refine cl h (H8 _ _) fun v3 h=>?_
   exact rt
  ·refine cl h (dN n _) fun v4 h=>?_
   refine aln 4 fun hl0=>?_
   refine rng (body:=U6 n v2 a0 v4) (kk:=U7 n a0) (n:=v2.length) (s0:=())
    (fun(gs0:Unit) (k0:Nat) (s0:Unit)=>[(1,.ptr st.length 0 0 0),(2,.ptr (st.length+1) 0 0 0),(4,.sl false 1 16 (rows w8 v2)),(5,.sl false 1 16 (rows w8 v4)),(29,.sl false 1 16 (rows w8 v2)),(30,.int .i64 (↑v2.length:Int)),(31,.int .i64 (↑k0:Int))])
    (fun(gs0:Unit) (k0:Nat) (s0:Unit)=>st++[some (.arr 0 7 0 [[.int .i64 a0.form.kind,.str a0.form.name,.sl false 1 16 (rows w8 a0.form.words),.sl false 4 72 (rows u5.cells a0.form.subs),.sl false 1 16 (rows w8 a0.words),.sl false 1 16 (rows w8 a0.y5),.sl false 1 16 (rows w8 a0.parts)]]),some (.arr 0 2 0 [[.int .i64 0,.int .i64 0]])])
    (fun(gt0:Unit) (t0:Unit)=>[(1,.ptr st.length 0 0 0),(2,.ptr (st.length+1) 0 0 0)])
    (fun(gt0:Unit) (t0:Unit)=>st++[some (.arr 0 7 0 [[.int .i64 a0.form.kind,.str a0.form.name,.sl false 1 16 (rows w8 a0.form.words),.sl false 4 72 (rows u5.cells a0.form.subs),.sl false 1 16 (rows w8 a0.words),.sl false 1 16 (rows w8 a0.y5),.sl false 1 16 (rows w8 a0.parts)]]),some (.arr 0 2 0 [[.int .i64 0,.int .i64 0]])])
    () fx hl0 h (bm hsc)
    (fun gs0 k0 s0 b0 fx h hx0=>?_) (fun gs0 s0=>?_) (fun gt0 t0 fr1 st1 h hb=>?_)
   ·unfold U6 at h
    refine ct ?_
    refine cl h (je _) fun v17 h=>?_
    refine cd h (fun hc h=>?_) fun hc h=>?_
    ·refine cl h (H8 _ _) fun v18 h=>?_
     refine ra ?_
     cases h
     refine Y0 ?_;have h:=congrArg some (hx0 _ rfl)
     exact rt
    ·obtain⟨fx,h⟩:=ck fx h
     refine cl h (x7 _ _) fun v21 h=>?_
     refine cd h (fun hc h=>?_) fun hc h=>?_
     ·refine cl h (H8 _ _) fun v22 h=>?_
      refine ra ?_
      cases h
      refine Y0 ?_;have h:=congrArg some (hx0 _ rfl)
      exact rt
     ·refine cl h (lB n _ _) fun v23 h=>?_
      refine cd h (fun hc h=>?_) fun hc h=>?_
      ·refine cl h (x7 _ _) fun v24 h=>?_
       refine cd h (fun hc h=>?_) fun hc h=>?_
       ·refine cl h (H8 _ _) fun v25 h=>?_
        refine ra ?_
        cases h
        refine Y0 ?_;have h:=congrArg some (hx0 _ rfl)
        exact rt
       ·refine rn ?_
        cases h
        exact gL () (bm hsc)
      ·refine cd h (fun hc h=>?_) fun hc h=>?_
       ·refine cd h (fun hc h=>?_) fun hc h=>?_
        ·refine cl h (H8 _ _) fun v26 h=>?_
         refine ra ?_
         cases h
         refine Y0 ?_;have h:=congrArg some (hx0 _ rfl)
         exact rt
        ·refine rn ?_
         cases h
         exact gL () (bm hsc)
       ·refine cd h (fun hc h=>?_) fun hc h=>?_
        ·refine cl h (H8 _ _) fun v27 h=>?_
         refine ra ?_
         cases h
         refine Y0 ?_;have h:=congrArg some (hx0 _ rfl)
         exact rt
        ·refine cd h (fun hc h=>?_) fun hc h=>?_
         ·refine cl h (H8 _ _) fun v28 h=>?_
          refine ra ?_
          cases h
          refine Y0 ?_;have h:=congrArg some (hx0 _ rfl)
          exact rt
         ·refine rn ?_
          cases h
          exact gL () (bm hsc)
   ·refine cf ?_
    refine gy ?_;simp only[go_sem,fx]
    exact⟨(),(bm hsc)⟩
   ·try simp only[go_sem,fx]
    unfold U7 at h
    refine R8 hb ?_
    refine cl h (W8 n _) fun v29 h=>?_
    refine aln 10 fun hl1=>?_
    refine rng (body:=U8 v29 a0) (kk:=U9) (n:=v29.length) (s0:=())
     (fun(gs1:Unit) (k1:Nat) (s1:Unit)=>[(1,.ptr st.length 0 0 0),(2,.ptr (st.length+1) 0 0 0),(10,.sl false 1 16 (rows w8 v29)),(98,.sl false 1 16 (rows w8 v29)),(99,.int .i64 (↑v29.length:Int)),(100,.int .i64 (↑k1:Int))])
     (fun(gs1:Unit) (k1:Nat) (s1:Unit)=>st++[some (.arr 0 7 0 [[.int .i64 a0.form.kind,.str a0.form.name,.sl false 1 16 (rows w8 a0.form.words),.sl false 4 72 (rows u5.cells a0.form.subs),.sl false 1 16 (rows w8 a0.words),.sl false 1 16 (rows w8 a0.y5),.sl false 1 16 (rows w8 a0.parts)]]),some (.arr 0 2 0 [[.int .i64 0,.int .i64 0]])])
     (fun(gt1:Unit) (t1:Unit)=>[(2,.ptr (st.length+1) 0 0 0)])
     (fun(gt1:Unit) (t1:Unit)=>st++[none,some (.arr 0 2 0 [[.int .i64 0,.int .i64 0]])])
     () fx hl1 h (bm hsc)
     (fun gs1 k1 s1 b1 fx h hx1=>?_) (fun gs1 s1=>?_) (fun gt1 t1 fr1 st1 h hb=>?_)
    ·unfold U8 at h
     refine ct ?_
     obtain⟨fx,h⟩:=ck fx h
     refine cl h (x7 _ _) fun v37 h=>?_
     refine rn ?_
     obtain⟨v38,hv38,h⟩:=Y8 h
     refine eL (fun hG=>(x7 _ _ _ (pH hv38 (by simpa using hG)))) ?_
     refine cd h (fun hc h=>?_) fun hc h=>?_
     ·refine cl h (H8 _ _) fun v39 h=>?_
      refine ra ?_
      cases h
      refine Y0 ?_;have h:=congrArg some (hx1 _ rfl)
      exact rt
     ·refine rn ?_
      cases h
      exact gL () (bm hsc)
    ·refine cf ?_
     refine gy ?_;simp only[go_sem,fx]
     exact⟨(),(bm hsc)⟩
    ·try simp only[go_sem,fx]
     unfold U9 at h
     refine R8 hb ?_
     exact rt
theorem lC(n:Nat)(I7:Int)(S1:(List Bs))(r:Bs×Int)(h:bO n I7 S1=some r):∀(st:St) (o0 o1:Nat) (hnd: [o0,o1].Nodup) (aG:Am.look st o0=some (.arr 0 1 0 [[.int .i64 I7]])) (lT:Am.look st o1=some (.arr 0 1 0 [[.sl false 1 16 (rows w8 S1)]])),Am.Spec Tryd.prog gl 63 [.ptr o0 0 0 0,.ptr o1 0 0 0] st (fun d st'=>d= .str r.1∧st'=puts st [(o0,(.arr 0 1 0 [[.int .i64 r.2]])),(o1,(.arr 0 1 0 [[.sl false 1 16 (rows w8 S1)]]))]):=by
 intro st o0 o1 hnd aG lT
 unfold bO at h
 have ho0:=J2 aG
 have ho1:=J2 lT
 have fx:=fa (fa (idf ho0) (idf ho1)) (nd2 hnd)
 refine fb 14 [.tmp 2] [0,1,2,3,12] Tryd.func63 fun hsc=>?_
 refine dG (s':=(F2 st [(o0,(.arr 0 1 0 [[.int .i64 I7]])),(o1,(.arr 0 1 0 [[.sl false 1 16 (rows w8 S1)]]))])) (D7 (by simp[aG,lT])) ?_
 refine rn ?_
 refine B7 (body:=X1 S1) (kk:=cO) (n:=n) (s0:=I7)
  (fun(gs0:Unit) (s0:Int)=>[(0,.ptr o0 0 0 0),(1,.ptr o1 0 0 0)])
  (fun(gs0:Unit) (s0:Int)=>(F2 st [(o0,(.arr 0 1 0 [[.int .i64 s0]])),(o1,(.arr 0 1 0 [[.sl false 1 16 (rows w8 S1)]]))]))
  (fun(gt0:Unit) (t0:Unit)=>[])
  (fun(gt0:Unit) (t0:Unit)=>(F2 st [(o0,(.arr 0 1 0 [[.int .i64 I7]])),(o1,(.arr 0 1 0 [[.sl false 1 16 (rows w8 S1)]]))]))
  () h (zB hsc)
  (fun gs0 s0 b0 h hx0=>?_) (fun gt0 t0 fr1 st1 h hb=>?_)
 ·unfold X1 at h
  refine cl h (Dp _) fun v4 h=>?_
  obtain⟨fx,h⟩:=ck fx h
  refine cl h (x7 _ _) fun v6 h=>?_
  refine cd h (fun hc h=>?_) fun hc h=>?_
  ·refine ra ?_
   cases h
   refine Y9 ?_;have h:=congrArg some (hx0 _ rfl)
   refine rr ?_
   exact fus (.str (qj [118] v4)) (.same _) h hsc
  ·refine rn ?_
   cases h
   exact F7 () (zB hsc)
 ·try simp only[go_sem,fx]
  unfold cO at h
  cases h
theorem kM:∀(n:Nat) (a0:u5) (a1:(List x6)) (I7:Int) (S1:(List Bs)) (r:u5×Int) (h:I9 n a0 a1 I7 S1=some r),∀(st:St) (o0 o1:Nat) (hnd: [o0,o1].Nodup) (aG:Am.look st o0=some (.arr 0 1 0 [[.int .i64 I7]])) (lT:Am.look st o1=some (.arr 0 1 0 [[.sl false 1 16 (rows w8 S1)]])),Am.Spec Tryd.prog gl 65 [.agg [.int .i64 a0.kind,.str a0.name,.sl false 1 16 (rows w8 a0.words),.sl false 4 72 (rows u5.cells a0.subs)],.sl false 2 32 (rows x6.cells a1),.fn 63 [] [.ptr o0 0 0 0,.ptr o1 0 0 0]] st (fun d st'=>d= .agg [.int .i64 r.1.kind,.str r.1.name,.sl false 1 16 (rows w8 r.1.words),.sl false 4 72 (rows u5.cells r.1.subs)]∧st'=puts st [(o0,(.arr 0 1 0 [[.int .i64 r.2]])),(o1,(.arr 0 1 0 [[.sl false 1 16 (rows w8 S1)]]))]):=by
 intro n
 induction n with
 |zero=>intro a0 a1 I7 S1 r h;cases h
 |succ n ih=>
  intro a0 a1 I7 S1 r h st o0 o1 hnd aG lT
  unfold I9 at h
  have ho0:=J2 aG
  have ho1:=J2 lT
  have fx:=fa (fa (idf ho0) (idf ho1)) (nd2 hnd)
  refine fb 87 [.cell 6 25] [0,1,2,3,6,7,9,10,12,19,20,21,22,29,38,52,70,71,72,73] Tryd.func65 fun hsc=>?_
  refine dG (s':=(F2 st [(o0,(.arr 0 1 0 [[.int .i64 I7]])),(o1,(.arr 0 1 0 [[.sl false 1 16 (rows w8 S1)]]))])) (D7 (by simp[aG,lT])) ?_
  refine r0 ?_
  refine r0 ?_
  refine r0 ?_
  (repeat apply sq_)
  refine ep 1 16 ?_
  try simp only[List.append_assoc,List.cons_append,List.nil_append]
  refine R8 (F:=[(1,.sl false 2 32 (rows x6.cells a1)),(2,.fn 63 [] [.ptr o0 0 0 0,.ptr o1 0 0 0]),(3,.ptr st.length 0 0 0),(6,.ptr (st.length+1) 0 0 0),(7,.ptr (st.length+2) 0 0 0),(19,.sl false 1 16 (rows w8 a0.words)),(20,.int .i64 (↑a0.words.length:Int)),(21,.int .i64 0)]) (T:=(F2 st [(o0,(.arr 0 1 0 [[.int .i64 I7]])),(o1,(.arr 0 1 0 [[.sl false 1 16 (rows w8 S1)]]))])++[some (.arr 0 4 0 [[.int .i64 a0.kind,.str a0.name,.sl false 1 16 (rows w8 a0.words),.sl false 4 72 (rows u5.cells a0.subs)]]),some (.arr 0 4 0 [[.int .i64 0,.str [],.y6,.y6]]),some (.arr 0 4 0 [[.int .i64 a0.kind,.str a0.name,.ref false (st.length+3) 0 0 0,.y6]]),some (.arr 0 1 16 (rows w8 []))]) (jG (by simp) (aZ hsc (by simp<;>omega)) (.lv (.lv (.live _ _ _ _ (.arr _ _ _ _ _ (.cons _ _ _ _ (.cons _ _ _ _ .s (.cons _ _ _ _ .s (.cons _ _ _ _ (.nref _ _ _ _ _ _ (T2.trans rfl)) (.cons _ _ _ _ .s .nil)))) (.same _))) (.lv (.nil _))))) (by simp<;>omega) ⟨.s,.s,.s,.s,.s,.s,.s,.s,trivial⟩ (by simp<;>omega)) ?_
  refine aln 19 fun hl0=>?_
  refine rng (body:=Z6 n a1 a0) (kk:=ah (I9 n) n a0 I7 S1 a1) (n:=a0.words.length) (s0:=[])
   (fun(gs0:Nat) (k0:Nat) (s0:(List Bs))=>[(1,.sl false 2 32 (rows x6.cells a1)),(2,.fn 63 [] [.ptr o0 0 0 0,.ptr o1 0 0 0]),(3,.ptr st.length 0 0 0),(6,.ptr (st.length+1) 0 0 0),(7,.ptr (st.length+2) 0 0 0),(19,.sl false 1 16 (rows w8 a0.words)),(20,.int .i64 (↑a0.words.length:Int)),(21,.int .i64 (↑k0:Int))])
   (fun(gs0:Nat) (k0:Nat) (s0:(List Bs))=>(F2 st [(o0,(.arr 0 1 0 [[.int .i64 I7]])),(o1,(.arr 0 1 0 [[.sl false 1 16 (rows w8 S1)]]))])++[some (.arr 0 4 0 [[.int .i64 a0.kind,.str a0.name,.sl false 1 16 (rows w8 a0.words),.sl false 4 72 (rows u5.cells a0.subs)]]),some (.arr 0 4 0 [[.int .i64 0,.str [],.y6,.y6]]),some (.arr 0 4 0 [[.int .i64 a0.kind,.str a0.name,.ref false (st.length+3) gs0 0 s0.length,.y6]]),some (.arr gs0 1 16 (rows w8 s0))])
   (fun(gt0:Nat) (t0:(List Bs))=>[(1,.sl false 2 32 (rows x6.cells a1)),(2,.fn 63 [] [.ptr o0 0 0 0,.ptr o1 0 0 0]),(3,.ptr st.length 0 0 0),(6,.ptr (st.length+1) 0 0 0),(7,.ptr (st.length+2) 0 0 0)])
   (fun(gt0:Nat) (t0:(List Bs))=>(F2 st [(o0,(.arr 0 1 0 [[.int .i64 I7]])),(o1,(.arr 0 1 0 [[.sl false 1 16 (rows w8 S1)]]))])++[some (.arr 0 4 0 [[.int .i64 a0.kind,.str a0.name,.sl false 1 16 (rows w8 a0.words),.sl false 4 72 (rows u5.cells a0.subs)]]),some (.arr 0 4 0 [[.int .i64 0,.str [],.y6,.y6]]),some (.arr 0 4 0 [[.int .i64 a0.kind,.str a0.name,.ref false (st.length+3) gt0 0 t0.length,.y6]]),some (.arr gt0 1 16 (rows w8 t0))])
   0 fx hl0 h (bu hsc)
   (fun gs0 k0 s0 b0 fx h hx0=>?_) (fun gs0 s0=>?_) (fun gt0 t0 fr1 st1 h hb=>?_)
  ·unfold Z6 at h
   refine ct ?_
   refine rn ?_
   refine B7 (body:=V1 a1 a0 k0) (kk:=Z7 s0) (n:=n) (s0:=(wr .i64 ((↑a1.length:Int)-1)))
    (fun(gs2:Unit) (s2:Int)=>[(1,.sl false 2 32 (rows x6.cells a1)),(2,.fn 63 [] [.ptr o0 0 0 0,.ptr o1 0 0 0]),(3,.ptr st.length 0 0 0),(6,.ptr (st.length+1) 0 0 0),(7,.ptr (st.length+2) 0 0 0),(9,.str (get a0.words k0)),(10,.int .i64 s2),(19,.sl false 1 16 (rows w8 a0.words)),(20,.int .i64 (↑a0.words.length:Int)),(21,.int .i64 (↑k0:Int))])
    (fun(gs2:Unit) (s2:Int)=>(F2 st [(o0,(.arr 0 1 0 [[.int .i64 I7]])),(o1,(.arr 0 1 0 [[.sl false 1 16 (rows w8 S1)]]))])++[some (.arr 0 4 0 [[.int .i64 a0.kind,.str a0.name,.sl false 1 16 (rows w8 a0.words),.sl false 4 72 (rows u5.cells a0.subs)]]),some (.arr 0 4 0 [[.int .i64 0,.str [],.y6,.y6]]),some (.arr 0 4 0 [[.int .i64 a0.kind,.str a0.name,.ref false (st.length+3) gs0 0 s0.length,.y6]]),some (.arr gs0 1 16 (rows w8 s0))])
    (fun(gt2:Unit) (t2:Bs)=>[(1,.sl false 2 32 (rows x6.cells a1)),(2,.fn 63 [] [.ptr o0 0 0 0,.ptr o1 0 0 0]),(3,.ptr st.length 0 0 0),(6,.ptr (st.length+1) 0 0 0),(7,.ptr (st.length+2) 0 0 0),(9,.str t2),(19,.sl false 1 16 (rows w8 a0.words)),(20,.int .i64 (↑a0.words.length:Int)),(21,.int .i64 (↑k0:Int))])
    (fun(gt2:Unit) (t2:Bs)=>(F2 st [(o0,(.arr 0 1 0 [[.int .i64 I7]])),(o1,(.arr 0 1 0 [[.sl false 1 16 (rows w8 S1)]]))])++[some (.arr 0 4 0 [[.int .i64 a0.kind,.str a0.name,.sl false 1 16 (rows w8 a0.words),.sl false 4 72 (rows u5.cells a0.subs)]]),some (.arr 0 4 0 [[.int .i64 0,.str [],.y6,.y6]]),some (.arr 0 4 0 [[.int .i64 a0.kind,.str a0.name,.ref false (st.length+3) gs0 0 s0.length,.y6]]),some (.arr gs0 1 16 (rows w8 s0))])
    () h (bu hsc)
    (fun gs2 s2 b2 h hx2=>?_) (fun gt2 t2 fr1 st1 h hb=>?_)
   ·unfold V1 at h
    refine cd h (fun hc h=>?_) fun hc h=>?_
    ·obtain⟨fx,h⟩:=ck fx h
     refine cd h (fun hc h=>?_) fun hc h=>?_
     ·refine rn ?_
      cases h
      exact J1 () (bu hsc)
     ·refine rn ?_
      cases h
      exact F7 () (bu hsc)
    ·refine rn ?_
     cases h
     exact J1 () (bu hsc)
   ·try simp only[go_sem,fx]
    unfold Z7 at h
    refine R8 hb ?_
    obtain⟨c16,Jj,h⟩:=iA h
    have fy:=(show rows w8 s0++[[.str t2]]=rows w8 c16 from by rw[Jj];first|exact D8 (E:=w8) s0 [t2]|simp only[go_sem,rows,List.map_append,List.map_cons,List.map_nil])
    have fy:=fa fy (show s0.length+1=c16.length from by rw[Jj];simp)
    obtain⟨fx,h⟩:=ck fx h
    refine r1 ?_
    refine rn ?_
    cases h
    exact gL (gs0+1) (bu hsc)
  ·refine cf ?_
   refine gy ?_;simp only[go_sem,fx]
   exact⟨gs0,(bu hsc)⟩
  ·try simp only[go_sem,fx]
   unfold ah at h
   refine R8 hb ?_
   refine cl h (J7 _) fun v21 h=>?_
   refine rn ?_
   refine bB (P9 (I9 n) a0 S1 t0) r (fun(gj3:Unit) (j3:Int×Bs×(List x6))=>[(1,.sl false 2 32 (rows x6.cells j3.2.2)),(2,.fn 63 [] [.ptr o0 0 0 0,.ptr o1 0 0 0]),(3,.ptr st.length 0 0 0),(6,.ptr (st.length+1) 0 0 0),(7,.ptr (st.length+2) 0 0 0)]) (fun(gj3:Unit) (j3:Int×Bs×(List x6))=>(F2 st [(o0,(.arr 0 1 0 [[.int .i64 j3.1]])),(o1,(.arr 0 1 0 [[.sl false 1 16 (rows w8 S1)]]))])++[some (.arr 0 4 0 [[.int .i64 a0.kind,.str a0.name,.sl false 1 16 (rows w8 a0.words),.sl false 4 72 (rows u5.cells a0.subs)]]),some (.arr 0 4 0 [[.int .i64 0,.str [],.y6,.y6]]),some (.arr 0 4 0 [[.int .i64 a0.kind,.str j3.2.1,.ref false (st.length+3) gt0 0 t0.length,.y6]]),some (.arr gt0 1 16 (rows w8 t0))]) (fun gj3 j3 fr1 st1 h hb=>?_) (fun hj3=>?_)
   ·try simp only[go_sem,fx]
    unfold P9 at h
    refine R8 hb ?_
    refine r0 ?_
    (repeat apply sq_)
    refine ep 4 72 ?_
    try simp only[List.append_assoc,List.cons_append,List.nil_append]
    refine R8 (F:=[(1,.sl false 2 32 (rows x6.cells j3.2.2)),(2,.fn 63 [] [.ptr o0 0 0 0,.ptr o1 0 0 0]),(6,.ptr (st.length+1) 0 0 0),(7,.ptr (st.length+2) 0 0 0),(70,.sl false 4 72 (rows u5.cells a0.subs)),(71,.int .i64 (↑a0.subs.length:Int)),(72,.int .i64 0)]) (T:=(F2 st [(o0,(.arr 0 1 0 [[.int .i64 j3.1]])),(o1,(.arr 0 1 0 [[.sl false 1 16 (rows w8 S1)]]))])++[some (.arr 0 4 0 [[.int .i64 a0.kind,.str a0.name,.sl false 1 16 (rows w8 a0.words),.sl false 4 72 (rows u5.cells a0.subs)]]),some (.arr 0 4 0 [[.int .i64 0,.str [],.y6,.y6]]),some (.arr 0 4 0 [[.int .i64 a0.kind,.str j3.2.1,.ref false (st.length+3) gt0 0 t0.length,.ref false (st.length+4) 0 0 0]]),some (.arr gt0 1 16 (rows w8 t0)),some (.arr 0 4 72 (rows u5.cells []))]) (jG (by simp) (aZ hsc (by simp<;>omega)) (.lv (.lv (.live _ _ _ _ (.arr _ _ _ _ _ (.cons _ _ _ _ (.cons _ _ _ _ .s (.cons _ _ _ _ .s (.cons _ _ _ _ .s (.cons _ _ _ _ (.nref _ _ _ _ _ _ (T2.trans rfl)) .nil)))) (.same _))) (.lv (.lv (.nil _)))))) (by simp<;>omega) ⟨.s,.s,.s,.s,.s,.s,.s,trivial⟩ (by simp<;>omega)) ?_
    refine aln 70 fun hl4=>?_
    refine rng (body:=Z8 (I9 n) a0 j3 S1) (kk:=Z9 a0 j3 t0) (n:=a0.subs.length) (s0:=(j3.1,[]))
     (fun(gs4:Nat) (k4:Nat) (s4:Int×(List u5))=>[(1,.sl false 2 32 (rows x6.cells j3.2.2)),(2,.fn 63 [] [.ptr o0 0 0 0,.ptr o1 0 0 0]),(6,.ptr (st.length+1) 0 0 0),(7,.ptr (st.length+2) 0 0 0),(70,.sl false 4 72 (rows u5.cells a0.subs)),(71,.int .i64 (↑a0.subs.length:Int)),(72,.int .i64 (↑k4:Int))])
     (fun(gs4:Nat) (k4:Nat) (s4:Int×(List u5))=>(F2 st [(o0,(.arr 0 1 0 [[.int .i64 s4.1]])),(o1,(.arr 0 1 0 [[.sl false 1 16 (rows w8 S1)]]))])++[none,some (.arr 0 4 0 [[.int .i64 0,.str [],.y6,.y6]]),some (.arr 0 4 0 [[.int .i64 a0.kind,.str j3.2.1,.ref false (st.length+3) gt0 0 t0.length,.ref false (st.length+4) gs4 0 s4.2.length]]),some (.arr gt0 1 16 (rows w8 t0)),some (.arr gs4 4 72 (rows u5.cells s4.2))])
     (fun(gt4:Nat) (t4:Int×(List u5))=>[(6,.ptr (st.length+1) 0 0 0),(7,.ptr (st.length+2) 0 0 0)])
     (fun(gt4:Nat) (t4:Int×(List u5))=>(F2 st [(o0,(.arr 0 1 0 [[.int .i64 t4.1]])),(o1,(.arr 0 1 0 [[.sl false 1 16 (rows w8 S1)]]))])++[none,some (.arr 0 4 0 [[.int .i64 0,.str [],.y6,.y6]]),some (.arr 0 4 0 [[.int .i64 a0.kind,.str j3.2.1,.ref false (st.length+3) gt0 0 t0.length,.ref false (st.length+4) gt4 0 t4.2.length]]),some (.arr gt0 1 16 (rows w8 t0)),some (.arr gt4 4 72 (rows u5.cells t4.2))])
     0 fx hl4 h (bu hsc)
     (fun gs4 k4 s4 b4 fx h hx4=>?_) (fun gs4 s4=>?_) (fun gt4 t4 fr1 st1 h hb=>?_)
    ·unfold Z8 at h
     refine ct ?_
     refine rn ?_
     refine dw [1,5] 2 ?_
     obtain⟨v38,hv38,h⟩:=Y8 h
     refine oE [o0,o1] (fun st2 h2=>(ih _ _ _ _ _ hv38 st2 _ _ hnd ((h2 _ (by simp)).trans (by simp only[go_sem,fx])) ((h2 _ (by simp)).trans (by simp only[go_sem,fx])))) (by simp) (by simp only[List.mem_cons,List.not_mem_nil,or_false,forall_eq_or_imp,forall_eq];exact⟨⟨by first|omega|(simp<;>omega),_,(by simp only[go_sem,fx]<;>rfl),Ob.noConfusion⟩,⟨by first|omega|(simp<;>omega),_,(by simp only[go_sem,fx]<;>rfl),Ob.noConfusion⟩⟩) (by simp) ?_
     obtain⟨c40,FU,h⟩:=iA h
     have fy:=(show rows u5.cells s4.2++[[.int .i64 v38.1.kind,.str v38.1.name,.sl false 1 16 (rows w8 v38.1.words),.sl false 4 72 (rows u5.cells v38.1.subs)]]=rows u5.cells c40 from by rw[FU];first|exact D8 (E:=u5.cells) s4.2 [v38.1]|simp only[go_sem,rows,List.map_append,List.map_cons,List.map_nil])
     have fy:=fa fy (show s4.2.length+1=c40.length from by rw[FU];simp)
     obtain⟨fx,h⟩:=ck fx h
     try simp only[go_sem,fx,fy]
     try refine⟨by first|omega|(simp<;>omega),?_⟩
     refine rn ?_
     cases h
     exact gL (gs4+1) (bu hsc)
    ·refine cf ?_
     refine gy ?_;simp only[go_sem,fx]
     exact⟨gs4,(bu hsc)⟩
    ·try simp only[go_sem,fx]
     unfold Z9 at h
     refine R8 hb ?_
     refine rr ?_
     exact fuo (.agg [.int .i64 a0.kind,.str j3.2.1,.sl false 1 16 (rows w8 t0),.sl false 4 72 (rows u5.cells t4.2)]) (.agg _ _ (.cons _ _ _ _ .s (.cons _ _ _ _ .s (.cons _ _ _ _ (.ref _ _ _ _ _ _ _ _ _ (T2.trans rfl) mZ (by decide) (mW _) (by simp only[go_sem])) (.cons _ _ _ _ (.ref _ _ _ _ _ _ _ _ _ (T2.trans rfl) mZ (by decide) (mW _) (by simp only[go_sem])) .nil))))) h hsc
   ·refine cd h (fun hc h=>?_) fun hc h=>?_
    ·refine rn ?_
     obtain⟨v22,hv22,h⟩:=Y8 h
     refine(lC n _ _ _ hv22 _ _ _ hnd (by simp only[go_sem,fx]) (by simp only[go_sem,fx])).mono ?_
     rintro d1 st1 ⟨rfl,rfl⟩
     refine rn ?_
     obtain⟨fx,h⟩:=ck fx h
     obtain⟨c26,FV,h⟩:=iA h
     have fy:=(show rows x6.cells a1++[[.str a0.name,.str v22.1]]=rows x6.cells c26 from by rw[FV];first|exact D8 (E:=x6.cells) a1 [(x6.mk a0.name v22.1)]|simp only[go_sem,rows,List.map_append,List.map_cons,List.map_nil])
     have fy:=fa fy (show a1.length+1=c26.length from by rw[FV];simp)
     obtain⟨fx,h⟩:=ck fx h
     refine dwy [] 2 ?_
     refine hj3 () _ _ _ h ?_;exact(bu hsc (hf:=⟨.ref _ _ _ _ _ _ _ _ _ (T2.trans rfl) (dr (by first|decide|simp)) (by decide) (mW _) (by simp only[go_sem]),.s,.s,.s,.s,trivial⟩))
    ·refine r0 ?_
     refine hj3 () _ _ _ h ?_;exact(bu hsc)
end Go.Proofs.YtdjnbjnlnjhllaaDoor
