import Derived.Test.YtdjnbjnlnjhllaaGreatDoorFMWalk0
set_option linter.unusedVariables false
set_option linter.unusedSimpArgs false
set_option maxHeartbeats 2000000
set_option maxRecDepth 100000
namespace Go.Proofs.YtdjnbjnlnjhllaaGreatDoor
open Go Go.Am
theorem p7D{l r:(List Bs)}(h:p0G l=some r):r.length=l.length:=by
 unfold p0G at h
 obtain⟨_,h⟩:=u6b h
 obtain rfl:=Option.some.inj h
 exact(p8q _ _).length_eq
set_option maxRecDepth 100000 in
theorem p7Y(l0:(List Bs))(r:(List Bs))(h:p0G l0=some r):∀(st:St) (o0 q0:Nat) (hnd: [o0].Nodup) (p4J:Am.look st o0=some (.arr q0 1 16 (rows i8K l0))),Am.Spec Tryz.prog gl 67 [.ref false o0 q0 0 l0.length] st (fun d st'=>d= .tup []∧st'=puts st [(o0,(.arr q0 1 16 (rows i8K r)))]):=by
 intro st o0 q0 hnd p4J
 unfold p0G at h
 obtain⟨hl,h⟩:=u6b h
 obtain rfl:=Option.some.inj h
 rw[←u3h]
 exact r6b u5I (by kernel_rfl) p4J hl
set_option maxRecDepth 100000 in
theorem p7a(l0:(List Bs))(r:(List Bs))(h:p1P l0=some r):∀(st:St) (o0 q0:Nat) (hnd: [o0].Nodup) (p4J:Am.look st o0=some (.arr q0 1 16 (rows i8K l0))),Am.Spec Tryz.prog gl 68 [.ref false o0 q0 0 l0.length] st (fun d st'=>d= .ref false o0 q0 0 (Lib.compact l0).length∧st'=puts st [(o0,.arr q0 1 16 (rows i8K (cpt l0)))]):=by
 intro st o0 q0 hnd p4J
 unfold p1P at h
 obtain⟨hl,h⟩:=u6b h
 exact r3m u5J (by kernel_rfl) p4J hl
theorem p7u(n:Nat)(a0:i8F)(r:(List Bs))(h:p3C n a0=some r):Pure Tryz.prog gl 49 [.agg [.int .i64 a0.kind,.str a0.name,.sl false 1 16 (rows i8K a0.words),.sl false 4 72 (rows i8F.cells a0.subs)]] (.sl false 1 16 (rows i8K r)):=by
 intro st
 unfold p3C at h
 have fx:=trivial
 refine fb 13 [.tmp 2] [0,1,2,3,4] Tryz.func49 fun hsc=>?_
 refine r0 ?_
 refine r0 ?_
 refine r0 ?_
 refine r0 ?_
 (repeat apply sq_)
 refine p4S 1 16 ?_
 try simp only[List.append_assoc,List.cons_append,List.nil_append]
 refine p0E (F:=[(1,.ptr st.length 0 0 0),(3,.ptr (st.length+1) 0 0 0),(4,.ptr (st.length+2) 0 0 0)]) (T:=st++[some (.arr 0 4 0 [[.int .i64 a0.kind,.str a0.name,.sl false 1 16 (rows i8K a0.words),.sl false 4 72 (rows i8F.cells a0.subs)]]),some (.arr 0 1 0 [[.ref false (st.length+3) 0 0 0]]),some (.arr 0 1 0 [[.fn 66 [] [.ptr (st.length+1) 0 0 0,.ptr (st.length+2) 0 0 0]]]),some (.arr 0 1 16 (rows i8K []))]) (r5T hsc (.lv (.live _ _ _ _ (.arr _ _ _ _ _ (.cons _ _ _ _ (.cons _ _ _ _ (.nref _ _ _ _ _ _ (r0c.trans rfl)) .nil) (.same _))) (.lv (.lv (.nil _))))) (by simp) ⟨.s,.s,.s,trivial⟩ (by simp)) ?_
 refine rn ?_
 obtain⟨v1,hv1,h⟩:=p3S h
 refine((p9R n _ _ _ _ hv1 _ _ _ _ 0 (by simp) (r1p.trans rfl) (r1p.trans rfl) (r1p.trans rfl)).up (.cons _ _ _ _ .s (.cons _ _ _ _ (.i8S _ _ _ (by decide)) (.cons _ _ _ _ .s (.cons _ _ _ _ .s .nil)))) (by simp<;>omega)).mono ?_
 rintro d1 st1 ⟨g2,rfl,rfl⟩
 refine rn ?_
 obtain⟨v3,hv3,h⟩:=p3S h
 refine(p7Y _ _ hv3 _ _ g2 (by simp) (r1p.trans rfl)).mono ?_
 rintro d1 st1 ⟨rfl,rfl⟩
 try simp only[go_sem,fx]
 have e4:D.ref false (st.length+3) g2 0 v1.length=D.ref false (st.length+3) g2 0 v3.length:=by rw[p7D hv3]
 try simp only[e4]
 refine rn ?_
 obtain⟨v5,hv5,h⟩:=p3S h
 refine(p7a _ _ hv5 _ _ g2 (by simp) (r1p.trans rfl)).mono ?_
 rintro d1 st1 ⟨rfl,rfl⟩
 refine rr ?_
 exact fo (.sl false 1 16 (rows i8K (Lib.compact v3))) (.ref _ _ _ _ _ _ _ _ _ (r0c.trans rfl) r7l (by decide) (p9b _) (u3f _).symm) h hsc
theorem r2k:∀(n:Nat) (a0:i8F) (a1:Bs) (r:Bool×Bool) (h:p1Q n a0 a1=some r),Pure Tryz.prog gl 50 [.agg [.int .i64 a0.kind,.str a0.name,.sl false 1 16 (rows i8K a0.words),.sl false 4 72 (rows i8F.cells a0.subs)],.str a1] (.tup [.bool r.1,.bool r.2]):=by
 intro n
 induction n with
 |zero=>intro a0 a1 r h;cases h
 |succ n ih=>
  intro a0 a1 r h st
  unfold p1Q at h
  have fx:=trivial
  refine fb 51 [.tmp 4,.tmp 5] [0,1,2,4,5,7,8,9,14,15,16,17,18,28,29,30,31,42,46] Tryz.func50 fun hsc=>?_
  refine rn ?_
  refine p4c (p3D (p1Q n) a0 a1) r (fun(gj0:Unit) (j0:Bool×Bool)=>[(1,.str a1),(2,.ptr st.length 0 0 0),(4,.bool j0.1),(5,.bool j0.2)]) (fun(gj0:Unit) (j0:Bool×Bool)=>st++[some (.arr 0 4 0 [[.int .i64 a0.kind,.str a0.name,.sl false 1 16 (rows i8K a0.words),.sl false 4 72 (rows i8F.cells a0.subs)]])]) (fun gj0 j0 fr1 st1 h hb=>?_) (fun hj0=>?_)
  ·try simp only[go_sem,fx]
   unfold p3D at h
   refine p0E hb ?_
   refine aln 28 fun hl1=>?_
   refine rng (body:=p5y (p1Q n) a0 a1) (kk:=p5z) (n:=a0.subs.length) (s0:=(j0.1,j0.2))
    (fun(gs1:Unit) (k1:Nat) (s1:Bool×Bool)=>[(1,.str a1),(4,.bool s1.1),(5,.bool s1.2),(28,.sl false 4 72 (rows i8F.cells a0.subs)),(29,.int .i64 (↑a0.subs.length:Int)),(30,.int .i64 (↑k1:Int))])
    (fun(gs1:Unit) (k1:Nat) (s1:Bool×Bool)=>st)
    (fun(gt1:Unit) (t1:Bool×Bool)=>[(4,.bool t1.1),(5,.bool t1.2)])
    (fun(gt1:Unit) (t1:Bool×Bool)=>st)
    () fx hl1 h (bm0 hsc)
    (fun gs1 k1 s1 b1 fx h hx1=>?_) (fun gs1 s1=>?_) (fun gt1 t1 fr1 st1 h hb=>?_)
   ·unfold p5y at h
    refine ct ?_
    refine cl h (ih _ _) fun v2 h=>?_
    refine rn ?_
    cases h
    exact p7A () (bm0 hsc)
   ·refine cf ?_
    refine p7n ?_;simp only[go_sem,fx]
    exact⟨(),(p7g hsc)⟩
   ·try simp only[go_sem,fx]
    unfold p5z at h
    refine p0E hb ?_
    exact rt
  ·refine cd h (fun hc h=>?_) fun hc h=>?_
   ·refine rs ?_
    refine dw [] 0 ?_
    refine hj0 () _ _ _ h ?_;exact(bm hsc)
   ·refine r0 ?_
    refine hj0 () _ _ _ h ?_;exact(bm hsc)
theorem p4z:∀(n:Nat) (a0:i8F) (r:(List Bs)) (h:i9a n a0=some r),Pure Tryz.prog gl 36 [.agg [.int .i64 a0.kind,.str a0.name,.sl false 1 16 (rows i8K a0.words),.sl false 4 72 (rows i8F.cells a0.subs)]] (.sl false 1 16 (rows i8K r)):=by
 intro n
 induction n with
 |zero=>intro a0 r h;cases h
 |succ n ih=>
  intro a0 r h st
  unfold i9a at h
  have fx:=trivial
  refine fb 26 [.tmp 2] [0,1,2,3,5,7,14,15,16,17] Tryz.func36 fun hsc=>?_
  refine cl h (p1u _) fun v1 h=>?_
  try simp only[go_sem,fx]
  (repeat apply sq_)
  refine p4S 1 16 ?_
  try simp only[List.append_assoc,List.cons_append,List.nil_append]
  refine p0E (F:=[(1,.ptr st.length 0 0 0),(3,.ref false (st.length+1) 0 0 0),(7,.bool v1)]) (T:=st++[some (.arr 0 4 0 [[.int .i64 a0.kind,.str a0.name,.sl false 1 16 (rows i8K a0.words),.sl false 4 72 (rows i8F.cells a0.subs)]]),some (.arr 0 1 16 (rows i8K []))]) (r5T hsc (.lv (.lv (.nil _))) (by simp) ⟨.s,.nref _ _ _ _ _ _ (r0c.trans rfl),.s,trivial⟩ (by simp)) ?_
  (repeat apply sq_)
  refine p4c (p0v (i9a n) a0) r (fun(gj0:Nat) (j0:(List Bs))=>[(1,.ptr st.length 0 0 0),(3,.ref false (st.length+1) gj0 0 j0.length)]) (fun(gj0:Nat) (j0:(List Bs))=>st++[some (.arr 0 4 0 [[.int .i64 a0.kind,.str a0.name,.sl false 1 16 (rows i8K a0.words),.sl false 4 72 (rows i8F.cells a0.subs)]]),some (.arr gj0 1 16 (rows i8K j0))]) (fun gj0 j0 fr1 st1 h hb=>?_) (fun hj0=>?_)
  ·try simp only[go_sem,fx]
   unfold p0v at h
   refine p0E hb ?_
   refine aln 14 fun hl1=>?_
   refine rng (body:=p2Q (i9a n) a0) (kk:=p2R) (n:=a0.subs.length) (s0:=j0)
    (fun(gs1:Nat) (k1:Nat) (s1:(List Bs))=>[(3,.ref false (st.length+1) gs1 0 s1.length),(14,.sl false 4 72 (rows i8F.cells a0.subs)),(15,.int .i64 (↑a0.subs.length:Int)),(16,.int .i64 (↑k1:Int))])
    (fun(gs1:Nat) (k1:Nat) (s1:(List Bs))=>st++[none,some (.arr gs1 1 16 (rows i8K s1))])
    (fun(gt1:Nat) (t1:(List Bs))=>[(3,.ref false (st.length+1) gt1 0 t1.length)])
    (fun(gt1:Nat) (t1:(List Bs))=>st++[none,some (.arr gt1 1 16 (rows i8K t1))])
    gj0 fx hl1 h (bm hsc)
    (fun gs1 k1 s1 b1 fx h hx1=>?_) (fun gs1 s1=>?_) (fun gt1 t1 fr1 st1 h hb=>?_)
   ·unfold p2Q at h
    refine ct ?_
    refine r0 ?_
    refine r0 ?_
    refine r0 ?_
    refine cl h (ih _) fun v14 h=>?_
    obtain⟨c15,u7Z,h⟩:=p5L h
    have fy:=(show rows i8K s1++rows i8K v14=rows i8K c15 from by rw[u7Z];first|exact i9b (E:=i8K) s1 v14|simp only[go_sem,rows,List.map_append,List.map_cons,List.map_nil])
    have fy:=fa fy (show s1.length+v14.length=c15.length from by rw[u7Z];simp)
    obtain⟨fx,h⟩:=ck fx h
    try simp only[go_sem,fx,fy]
    refine rn ?_
    cases h
    exact p7A (gs1+1) (bm hsc)
   ·refine cf ?_
    refine p7n ?_;simp only[go_sem,fx]
    exact⟨gs1,(bm hsc)⟩
   ·try simp only[go_sem,fx]
    unfold p2R at h
    refine p0E hb ?_
    refine rr ?_
    exact fo (.sl false 1 16 (rows i8K t1)) (.ref _ _ _ _ _ _ _ _ _ (r0c.trans rfl) r7l (by decide) (p9b _) (by simp only[go_sem])) h hsc
  ·refine cd h (fun hc h=>?_) fun hc h=>?_
   ·obtain⟨c3,hc3,h⟩:=p5L h
    obtain⟨fx,h⟩:=ck fx h
    refine r0 ?_
    have e6:D.ref false (st.length+1) 1 0 1=D.ref false (st.length+1) 1 0 c3.length:=by simp[hc3]
    have e7: [[.str a0.name]]=rows i8K c3:=by rw[hc3];first|rfl|simp only[go_sem,rows,List.nil_append,List.map_append,List.map_cons,List.map_nil]
    try simp only[e6,e7]
    refine hj0 1 _ _ _ h ?_;exact(bm hsc)
   ·refine r0 ?_
    refine hj0 0 _ _ _ h ?_;exact(bm hsc)
theorem p6T(n:Nat)(a0:i8I)(r:i8N)(h:p2Y n a0=some r):Pure Tryz.prog gl 24 [.agg [.int .i64 a0.form.kind,.str a0.form.name,.sl false 1 16 (rows i8K a0.form.words),.sl false 4 72 (rows i8F.cells a0.form.subs),.sl false 1 16 (rows i8K a0.words),.sl false 1 16 (rows i8K a0.i8M),.sl false 1 16 (rows i8K a0.parts)]] (.agg [.int .i64 r.code,.int .i64 r.index]):=by
 intro st
 unfold p2Y at h
 have fx:=trivial
 refine fb 119 [.cell 2 31] [0,1,2,3,4,5,6,7,8,9,10,11,12,18,24,29,30,31,32,38,45,55,64,67,80,81,82,85,89,98,99,100,101,111,112,113,114,115] Tryz.func24 fun hsc=>?_
 refine cl h (p6c n _) fun v1 h=>?_
 refine cd h (fun hc h=>?_) fun hc h=>?_
 ·exact rt
 ·refine cl h (p6E _) fun v2 h=>?_
  refine cd h (fun hc h=>?_) fun hc h=>?_
  ·refine cl h (p1c _ _) fun v3 h=>?_
   exact rt
  ·refine cl h (p7u n _) fun v4 h=>?_
   refine aln 4 fun hl0=>?_
   refine rng (body:=p3Y n v2 a0 v4) (kk:=p3Z n a0) (n:=v2.length) (s0:=())
    (fun(gs0:Unit) (k0:Nat) (s0:Unit)=>[(1,.ptr st.length 0 0 0),(2,.ptr (st.length+1) 0 0 0),(4,.sl false 1 16 (rows i8K v2)),(5,.sl false 1 16 (rows i8K v4)),(29,.sl false 1 16 (rows i8K v2)),(30,.int .i64 (↑v2.length:Int)),(31,.int .i64 (↑k0:Int))])
    (fun(gs0:Unit) (k0:Nat) (s0:Unit)=>st++[some (.arr 0 7 0 [[.int .i64 a0.form.kind,.str a0.form.name,.sl false 1 16 (rows i8K a0.form.words),.sl false 4 72 (rows i8F.cells a0.form.subs),.sl false 1 16 (rows i8K a0.words),.sl false 1 16 (rows i8K a0.i8M),.sl false 1 16 (rows i8K a0.parts)]]),some (.arr 0 2 0 [[.int .i64 0,.int .i64 0]])])
    (fun(gt0:Unit) (t0:Unit)=>[(1,.ptr st.length 0 0 0),(2,.ptr (st.length+1) 0 0 0)])
    (fun(gt0:Unit) (t0:Unit)=>st++[some (.arr 0 7 0 [[.int .i64 a0.form.kind,.str a0.form.name,.sl false 1 16 (rows i8K a0.form.words),.sl false 4 72 (rows i8F.cells a0.form.subs),.sl false 1 16 (rows i8K a0.words),.sl false 1 16 (rows i8K a0.i8M),.sl false 1 16 (rows i8K a0.parts)]]),some (.arr 0 2 0 [[.int .i64 0,.int .i64 0]])])
    () fx hl0 h (bm hsc)
    (fun gs0 k0 s0 b0 fx h hx0=>?_) (fun gs0 s0=>?_) (fun gt0 t0 fr1 st1 h hb=>?_)
   ·unfold p3Y at h
    refine ct ?_
    refine cl h (r0w _) fun v17 h=>?_
    refine cd h (fun hc h=>?_) fun hc h=>?_
    ·refine cl h (p1c _ _) fun v18 h=>?_
     refine ra ?_
     cases h
     refine p4j ?_;have h:=congrArg some (hx0 _ rfl)
     exact rt
    ·obtain⟨fx,h⟩:=ck fx h
     refine cl h (i8Q _ _) fun v21 h=>?_
     refine cd h (fun hc h=>?_) fun hc h=>?_
     ·refine cl h (p1c _ _) fun v22 h=>?_
      refine ra ?_
      cases h
      refine p4j ?_;have h:=congrArg some (hx0 _ rfl)
      exact rt
     ·refine cl h (r2k n _ _) fun v23 h=>?_
      refine cd h (fun hc h=>?_) fun hc h=>?_
      ·refine cl h (i8Q _ _) fun v24 h=>?_
       refine cd h (fun hc h=>?_) fun hc h=>?_
       ·refine cl h (p1c _ _) fun v25 h=>?_
        refine ra ?_
        cases h
        refine p4j ?_;have h:=congrArg some (hx0 _ rfl)
        exact rt
       ·refine rn ?_
        cases h
        exact p7A () (bm hsc)
      ·refine cd h (fun hc h=>?_) fun hc h=>?_
       ·refine cd h (fun hc h=>?_) fun hc h=>?_
        ·refine cl h (p1c _ _) fun v26 h=>?_
         refine ra ?_
         cases h
         refine p4j ?_;have h:=congrArg some (hx0 _ rfl)
         exact rt
        ·refine rn ?_
         cases h
         exact p7A () (bm hsc)
       ·refine cd h (fun hc h=>?_) fun hc h=>?_
        ·refine cl h (p1c _ _) fun v27 h=>?_
         refine ra ?_
         cases h
         refine p4j ?_;have h:=congrArg some (hx0 _ rfl)
         exact rt
        ·refine cd h (fun hc h=>?_) fun hc h=>?_
         ·refine cl h (p1c _ _) fun v28 h=>?_
          refine ra ?_
          cases h
          refine p4j ?_;have h:=congrArg some (hx0 _ rfl)
          exact rt
         ·refine rn ?_
          cases h
          exact p7A () (bm hsc)
   ·refine cf ?_
    refine p7n ?_;simp only[go_sem,fx]
    exact⟨(),(bm hsc)⟩
   ·try simp only[go_sem,fx]
    unfold p3Z at h
    refine p0E hb ?_
    refine cl h (p4z n _) fun v29 h=>?_
    refine aln 10 fun hl1=>?_
    refine rng (body:=p4a v29 a0) (kk:=p4b) (n:=v29.length) (s0:=())
     (fun(gs1:Unit) (k1:Nat) (s1:Unit)=>[(1,.ptr st.length 0 0 0),(2,.ptr (st.length+1) 0 0 0),(10,.sl false 1 16 (rows i8K v29)),(98,.sl false 1 16 (rows i8K v29)),(99,.int .i64 (↑v29.length:Int)),(100,.int .i64 (↑k1:Int))])
     (fun(gs1:Unit) (k1:Nat) (s1:Unit)=>st++[some (.arr 0 7 0 [[.int .i64 a0.form.kind,.str a0.form.name,.sl false 1 16 (rows i8K a0.form.words),.sl false 4 72 (rows i8F.cells a0.form.subs),.sl false 1 16 (rows i8K a0.words),.sl false 1 16 (rows i8K a0.i8M),.sl false 1 16 (rows i8K a0.parts)]]),some (.arr 0 2 0 [[.int .i64 0,.int .i64 0]])])
     (fun(gt1:Unit) (t1:Unit)=>[(2,.ptr (st.length+1) 0 0 0)])
     (fun(gt1:Unit) (t1:Unit)=>st++[none,some (.arr 0 2 0 [[.int .i64 0,.int .i64 0]])])
     () fx hl1 h (bm hsc)
     (fun gs1 k1 s1 b1 fx h hx1=>?_) (fun gs1 s1=>?_) (fun gt1 t1 fr1 st1 h hb=>?_)
    ·unfold p4a at h
     refine ct ?_
     obtain⟨fx,h⟩:=ck fx h
     refine cl h (i8Q _ _) fun v37 h=>?_
     refine rn ?_
     obtain⟨v38,hv38,h⟩:=p3S h
     refine p6K (fun hG=>(i8Q _ _ _ (r4k hv38 (by simpa using hG)))) ?_
     refine cd h (fun hc h=>?_) fun hc h=>?_
     ·refine cl h (p1c _ _) fun v39 h=>?_
      refine ra ?_
      cases h
      refine p4j ?_;have h:=congrArg some (hx1 _ rfl)
      exact rt
     ·refine rn ?_
      cases h
      exact p7A () (bm hsc)
    ·refine cf ?_
     refine p7n ?_;simp only[go_sem,fx]
     exact⟨(),(bm hsc)⟩
    ·try simp only[go_sem,fx]
     unfold p4b at h
     refine p0E hb ?_
     exact rt
theorem r2l(n:Nat)(p0s:Int)(p3x:(List Bs))(r:Bs×Int)(h:p5Z n p0s p3x=some r):∀(st:St) (o0 o1:Nat) (hnd: [o0,o1].Nodup) (p4J:Am.look st o0=some (.arr 0 1 0 [[.int .i64 p0s]])) (r1m:Am.look st o1=some (.arr 0 1 0 [[.sl false 1 16 (rows i8K p3x)]])),Am.Spec Tryz.prog gl 76 [.ptr o0 0 0 0,.ptr o1 0 0 0] st (fun d st'=>d= .str r.1∧st'=puts st [(o0,(.arr 0 1 0 [[.int .i64 r.2]])),(o1,(.arr 0 1 0 [[.sl false 1 16 (rows i8K p3x)]]))]):=by
 intro st o0 o1 hnd p4J r1m
 unfold p5Z at h
 have ho0:=p0H p4J
 have ho1:=p0H r1m
 have fx:=fa (fa (idf ho0) (idf ho1)) (nd2 hnd)
 refine fb 14 [.tmp 2] [0,1,2,3,12] Tryz.func76 fun hsc=>?_
 refine p6z (s':=(i9Q st [(o0,(.arr 0 1 0 [[.int .i64 p0s]])),(o1,(.arr 0 1 0 [[.sl false 1 16 (rows i8K p3x)]]))])) (i9B (by simp[p4J,r1m])) ?_
 refine rn ?_
 refine i8V (body:=p4C p3x) (kk:=p6P) (n:=n) (s0:=p0s)
  (fun(gs0:Unit) (s0:Int)=>[(0,.ptr o0 0 0 0),(1,.ptr o1 0 0 0)])
  (fun(gs0:Unit) (s0:Int)=>(i9Q st [(o0,(.arr 0 1 0 [[.int .i64 s0]])),(o1,(.arr 0 1 0 [[.sl false 1 16 (rows i8K p3x)]]))]))
  (fun(gt0:Unit) (t0:Unit)=>[])
  (fun(gt0:Unit) (t0:Unit)=>(i9Q st [(o0,(.arr 0 1 0 [[.int .i64 p0s]])),(o1,(.arr 0 1 0 [[.sl false 1 16 (rows i8K p3x)]]))]))
  () h (u2k hsc)
  (fun gs0 s0 b0 h hx0=>?_) (fun gt0 t0 fr1 st1 h hb=>?_)
 ·unfold p4C at h
  refine cl h (u5M _) fun v4 h=>?_
  obtain⟨fx,h⟩:=ck fx h
  refine cl h (i8Q _ _) fun v6 h=>?_
  refine cd h (fun hc h=>?_) fun hc h=>?_
  ·refine ra ?_
   cases h
   refine p0T ?_;have h:=congrArg some (hx0 _ rfl)
   refine rr ?_
   exact fus (.str (p9P [118] v4)) (.same _) h hsc
  ·refine rn ?_
   cases h
   exact i9h () (u2k hsc)
 ·try simp only[go_sem,fx]
  unfold p6P at h
  cases h
theorem r1O:∀(n:Nat) (a0:i8F) (a1:(List i8P)) (p0s:Int) (p3x:(List Bs)) (r:i8F×Int) (h:p1n n a0 a1 p0s p3x=some r),∀(st:St) (o0 o1:Nat) (hnd: [o0,o1].Nodup) (p4J:Am.look st o0=some (.arr 0 1 0 [[.int .i64 p0s]])) (r1m:Am.look st o1=some (.arr 0 1 0 [[.sl false 1 16 (rows i8K p3x)]])),Am.Spec Tryz.prog gl 78 [.agg [.int .i64 a0.kind,.str a0.name,.sl false 1 16 (rows i8K a0.words),.sl false 4 72 (rows i8F.cells a0.subs)],.sl false 2 32 (rows i8P.cells a1),.fn 76 [] [.ptr o0 0 0 0,.ptr o1 0 0 0]] st (fun d st'=>d= .agg [.int .i64 r.1.kind,.str r.1.name,.sl false 1 16 (rows i8K r.1.words),.sl false 4 72 (rows i8F.cells r.1.subs)]∧st'=puts st [(o0,(.arr 0 1 0 [[.int .i64 r.2]])),(o1,(.arr 0 1 0 [[.sl false 1 16 (rows i8K p3x)]]))]):=by
 intro n
 induction n with
 |zero=>intro a0 a1 p0s p3x r h;cases h
 |succ n ih=>
  intro a0 a1 p0s p3x r h st o0 o1 hnd p4J r1m
  unfold p1n at h
  have ho0:=p0H p4J
  have ho1:=p0H r1m
  have fx:=fa (fa (idf ho0) (idf ho1)) (nd2 hnd)
  refine fb 87 [.cell 6 25] [0,1,2,3,6,7,9,10,12,19,20,21,22,29,38,52,70,71,72,73] Tryz.func78 fun hsc=>?_
  refine p6z (s':=(i9Q st [(o0,(.arr 0 1 0 [[.int .i64 p0s]])),(o1,(.arr 0 1 0 [[.sl false 1 16 (rows i8K p3x)]]))])) (i9B (by simp[p4J,r1m])) ?_
  refine r0 ?_
  refine r0 ?_
  refine r0 ?_
  (repeat apply sq_)
  refine p4S 1 16 ?_
  try simp only[List.append_assoc,List.cons_append,List.nil_append]
  refine p0E (F:=[(1,.sl false 2 32 (rows i8P.cells a1)),(2,.fn 76 [] [.ptr o0 0 0 0,.ptr o1 0 0 0]),(3,.ptr st.length 0 0 0),(6,.ptr (st.length+1) 0 0 0),(7,.ptr (st.length+2) 0 0 0),(19,.sl false 1 16 (rows i8K a0.words)),(20,.int .i64 (↑a0.words.length:Int)),(21,.int .i64 0)]) (T:=(i9Q st [(o0,(.arr 0 1 0 [[.int .i64 p0s]])),(o1,(.arr 0 1 0 [[.sl false 1 16 (rows i8K p3x)]]))])++[some (.arr 0 4 0 [[.int .i64 a0.kind,.str a0.name,.sl false 1 16 (rows i8K a0.words),.sl false 4 72 (rows i8F.cells a0.subs)]]),some (.arr 0 4 0 [[.int .i64 0,.str [],.i8S,.i8S]]),some (.arr 0 4 0 [[.int .i64 a0.kind,.str a0.name,.ref false (st.length+3) 0 0 0,.i8S]]),some (.arr 0 1 16 (rows i8K []))]) (p8p (by simp) (p4k hsc (by simp<;>omega)) (.lv (.lv (.live _ _ _ _ (.arr _ _ _ _ _ (.cons _ _ _ _ (.cons _ _ _ _ .s (.cons _ _ _ _ .s (.cons _ _ _ _ (.nref _ _ _ _ _ _ (p0c.trans rfl)) (.cons _ _ _ _ .s .nil)))) (.same _))) (.lv (.nil _))))) (by simp<;>omega) ⟨.s,.s,.s,.s,.s,.s,.s,.s,trivial⟩ (by simp<;>omega)) ?_
  refine aln 19 fun hl0=>?_
  refine rng (body:=p5a n a1 a0) (kk:=p5e (p1n n) n a0 p0s p3x a1) (n:=a0.words.length) (s0:=[])
   (fun(gs0:Nat) (k0:Nat) (s0:(List Bs))=>[(1,.sl false 2 32 (rows i8P.cells a1)),(2,.fn 76 [] [.ptr o0 0 0 0,.ptr o1 0 0 0]),(3,.ptr st.length 0 0 0),(6,.ptr (st.length+1) 0 0 0),(7,.ptr (st.length+2) 0 0 0),(19,.sl false 1 16 (rows i8K a0.words)),(20,.int .i64 (↑a0.words.length:Int)),(21,.int .i64 (↑k0:Int))])
   (fun(gs0:Nat) (k0:Nat) (s0:(List Bs))=>(i9Q st [(o0,(.arr 0 1 0 [[.int .i64 p0s]])),(o1,(.arr 0 1 0 [[.sl false 1 16 (rows i8K p3x)]]))])++[some (.arr 0 4 0 [[.int .i64 a0.kind,.str a0.name,.sl false 1 16 (rows i8K a0.words),.sl false 4 72 (rows i8F.cells a0.subs)]]),some (.arr 0 4 0 [[.int .i64 0,.str [],.i8S,.i8S]]),some (.arr 0 4 0 [[.int .i64 a0.kind,.str a0.name,.ref false (st.length+3) gs0 0 s0.length,.i8S]]),some (.arr gs0 1 16 (rows i8K s0))])
   (fun(gt0:Nat) (t0:(List Bs))=>[(1,.sl false 2 32 (rows i8P.cells a1)),(2,.fn 76 [] [.ptr o0 0 0 0,.ptr o1 0 0 0]),(3,.ptr st.length 0 0 0),(6,.ptr (st.length+1) 0 0 0),(7,.ptr (st.length+2) 0 0 0)])
   (fun(gt0:Nat) (t0:(List Bs))=>(i9Q st [(o0,(.arr 0 1 0 [[.int .i64 p0s]])),(o1,(.arr 0 1 0 [[.sl false 1 16 (rows i8K p3x)]]))])++[some (.arr 0 4 0 [[.int .i64 a0.kind,.str a0.name,.sl false 1 16 (rows i8K a0.words),.sl false 4 72 (rows i8F.cells a0.subs)]]),some (.arr 0 4 0 [[.int .i64 0,.str [],.i8S,.i8S]]),some (.arr 0 4 0 [[.int .i64 a0.kind,.str a0.name,.ref false (st.length+3) gt0 0 t0.length,.i8S]]),some (.arr gt0 1 16 (rows i8K t0))])
   0 fx hl0 h (bu hsc)
   (fun gs0 k0 s0 b0 fx h hx0=>?_) (fun gs0 s0=>?_) (fun gt0 t0 fr1 st1 h hb=>?_)
  ·unfold p5a at h
   refine ct ?_
   refine rn ?_
   refine i8V (body:=p4d a1 a0 k0) (kk:=p5b s0) (n:=n) (s0:=(wr .i64 ((↑a1.length:Int)-1)))
    (fun(gs2:Unit) (s2:Int)=>[(1,.sl false 2 32 (rows i8P.cells a1)),(2,.fn 76 [] [.ptr o0 0 0 0,.ptr o1 0 0 0]),(3,.ptr st.length 0 0 0),(6,.ptr (st.length+1) 0 0 0),(7,.ptr (st.length+2) 0 0 0),(9,.str (get a0.words k0)),(10,.int .i64 s2),(19,.sl false 1 16 (rows i8K a0.words)),(20,.int .i64 (↑a0.words.length:Int)),(21,.int .i64 (↑k0:Int))])
    (fun(gs2:Unit) (s2:Int)=>(i9Q st [(o0,(.arr 0 1 0 [[.int .i64 p0s]])),(o1,(.arr 0 1 0 [[.sl false 1 16 (rows i8K p3x)]]))])++[some (.arr 0 4 0 [[.int .i64 a0.kind,.str a0.name,.sl false 1 16 (rows i8K a0.words),.sl false 4 72 (rows i8F.cells a0.subs)]]),some (.arr 0 4 0 [[.int .i64 0,.str [],.i8S,.i8S]]),some (.arr 0 4 0 [[.int .i64 a0.kind,.str a0.name,.ref false (st.length+3) gs0 0 s0.length,.i8S]]),some (.arr gs0 1 16 (rows i8K s0))])
    (fun(gt2:Unit) (t2:Bs)=>[(1,.sl false 2 32 (rows i8P.cells a1)),(2,.fn 76 [] [.ptr o0 0 0 0,.ptr o1 0 0 0]),(3,.ptr st.length 0 0 0),(6,.ptr (st.length+1) 0 0 0),(7,.ptr (st.length+2) 0 0 0),(9,.str t2),(19,.sl false 1 16 (rows i8K a0.words)),(20,.int .i64 (↑a0.words.length:Int)),(21,.int .i64 (↑k0:Int))])
    (fun(gt2:Unit) (t2:Bs)=>(i9Q st [(o0,(.arr 0 1 0 [[.int .i64 p0s]])),(o1,(.arr 0 1 0 [[.sl false 1 16 (rows i8K p3x)]]))])++[some (.arr 0 4 0 [[.int .i64 a0.kind,.str a0.name,.sl false 1 16 (rows i8K a0.words),.sl false 4 72 (rows i8F.cells a0.subs)]]),some (.arr 0 4 0 [[.int .i64 0,.str [],.i8S,.i8S]]),some (.arr 0 4 0 [[.int .i64 a0.kind,.str a0.name,.ref false (st.length+3) gs0 0 s0.length,.i8S]]),some (.arr gs0 1 16 (rows i8K s0))])
    () h (bu hsc)
    (fun gs2 s2 b2 h hx2=>?_) (fun gt2 t2 fr1 st1 h hb=>?_)
   ·unfold p4d at h
    refine cd h (fun hc h=>?_) fun hc h=>?_
    ·obtain⟨fx,h⟩:=ck fx h
     refine cd h (fun hc h=>?_) fun hc h=>?_
     ·refine rn ?_
      cases h
      exact i9r () (bu hsc)
     ·refine rn ?_
      cases h
      exact i9h () (bu hsc)
    ·refine rn ?_
     cases h
     exact i9r () (bu hsc)
   ·try simp only[go_sem,fx]
    unfold p5b at h
    refine p0E hb ?_
    obtain⟨c16,w0N,h⟩:=p5L h
    have fy:=(show rows i8K s0++[[.str t2]]=rows i8K c16 from by rw[w0N];first|exact i9b (E:=i8K) s0 [t2]|simp only[go_sem,rows,List.map_append,List.map_cons,List.map_nil])
    have fy:=fa fy (show s0.length+1=c16.length from by rw[w0N];simp)
    obtain⟨fx,h⟩:=ck fx h
    refine r1 ?_
    refine rn ?_
    cases h
    exact p7A (gs0+1) (bu hsc)
  ·refine cf ?_
   refine p7n ?_;simp only[go_sem,fx]
   exact⟨gs0,(bu hsc)⟩
  ·try simp only[go_sem,fx]
   unfold p5e at h
   refine p0E hb ?_
   refine cl h (p1u _) fun v21 h=>?_
   refine rn ?_
   refine p4c (p2Z (p1n n) a0 p3x t0) r (fun(gj3:Unit) (j3:Int×Bs×(List i8P))=>[(1,.sl false 2 32 (rows i8P.cells j3.2.2)),(2,.fn 76 [] [.ptr o0 0 0 0,.ptr o1 0 0 0]),(3,.ptr st.length 0 0 0),(6,.ptr (st.length+1) 0 0 0),(7,.ptr (st.length+2) 0 0 0)]) (fun(gj3:Unit) (j3:Int×Bs×(List i8P))=>(i9Q st [(o0,(.arr 0 1 0 [[.int .i64 j3.1]])),(o1,(.arr 0 1 0 [[.sl false 1 16 (rows i8K p3x)]]))])++[some (.arr 0 4 0 [[.int .i64 a0.kind,.str a0.name,.sl false 1 16 (rows i8K a0.words),.sl false 4 72 (rows i8F.cells a0.subs)]]),some (.arr 0 4 0 [[.int .i64 0,.str [],.i8S,.i8S]]),some (.arr 0 4 0 [[.int .i64 a0.kind,.str j3.2.1,.ref false (st.length+3) gt0 0 t0.length,.i8S]]),some (.arr gt0 1 16 (rows i8K t0))]) (fun gj3 j3 fr1 st1 h hb=>?_) (fun hj3=>?_)
   ·try simp only[go_sem,fx]
    unfold p2Z at h
    refine p0E hb ?_
    refine r0 ?_
    (repeat apply sq_)
    refine p4S 4 72 ?_
    try simp only[List.append_assoc,List.cons_append,List.nil_append]
    refine p0E (F:=[(1,.sl false 2 32 (rows i8P.cells j3.2.2)),(2,.fn 76 [] [.ptr o0 0 0 0,.ptr o1 0 0 0]),(6,.ptr (st.length+1) 0 0 0),(7,.ptr (st.length+2) 0 0 0),(70,.sl false 4 72 (rows i8F.cells a0.subs)),(71,.int .i64 (↑a0.subs.length:Int)),(72,.int .i64 0)]) (T:=(i9Q st [(o0,(.arr 0 1 0 [[.int .i64 j3.1]])),(o1,(.arr 0 1 0 [[.sl false 1 16 (rows i8K p3x)]]))])++[some (.arr 0 4 0 [[.int .i64 a0.kind,.str a0.name,.sl false 1 16 (rows i8K a0.words),.sl false 4 72 (rows i8F.cells a0.subs)]]),some (.arr 0 4 0 [[.int .i64 0,.str [],.i8S,.i8S]]),some (.arr 0 4 0 [[.int .i64 a0.kind,.str j3.2.1,.ref false (st.length+3) gt0 0 t0.length,.ref false (st.length+4) 0 0 0]]),some (.arr gt0 1 16 (rows i8K t0)),some (.arr 0 4 72 (rows i8F.cells []))]) (p8p (by simp) (p4k hsc (by simp<;>omega)) (.lv (.lv (.live _ _ _ _ (.arr _ _ _ _ _ (.cons _ _ _ _ (.cons _ _ _ _ .s (.cons _ _ _ _ .s (.cons _ _ _ _ .s (.cons _ _ _ _ (.nref _ _ _ _ _ _ (p0c.trans rfl)) .nil)))) (.same _))) (.lv (.lv (.nil _)))))) (by simp<;>omega) ⟨.s,.s,.s,.s,.s,.s,.s,trivial⟩ (by simp<;>omega)) ?_
    refine aln 70 fun hl4=>?_
    refine rng (body:=p5c (p1n n) a0 j3 p3x) (kk:=p5d a0 j3 t0) (n:=a0.subs.length) (s0:=(j3.1,[]))
     (fun(gs4:Nat) (k4:Nat) (s4:Int×(List i8F))=>[(1,.sl false 2 32 (rows i8P.cells j3.2.2)),(2,.fn 76 [] [.ptr o0 0 0 0,.ptr o1 0 0 0]),(6,.ptr (st.length+1) 0 0 0),(7,.ptr (st.length+2) 0 0 0),(70,.sl false 4 72 (rows i8F.cells a0.subs)),(71,.int .i64 (↑a0.subs.length:Int)),(72,.int .i64 (↑k4:Int))])
     (fun(gs4:Nat) (k4:Nat) (s4:Int×(List i8F))=>(i9Q st [(o0,(.arr 0 1 0 [[.int .i64 s4.1]])),(o1,(.arr 0 1 0 [[.sl false 1 16 (rows i8K p3x)]]))])++[none,some (.arr 0 4 0 [[.int .i64 0,.str [],.i8S,.i8S]]),some (.arr 0 4 0 [[.int .i64 a0.kind,.str j3.2.1,.ref false (st.length+3) gt0 0 t0.length,.ref false (st.length+4) gs4 0 s4.2.length]]),some (.arr gt0 1 16 (rows i8K t0)),some (.arr gs4 4 72 (rows i8F.cells s4.2))])
     (fun(gt4:Nat) (t4:Int×(List i8F))=>[(6,.ptr (st.length+1) 0 0 0),(7,.ptr (st.length+2) 0 0 0)])
     (fun(gt4:Nat) (t4:Int×(List i8F))=>(i9Q st [(o0,(.arr 0 1 0 [[.int .i64 t4.1]])),(o1,(.arr 0 1 0 [[.sl false 1 16 (rows i8K p3x)]]))])++[none,some (.arr 0 4 0 [[.int .i64 0,.str [],.i8S,.i8S]]),some (.arr 0 4 0 [[.int .i64 a0.kind,.str j3.2.1,.ref false (st.length+3) gt0 0 t0.length,.ref false (st.length+4) gt4 0 t4.2.length]]),some (.arr gt0 1 16 (rows i8K t0)),some (.arr gt4 4 72 (rows i8F.cells t4.2))])
     0 fx hl4 h (bu hsc)
     (fun gs4 k4 s4 b4 fx h hx4=>?_) (fun gs4 s4=>?_) (fun gt4 t4 fr1 st1 h hb=>?_)
    ·unfold p5c at h
     refine ct ?_
     refine rn ?_
     refine dw [1,5] 2 ?_
     obtain⟨v38,hv38,h⟩:=p3S h
     refine r1Y [o0,o1] (fun st2 h2=>(ih _ _ _ _ _ hv38 st2 _ _ hnd ((h2 _ (by simp)).trans (by simp only[go_sem,fx])) ((h2 _ (by simp)).trans (by simp only[go_sem,fx])))) (by simp) (by simp only[List.mem_cons,List.not_mem_nil,or_false,forall_eq_or_imp,forall_eq];exact⟨⟨by first|omega|(simp<;>omega),_,(by simp only[go_sem,fx]<;>rfl),Ob.noConfusion⟩,⟨by first|omega|(simp<;>omega),_,(by simp only[go_sem,fx]<;>rfl),Ob.noConfusion⟩⟩) (by simp) ?_
     obtain⟨c40,u8a,h⟩:=p5L h
     have fy:=(show rows i8F.cells s4.2++[[.int .i64 v38.1.kind,.str v38.1.name,.sl false 1 16 (rows i8K v38.1.words),.sl false 4 72 (rows i8F.cells v38.1.subs)]]=rows i8F.cells c40 from by rw[u8a];first|exact i9b (E:=i8F.cells) s4.2 [v38.1]|simp only[go_sem,rows,List.map_append,List.map_cons,List.map_nil])
     have fy:=fa fy (show s4.2.length+1=c40.length from by rw[u8a];simp)
     obtain⟨fx,h⟩:=ck fx h
     try simp only[go_sem,fx,fy]
     try refine⟨by first|omega|(simp<;>omega),?_⟩
     refine rn ?_
     cases h
     exact p7A (gs4+1) (bu hsc)
    ·refine cf ?_
     refine p7n ?_;simp only[go_sem,fx]
     exact⟨gs4,(bu hsc)⟩
    ·try simp only[go_sem,fx]
     unfold p5d at h
     refine p0E hb ?_
     refine rr ?_
     exact fuo (.agg [.int .i64 a0.kind,.str j3.2.1,.sl false 1 16 (rows i8K t0),.sl false 4 72 (rows i8F.cells t4.2)]) (.agg _ _ (.cons _ _ _ _ .s (.cons _ _ _ _ .s (.cons _ _ _ _ (.ref _ _ _ _ _ _ _ _ _ (p0c.trans rfl) p7q (by decide) (p9b _) (by simp only[go_sem])) (.cons _ _ _ _ (.ref _ _ _ _ _ _ _ _ _ (p0c.trans rfl) p7q (by decide) (p9b _) (by simp only[go_sem])) .nil))))) h hsc
   ·refine cd h (fun hc h=>?_) fun hc h=>?_
    ·refine rn ?_
     obtain⟨v22,hv22,h⟩:=p3S h
     refine(r2l n _ _ _ hv22 _ _ _ hnd (by simp only[go_sem,fx]) (by simp only[go_sem,fx])).mono ?_
     rintro d1 st1 ⟨rfl,rfl⟩
     refine rn ?_
     obtain⟨fx,h⟩:=ck fx h
     obtain⟨c26,u8b,h⟩:=p5L h
     have fy:=(show rows i8P.cells a1++[[.str a0.name,.str v22.1]]=rows i8P.cells c26 from by rw[u8b];first|exact i9b (E:=i8P.cells) a1 [(i8P.mk a0.name v22.1)]|simp only[go_sem,rows,List.map_append,List.map_cons,List.map_nil])
     have fy:=fa fy (show a1.length+1=c26.length from by rw[u8b];simp)
     obtain⟨fx,h⟩:=ck fx h
     refine dwy [] 2 ?_
     refine hj3 () _ _ _ h ?_;exact(bu hsc (hf:=⟨.ref _ _ _ _ _ _ _ _ _ (p0c.trans rfl) (p5M (by first|decide|simp)) (by decide) (p9b _) (by simp only[go_sem]),.s,.s,.s,.s,trivial⟩))
    ·refine r0 ?_
     refine hj3 () _ _ _ h ?_;exact(bu hsc)
end Go.Proofs.YtdjnbjnlnjhllaaGreatDoor
