import Derived.Test.YtfacbpehlibilaaGreatDoorTAWalk4
set_option linter.unusedVariables false
set_option linter.unusedSimpArgs false
set_option maxHeartbeats 2000000
set_option maxRecDepth 100000
namespace Go.Proofs.YtfacbpehlibilaaGreatDoor
open Go Go.Am
theorem d2t(a0:Bs)(a1:(List Bs))(r:(List Bs))(h:YR a0 a1=some r):Pure Tryz.prog gl 139 [.str a0,.sl false 1 16 (rows Wt a1)] (.sl false 1 16 (rows Wt r)):=by
 intro st
 unfold YR at h
 have fx:=trivial
 refine fb 22 [.tmp 4] [0,1,4,5,7,8,9,10,11] Tryz.func139 fun hsc=>?_
 refine r0 ?_
 refine r0 ?_
 refine r0 ?_
 (repeat apply sq_)
 refine d0f 1 16 ?_
 try simp only[List.append_assoc,List.cons_append,List.nil_append]
 refine Zk (F:=[(0,.str a0),(5,.ref false st.length 0 0 0),(8,.sl false 1 16 (rows Wt a1)),(9,.int .i64 (↑a1.length:Int)),(10,.int .i64 0)]) (T:=st++[some (.arr 0 1 16 (rows Wt []))]) (i8C hsc (.lv (.nil _)) (by simp) ⟨.s,.nref _ _ _ _ _ _ (i6z.trans rfl),.s,.s,.s,trivial⟩ (by simp)) ?_
 refine aln 8 fun hl0=>?_
 refine rng (body:=d0C a0 a1) (kk:=d2r) (n:=a1.length) (s0:=[])
  (fun(gs0:Nat) (k0:Nat) (s0:(List Bs))=>[(0,.str a0),(5,.ref false st.length gs0 0 s0.length),(8,.sl false 1 16 (rows Wt a1)),(9,.int .i64 (↑a1.length:Int)),(10,.int .i64 (↑k0:Int))])
  (fun(gs0:Nat) (k0:Nat) (s0:(List Bs))=>st++[some (.arr gs0 1 16 (rows Wt s0))])
  (fun(gt0:Nat) (t0:(List Bs))=>[(5,.ref false st.length gt0 0 t0.length)])
  (fun(gt0:Nat) (t0:(List Bs))=>st++[some (.arr gt0 1 16 (rows Wt t0))])
  0 fx hl0 h (bm hsc)
  (fun gs0 k0 s0 b0 fx h hx0=>?_) (fun gs0 s0=>?_) (fun gt0 t0 fr1 st1 h hb=>?_)
 ·unfold d0C at h
  refine ct ?_
  refine r0 ?_
  refine r0 ?_
  refine r0 ?_
  obtain⟨fx,h⟩:=ck fx h
  obtain⟨c10,p1F,h⟩:=d4o h
  have fy:=(show rows Wt s0++[[.str (d9u a0 (get a1 k0))]]=rows Wt c10 from by rw[p1F];first|exact Xi (E:=Wt) s0 [(d9u a0 (get a1 k0))]|simp only[go_sem,rows,List.map_append,List.map_cons,List.map_nil])
  have fy:=fa fy (show s0.length+1=c10.length from by rw[p1F];simp)
  obtain⟨fx,h⟩:=ck fx h
  refine r1 ?_
  refine rn ?_
  cases h
  exact d2U (gs0+1) (bm hsc)
 ·refine cf ?_
  refine d2V ?_;simp only[go_sem,fx]
  exact⟨gs0,(bm hsc)⟩
 ·try simp only[go_sem,fx]
  unfold d2r at h
  refine Zk hb ?_
  refine rr ?_
  exact fo (.sl false 1 16 (rows Wt t0)) (.ref _ _ _ _ _ _ _ _ _ (i6z.trans rfl) i9I (by decide) (d5x _) (by simp only[go_sem])) h hsc
theorem d7O(n:Nat)(a0:Wu)(r:Wu)(h:d1w n a0=some r):Pure Tryz.prog gl 109 [.agg [.int .i64 a0.form.kind,.str a0.form.name,.sl false 1 16 (rows Wt a0.form.words),.sl false 4 72 (rows Lr.cells a0.form.subs),.sl false 1 16 (rows Wt a0.words),.sl false 1 16 (rows Wt a0.WO),.sl false 1 16 (rows Wt a0.parts)]] (.agg [.int .i64 r.form.kind,.str r.form.name,.sl false 1 16 (rows Wt r.form.words),.sl false 4 72 (rows Lr.cells r.form.subs),.sl false 1 16 (rows Wt r.words),.sl false 1 16 (rows Wt r.WO),.sl false 1 16 (rows Wt r.parts)]):=by
 intro st
 unfold d1w at h
 have fx:=trivial
 refine fb 23 [.cell 2 47] [0,1,2,3,4] Tryz.func109 fun hsc=>?_
 refine rn ?_
 refine dw [3,6,10,14] 0 ?_
 obtain⟨v1,hv1,h⟩:=ZA h
 refine d2Y [st.length,(st.length+2)] (fun st2 h2=>((d7b n _ _ _ _ _ _ _ _ _ _ hv1 st2 _ _ (by simp) ((h2 _ (by simp)).trans (d3q.trans rfl)) ((h2 _ (by simp)).trans (d4H.trans rfl))).up (.cons _ _ _ _ .s (.cons _ _ _ _ (.WB _ _ _ (by decide)) (.cons _ _ _ _ .s (.cons _ _ _ _ .s .nil)))) (by have q0:=WA ((h2 st.length (by simp)).trans (d3q.trans rfl));have q1:=WA ((h2 (st.length+2) (by simp)).trans (d4H.trans rfl));simp<;>omega))) (by simp) (by simp only[List.mem_cons,List.not_mem_nil,or_false,forall_eq_or_imp,forall_eq];exact⟨⟨by first|omega|(simp<;>omega),_,(d3q.trans rfl),Ob.noConfusion⟩,⟨by first|omega|(simp<;>omega),_,(d4H.trans rfl),Ob.noConfusion⟩⟩) (by simp) ?_
 try simp only[go_sem,fx]
 obtain⟨v2,hv2,h⟩:=ZA h
 refine d1v (d2t _ _ _ hv2) ?_
 try simp only[go_sem,fx]
 obtain⟨v3,hv3,h⟩:=ZA h
 refine d1v (d2t _ _ _ hv3) ?_
 try simp only[go_sem,fx]
 obtain⟨v4,hv4,h⟩:=ZA h
 refine d1v (d2t _ _ _ hv4) ?_
 try simp only[go_sem,fx]
 try refine⟨by first|omega|(simp<;>omega),?_⟩
 exact rt
theorem d4i(a0:(List Bs))(a1:(List Bs))(r:Bool)(h:XM a0 a1=some r):Pure Tryz.prog gl 158 [.sl false 1 16 (rows Wt a0),.sl false 1 16 (rows Wt a1)] (.bool r):=by
 intro st
 unfold XM at h
 have fx:=trivial
 refine fb 26 [.tmp 4] [0,1,4,5,10,12,13,14,24] Tryz.func158 fun hsc=>?_
 refine cd h (fun hc h=>?_) fun hc h=>?_
 ·exact rt
 ·refine aln 0 fun hl0=>?_
  refine rng (body:=Yz a1 a0) (kk:=YA) (n:=a0.length) (s0:=())
   (fun(gs0:Unit) (k0:Nat) (s0:Unit)=>[(0,.sl false 1 16 (rows Wt a0)),(1,.sl false 1 16 (rows Wt a1)),(12,.int .i64 (↑a0.length:Int)),(13,.int .i64 (↑k0:Int))])
   (fun(gs0:Unit) (k0:Nat) (s0:Unit)=>st)
   (fun(gt0:Unit) (t0:Unit)=>[])
   (fun(gt0:Unit) (t0:Unit)=>st)
   () fx hl0 h (d8H hsc)
   (fun gs0 k0 s0 b0 fx h hx0=>?_) (fun gs0 s0=>?_) (fun gt0 t0 fr1 st1 h hb=>?_)
  ·unfold Yz at h
   refine ct ?_
   refine rn ?_
   obtain⟨fx,h⟩:=ck fx h
   refine dw [] 0 ?_
   refine cd h (fun hc h=>?_) fun hc h=>?_
   ·refine ra ?_
    cases h
    refine XY ?_;have h:=congrArg some (hx0 _ rfl)
    exact rt
   ·refine rn ?_
    cases h
    exact d2U () (d8H hsc)
  ·refine cf ?_
   refine d2V ?_;simp only[go_sem,fx]
   exact⟨(),(d8H hsc)⟩
  ·try simp only[go_sem,fx]
   unfold YA at h
   refine Zk hb ?_
   exact rt
theorem i1n:∀(n:Nat) (a0:Lr) (a1:Lr) (r:Bool) (h:d2q n a0 a1=some r),Pure Tryz.prog gl 141 [.agg [.int .i64 a0.kind,.str a0.name,.sl false 1 16 (rows Wt a0.words),.sl false 4 72 (rows Lr.cells a0.subs)],.agg [.int .i64 a1.kind,.str a1.name,.sl false 1 16 (rows Wt a1.words),.sl false 4 72 (rows Lr.cells a1.subs)]] (.bool r):=by
 intro n
 induction n with
 |zero=>intro a0 a1 r h;cases h
 |succ n ih=>
  intro a0 a1 r h st
  unfold d2q at h
  have fx:=trivial
  refine fb 54 [.tmp 4] [0,1,2,3,4,5,12,13,14,15,16,19,20,21,22,23,24,27,28,29,30,31,32,33,34,37,38,39,52] Tryz.func141 fun hsc=>?_
  refine rn ?_
  obtain⟨v1,hv1,h⟩:=ZA h
  refine d2H (fun hG=>(d4i _ _ _ (i5t hv1 (by simpa using hG)))) ?_
  refine cd h (fun hc h=>?_) fun hc h=>?_
  ·exact rt
  ·obtain⟨fx,h⟩:=ck fx h
   refine rn ?_
   refine rng (body:=d3l (d2q n) a1 a0) (kk:=d3m) (n:=a0.subs.length) (s0:=())
    (fun(gs0:Unit) (k0:Nat) (s0:Unit)=>[(2,.ptr st.length 0 0 0),(3,.ptr (st.length+1) 0 0 0),(37,.int .i64 (↑a0.subs.length:Int)),(38,.int .i64 (↑k0:Int))])
    (fun(gs0:Unit) (k0:Nat) (s0:Unit)=>st++[some (.arr 0 4 0 [[.int .i64 a0.kind,.str a0.name,.sl false 1 16 (rows Wt a0.words),.sl false 4 72 (rows Lr.cells a0.subs)]]),some (.arr 0 4 0 [[.int .i64 a1.kind,.str a1.name,.sl false 1 16 (rows Wt a1.words),.sl false 4 72 (rows Lr.cells a1.subs)]])])
    (fun(gt0:Unit) (t0:Unit)=>[])
    (fun(gt0:Unit) (t0:Unit)=>st)
    () fx fx.2 h (bm hsc)
    (fun gs0 k0 s0 b0 fx h hx0=>?_) (fun gs0 s0=>?_) (fun gt0 t0 fr1 st1 h hb=>?_)
   ·unfold d3l at h
    refine ct ?_
    refine rn ?_
    obtain⟨fx,h⟩:=ck fx h
    refine dw [] 0 ?_
    obtain⟨v4,hv4,h⟩:=ZA h
    refine d1v (ih _ _ _ hv4) ?_
    try simp only[go_sem,fx]
    refine cd h (fun hc h=>?_) fun hc h=>?_
    ·refine ra ?_
     cases h
     refine XY ?_;have h:=congrArg some (hx0 _ rfl)
     exact rt
    ·refine rn ?_
     cases h
     exact d2U () (bm hsc)
   ·refine cf ?_
    refine d2V ?_;simp only[go_sem,fx]
    exact⟨(),(bm0 hsc)⟩
   ·try simp only[go_sem,fx]
    unfold d3m at h
    refine Zk hb ?_
    exact rt
theorem d4w(a1:Bs)(a2:Bs)(m0:(List (Bs×Ws)))(r:Bool×(List (Bs×Ws)))(h:Zu a1 a2 m0=some r):∀(st:St) (o0:Nat) (hnd: [o0].Nodup) (XZ:Am.look st o0=some (.mps true (mrw Ws.cells m0))),Am.Spec Tryz.prog gl 142 [.mp o0,.str a1,.str a2] st (fun d st'=>d= .bool r.1∧st'=puts st [(o0,(.mps true (mrw Ws.cells r.2)))]):=by
 intro st o0 hnd XZ
 unfold Zu at h
 have ho0:=WA XZ
 have fx:=idf ho0
 refine fb 25 [.tmp 6] [0,1,2,6,7,8,15] Tryz.func142 fun hsc=>?_
 refine ZJ (s':=(WE st [(o0,(.mps true (mrw Ws.cells m0)))])) (WJ (by simp[XZ])) ?_
 refine cd h (fun hc h=>?_) fun hc h=>?_
 ·refine rr ?_
  exact fuo (.bool (decide ((((assoc a1 m0).getD default).text)=a2))) (.same _) h hsc
 ·refine r0 ?_
  obtain⟨c1,hc1,h⟩:=d4o h
  have fy:=(show Wz a1 [.str a1,.str a2,.int .i64 0,.str [],.sl false 1 16 [],.sl false 4 72 []] (mrw Ws.cells m0)=mrw Ws.cells c1 from by rw[hc1];exact d4E (κ:=Bs) (E:=Ws.cells) a1 (Ws.mk a1 a2 (Lr.mk 0 [] [] [])) m0)
  refine r1 ?_
  refine rr ?_
  exact fuo (.bool true) (.same _) h hsc
theorem d8w:∀(n:Nat) (a0:Wu) (a1:Lr) (a2:Lr) (m0:(List (Bs×Ws))) (r:Bool×(List (Bs×Ws))) (h:Xa n a0 a1 a2 m0=some r),∀(st:St) (o0:Nat) (hnd: [o0].Nodup) (XZ:Am.look st o0=some (.mps true (mrw Ws.cells m0))),Am.Spec Tryz.prog gl 110 [.agg [.int .i64 a0.form.kind,.str a0.form.name,.sl false 1 16 (rows Wt a0.form.words),.sl false 4 72 (rows Lr.cells a0.form.subs),.sl false 1 16 (rows Wt a0.words),.sl false 1 16 (rows Wt a0.WO),.sl false 1 16 (rows Wt a0.parts)],.agg [.int .i64 a1.kind,.str a1.name,.sl false 1 16 (rows Wt a1.words),.sl false 4 72 (rows Lr.cells a1.subs)],.agg [.int .i64 a2.kind,.str a2.name,.sl false 1 16 (rows Wt a2.words),.sl false 4 72 (rows Lr.cells a2.subs)],.mp o0] st (fun d st'=>d= .bool r.1∧st'=puts st [(o0,(.mps true (mrw Ws.cells r.2)))]):=by
 intro n
 induction n with
 |zero=>intro a0 a1 a2 m0 r h;cases h
 |succ n ih=>
  intro a0 a1 a2 m0 r h st o0 hnd XZ
  unfold Xa at h
  have ho0:=WA XZ
  have fx:=idf ho0
  refine fb 138 [.tmp 8] [0,1,2,3,4,5,6,8,9,10,11,12,14,15,16,19,27,45,46,47,48,49,50,51,52,53,60,61,62,63,64,72,73,80,81,82,83,93,96,97,98,99,109,110,120,121,122,123,136] Tryz.func110 fun hsc=>?_
  refine ZJ (s':=(WE st [(o0,(.mps true (mrw Ws.cells m0)))])) (WJ (by simp[XZ])) ?_
  refine cl h (YT _ _) fun v1 h=>?_
  refine cd h (fun hc h=>?_) fun hc h=>?_
  ·refine cd h (fun hc h=>?_) fun hc h=>?_
   ·refine cl h (i1n n _ _) fun v2 h=>?_
    refine rr ?_
    exact fuo (.bool v2) (.same _) h hsc
   ·refine r0 ?_
    obtain⟨c3,hc3,h⟩:=d4o h
    have fy:=(show Wz a1.name [.str a1.name,.str [],.int .i64 a2.kind,.str a2.name,.sl false 1 16 (rows Wt a2.words),.sl false 4 72 (rows Lr.cells a2.subs)] (mrw Ws.cells m0)=mrw Ws.cells c3 from by rw[hc3];exact d4E (κ:=Bs) (E:=Ws.cells) a1.name (Ws.mk a1.name [] a2) m0)
    refine r1 ?_
    refine rr ?_
    exact fuo (.bool true) (.same _) h hsc
  ·refine cd h (fun hc h=>?_) fun hc h=>?_
   ·refine rr ?_
    exact fuo (.bool false) (.same _) h hsc
   ·refine cl h (WX _) fun v5 h=>?_
    refine rn ?_
    refine d2X (Xv (Xa n) a1 a2 m0 a0) r (fun(gj0:Unit) (j0:Bool)=>[(3,.mp o0),(4,.ptr st.length 0 0 0),(5,.ptr (st.length+1) 0 0 0),(6,.ptr (st.length+2) 0 0 0),(53,.bool j0)]) (fun(gj0:Unit) (j0:Bool)=>(WE st [(o0,(.mps true (mrw Ws.cells m0)))])++[some (.arr 0 7 0 [[.int .i64 a0.form.kind,.str a0.form.name,.sl false 1 16 (rows Wt a0.form.words),.sl false 4 72 (rows Lr.cells a0.form.subs),.sl false 1 16 (rows Wt a0.words),.sl false 1 16 (rows Wt a0.WO),.sl false 1 16 (rows Wt a0.parts)]]),some (.arr 0 4 0 [[.int .i64 a1.kind,.str a1.name,.sl false 1 16 (rows Wt a1.words),.sl false 4 72 (rows Lr.cells a1.subs)]]),some (.arr 0 4 0 [[.int .i64 a2.kind,.str a2.name,.sl false 1 16 (rows Wt a2.words),.sl false 4 72 (rows Lr.cells a2.subs)]])]) (fun gj0 j0 fr1 st1 h hb=>?_) (fun hj0=>?_)
    ·try simp only[go_sem,fx]
     unfold Xv at h
     refine Zk hb ?_
     (repeat apply sq_)
     refine d2X (Yb (Xa n) a1 a0 a2) r (fun(gj1:Unit) (j1:(List (Bs×Ws)))=>[(3,.mp o0),(4,.ptr st.length 0 0 0),(5,.ptr (st.length+1) 0 0 0),(6,.ptr (st.length+2) 0 0 0)]) (fun(gj1:Unit) (j1:(List (Bs×Ws)))=>(WE st [(o0,(.mps true (mrw Ws.cells j1)))])++[some (.arr 0 7 0 [[.int .i64 a0.form.kind,.str a0.form.name,.sl false 1 16 (rows Wt a0.form.words),.sl false 4 72 (rows Lr.cells a0.form.subs),.sl false 1 16 (rows Wt a0.words),.sl false 1 16 (rows Wt a0.WO),.sl false 1 16 (rows Wt a0.parts)]]),some (.arr 0 4 0 [[.int .i64 a1.kind,.str a1.name,.sl false 1 16 (rows Wt a1.words),.sl false 4 72 (rows Lr.cells a1.subs)]]),some (.arr 0 4 0 [[.int .i64 a2.kind,.str a2.name,.sl false 1 16 (rows Wt a2.words),.sl false 4 72 (rows Lr.cells a2.subs)]])]) (fun gj1 j1 fr1 st1 h hb=>?_) (fun hj1=>?_)
     ·try simp only[go_sem,fx]
      unfold Yb at h
      refine Zk hb ?_
      refine aln 80 fun hl2=>?_
      refine rng (body:=d0o a1 a0 a2) (kk:=d0p (Xa n) a2 a0 a1) (n:=a1.words.length) (s0:=j1)
       (fun(gs2:Unit) (k2:Nat) (s2:(List (Bs×Ws)))=>[(3,.mp o0),(4,.ptr st.length 0 0 0),(5,.ptr (st.length+1) 0 0 0),(6,.ptr (st.length+2) 0 0 0),(80,.sl false 1 16 (rows Wt a1.words)),(81,.int .i64 (↑a1.words.length:Int)),(82,.int .i64 (↑k2:Int))])
       (fun(gs2:Unit) (k2:Nat) (s2:(List (Bs×Ws)))=>(WE st [(o0,(.mps true (mrw Ws.cells s2)))])++[some (.arr 0 7 0 [[.int .i64 a0.form.kind,.str a0.form.name,.sl false 1 16 (rows Wt a0.form.words),.sl false 4 72 (rows Lr.cells a0.form.subs),.sl false 1 16 (rows Wt a0.words),.sl false 1 16 (rows Wt a0.WO),.sl false 1 16 (rows Wt a0.parts)]]),some (.arr 0 4 0 [[.int .i64 a1.kind,.str a1.name,.sl false 1 16 (rows Wt a1.words),.sl false 4 72 (rows Lr.cells a1.subs)]]),some (.arr 0 4 0 [[.int .i64 a2.kind,.str a2.name,.sl false 1 16 (rows Wt a2.words),.sl false 4 72 (rows Lr.cells a2.subs)]])])
       (fun(gt2:Unit) (t2:(List (Bs×Ws)))=>[(3,.mp o0),(4,.ptr st.length 0 0 0),(5,.ptr (st.length+1) 0 0 0),(6,.ptr (st.length+2) 0 0 0)])
       (fun(gt2:Unit) (t2:(List (Bs×Ws)))=>(WE st [(o0,(.mps true (mrw Ws.cells t2)))])++[some (.arr 0 7 0 [[.int .i64 a0.form.kind,.str a0.form.name,.sl false 1 16 (rows Wt a0.form.words),.sl false 4 72 (rows Lr.cells a0.form.subs),.sl false 1 16 (rows Wt a0.words),.sl false 1 16 (rows Wt a0.WO),.sl false 1 16 (rows Wt a0.parts)]]),some (.arr 0 4 0 [[.int .i64 a1.kind,.str a1.name,.sl false 1 16 (rows Wt a1.words),.sl false 4 72 (rows Lr.cells a1.subs)]]),some (.arr 0 4 0 [[.int .i64 a2.kind,.str a2.name,.sl false 1 16 (rows Wt a2.words),.sl false 4 72 (rows Lr.cells a2.subs)]])])
       () fx hl2 h (bu hsc)
       (fun gs2 k2 s2 b2 fx h hx2=>?_) (fun gs2 s2=>?_) (fun gt2 t2 fr1 st1 h hb=>?_)
      ·unfold d0o at h
       refine ct ?_
       refine rn ?_
       obtain⟨v12,hv12,h⟩:=ZA h
       refine d2H (fun hG=>(Wx _ _ _ (i5t hv12 (by simpa using hG)))) ?_
       refine cd h (fun hc h=>?_) fun hc h=>?_
       ·obtain⟨fx,h⟩:=ck fx h
        refine rn ?_
        obtain⟨v14,hv14,h⟩:=ZA h
        refine(d4w _ _ _ _ hv14 _ _ hnd (by simp only[go_sem,fx])).mono ?_
        rintro d1 st1 ⟨rfl,rfl⟩
        refine cd h (fun hc h=>?_) fun hc h=>?_
        ·refine ra ?_
         cases h
         refine XY ?_;have h:=congrArg some (hx2 _ rfl)
         refine rr ?_
         exact fuo (.bool false) (.same _) h hsc
        ·refine rn ?_
         cases h
         exact d2U () (bu hsc)
       ·obtain⟨fx,h⟩:=ck fx h
        refine cd h (fun hc h=>?_) fun hc h=>?_
        ·refine ra ?_
         cases h
         refine XY ?_;have h:=congrArg some (hx2 _ rfl)
         refine rr ?_
         exact fuo (.bool false) (.same _) h hsc
        ·refine rn ?_
         cases h
         exact d2U () (bu hsc)
      ·refine cf ?_
       refine d2V ?_;simp only[go_sem,fx]
       exact⟨(),(bu hsc)⟩
      ·try simp only[go_sem,fx]
       unfold d0p at h
       refine Zk hb ?_
       refine aln 120 fun hl3=>?_
       refine rng (body:=d0q (Xa n) a2 a0 a1) (kk:=d0r) (n:=a1.subs.length) (s0:=t2)
        (fun(gs3:Unit) (k3:Nat) (s3:(List (Bs×Ws)))=>[(3,.mp o0),(4,.ptr st.length 0 0 0),(6,.ptr (st.length+2) 0 0 0),(120,.sl false 4 72 (rows Lr.cells a1.subs)),(121,.int .i64 (↑a1.subs.length:Int)),(122,.int .i64 (↑k3:Int))])
        (fun(gs3:Unit) (k3:Nat) (s3:(List (Bs×Ws)))=>(WE st [(o0,(.mps true (mrw Ws.cells s3)))])++[some (.arr 0 7 0 [[.int .i64 a0.form.kind,.str a0.form.name,.sl false 1 16 (rows Wt a0.form.words),.sl false 4 72 (rows Lr.cells a0.form.subs),.sl false 1 16 (rows Wt a0.words),.sl false 1 16 (rows Wt a0.WO),.sl false 1 16 (rows Wt a0.parts)]]),none,some (.arr 0 4 0 [[.int .i64 a2.kind,.str a2.name,.sl false 1 16 (rows Wt a2.words),.sl false 4 72 (rows Lr.cells a2.subs)]])])
        (fun(gt3:Unit) (t3:(List (Bs×Ws)))=>[])
        (fun(gt3:Unit) (t3:(List (Bs×Ws)))=>(WE st [(o0,(.mps true (mrw Ws.cells t3)))]))
        () fx hl3 h (bu hsc)
        (fun gs3 k3 s3 b3 fx h hx3=>?_) (fun gs3 s3=>?_) (fun gt3 t3 fr1 st1 h hb=>?_)
       ·unfold d0q at h
        refine ct ?_
        refine rn ?_
        obtain⟨fx,h⟩:=ck fx h
        refine dw [8] 0 ?_
        obtain⟨v19,hv19,h⟩:=ZA h
        refine d2Y [o0] (fun st2 h2=>(ih _ _ _ _ _ hv19 st2 _ hnd ((h2 _ (by simp)).trans (by simp only[go_sem,fx])))) (by simp) (by simp only[List.mem_cons,List.not_mem_nil,or_false,forall_eq_or_imp,forall_eq];exact⟨by first|omega|(simp<;>omega),_,(by simp only[go_sem,fx]<;>rfl),Ob.noConfusion⟩) (by simp) ?_
        try simp only[go_sem,fx]
        try refine⟨by first|omega|(simp<;>omega),?_⟩
        refine cd h (fun hc h=>?_) fun hc h=>?_
        ·refine ra ?_
         cases h
         refine XY ?_;have h:=congrArg some (hx3 _ rfl)
         refine rr ?_
         exact fuo (.bool false) (.same _) h hsc
        ·refine rn ?_
         cases h
         exact d2U () (bu hsc)
       ·refine cf ?_
        refine d2V ?_;simp only[go_sem,fx]
        exact⟨(),(bu0 hsc)⟩
       ·try simp only[go_sem,fx]
        unfold d0r at h
        refine Zk hb ?_
        refine rr ?_
        exact fus (.bool true) (.same _) h hsc
     ·refine cd h (fun hc h=>?_) fun hc h=>?_
      ·refine rn ?_
       obtain⟨v7,hv7,h⟩:=ZA h
       refine(d4w _ _ _ _ hv7 _ _ hnd (by simp only[go_sem,fx])).mono ?_
       rintro d1 st1 ⟨rfl,rfl⟩
       refine cd h (fun hc h=>?_) fun hc h=>?_
       ·refine rr ?_
        exact fuo (.bool false) (.same _) h hsc
       ·refine r0 ?_
        refine hj1 () _ _ _ h ?_;exact(bu hsc)
      ·refine cd h (fun hc h=>?_) fun hc h=>?_
       ·refine rr ?_
        exact fuo (.bool false) (.same _) h hsc
       ·refine r0 ?_
        refine hj1 () _ _ _ h ?_;exact(bu hsc)
    ·refine cd h (fun hc h=>?_) fun hc h=>?_
     ·refine r0 ?_
      refine hj0 () _ _ _ h ?_;exact(bu hsc)
     ·refine rn ?_
      obtain⟨v6,hv6,h⟩:=ZA h
      refine d2H (fun hG=>(Wx _ _ _ (i5t hv6 (by simpa using hG)))) ?_
      try simp only[go_sem,fx]
      refine hj0 () _ _ _ h ?_;exact(bu hsc)
theorem d3J(a1:Bs)(l0:(List Bs))(r:Int)(h:YI a1 l0=some r):∀(st:St) (o0 q0:Nat) (hnd: [o0].Nodup) (XZ:Am.look st o0=some (.arr q0 1 16 (rows Wt l0))),Am.Spec Tryz.prog gl 56 [.ref false o0 q0 0 l0.length,.str a1] st (fun d st'=>d= .int .i64 r∧st'=puts st []):=by
 intro st o0 q0 hnd XZ
 unfold YI at h
 have ho0:=WA XZ
 have fx:=idf ho0
 refine fb 19 [.tmp 4] [0,1,4,5,7,8,9,16] Tryz.func56 fun hsc=>?_
 refine ZJ (s':=(WE st [(o0,(.arr q0 1 16 (rows Wt l0)))])) (WJ (by simp[XZ])) ?_
 obtain⟨fx,h⟩:=ck fx h
 refine rn ?_
 refine rng (body:=Yf a1 l0) (kk:=Yg) (n:=l0.length) (s0:=())
  (fun(gs0:Unit) (k0:Nat) (s0:Unit)=>[(0,.ref false o0 q0 0 l0.length),(1,.str a1),(7,.int .i64 (↑l0.length:Int)),(8,.int .i64 (↑k0:Int))])
  (fun(gs0:Unit) (k0:Nat) (s0:Unit)=>(WE st [(o0,(.arr q0 1 16 (rows Wt l0)))]))
  (fun(gt0:Unit) (t0:Unit)=>[])
  (fun(gt0:Unit) (t0:Unit)=>(WE st [(o0,(.arr q0 1 16 (rows Wt l0)))]))
  () fx fx.2 h (i9O hsc)
  (fun gs0 k0 s0 b0 fx h hx0=>?_) (fun gs0 s0=>?_) (fun gt0 t0 fr1 st1 h hb=>?_)
 ·unfold Yf at h
  refine ct ?_
  refine r0 ?_
  refine r0 ?_
  refine r0 ?_
  have fy:=(show(rows Wt l0).getD k0 []=Wt (get l0 k0)from r2f (E:=Wt) (l:=l0) (k:=k0) (by first|omega|(simp;omega)))
  have fy:=fa fy (show k0<l0.length from by first|omega|(simp;omega))
  refine r1 ?_
  refine cd h (fun hc h=>?_) fun hc h=>?_
  ·refine ra ?_
   cases h
   refine XY ?_;have h:=congrArg some (hx0 _ rfl)
   refine rr ?_
   exact fus (.int .i64 (↑k0:Int)) (.same _) h hsc (hr:=by rintro rfl;exact⟨rfl,WJ (by simp[XZ])⟩)
  ·refine rn ?_
   cases h
   exact d2U () (i9O hsc)
 ·refine cf ?_
  refine d2V ?_;simp only[go_sem,fx]
  exact⟨(),(i9O hsc)⟩
 ·try simp only[go_sem,fx]
  unfold Yg at h
  refine Zk hb ?_
  refine rr ?_
  exact fus (.int .i64 (-1)) (.same _) h hsc (hr:=by rintro rfl;exact⟨rfl,WJ (by simp[XZ])⟩)
theorem d3i(a1:Bs)(l0:(List Bs))(r:Bool)(h:WZ a1 l0=some r):∀(st:St) (o0 q0:Nat) (hnd: [o0].Nodup) (XZ:Am.look st o0=some (.arr q0 1 16 (rows Wt l0))),Am.Spec Tryz.prog gl 31 [.ref false o0 q0 0 l0.length,.str a1] st (fun d st'=>d= .bool r∧st'=puts st []):=by
 intro st o0 q0 hnd XZ
 unfold WZ at h
 have ho0:=WA XZ
 have fx:=idf ho0
 refine fb 9 [.tmp 4] [0,1,4] Tryz.func31 fun hsc=>?_
 refine ZJ (s':=(WE st [(o0,(.arr q0 1 16 (rows Wt l0)))])) (WJ (by simp[XZ])) ?_
 refine rn ?_
 obtain⟨v1,hv1,h⟩:=ZA h
 refine(d3J _ _ _ hv1 _ _ q0 hnd (by simp only[go_sem,fx])).mono ?_
 rintro d1 st1 ⟨rfl,rfl⟩
 refine rr ?_
 exact fus (.bool (decide (0≤v1))) (.same _) h hsc (hr:=by rintro rfl;exact⟨rfl,WJ (by simp[XZ])⟩)
theorem i0P:∀(n:Nat) (a0:Lr) (r:Lr) (h:d1y n a0=some r),Pure Tryz.prog gl 111 [.agg [.int .i64 a0.kind,.str a0.name,.sl false 1 16 (rows Wt a0.words),.sl false 4 72 (rows Lr.cells a0.subs)]] (.agg [.int .i64 r.kind,.str r.name,.sl false 1 16 (rows Wt r.words),.sl false 4 72 (rows Lr.cells r.subs)]):=by
 intro n
 induction n with
 |zero=>intro a0 r h;cases h
 |succ n ih=>
  intro a0 r h st
  unfold d1y at h
  have fx:=trivial
  refine fb 30 [.cell 2 31] [0,1,2,3,5,15,16,17,18] Tryz.func111 fun hsc=>?_
  refine rn ?_
  refine dw [] 1 ?_
  obtain⟨v1,hv1,h⟩:=ZA h
  refine d1v (d4h _ _ hv1) ?_
  try simp only[go_sem,fx]
  refine r0 ?_
  (repeat apply sq_)
  refine d0f 4 72 ?_
  try simp only[List.append_assoc,List.cons_append,List.nil_append]
  refine Zk (F:=[(2,.ptr (st.length+1) 0 0 0),(3,.ptr (st.length+2) 0 0 0),(15,.sl false 4 72 (rows Lr.cells a0.subs)),(16,.int .i64 (↑a0.subs.length:Int)),(17,.int .i64 0)]) (T:=st++[some (.arr 0 4 0 [[.int .i64 a0.kind,.str a0.name,.sl false 1 16 (rows Wt a0.words),.sl false 4 72 (rows Lr.cells a0.subs)]]),some (.arr 0 4 0 [[.int .i64 0,.str [],.WB,.WB]]),some (.arr 0 4 0 [[.int .i64 a0.kind,.str a0.name,.sl false 1 16 (rows Wt v1),.ref false (st.length+3) 0 0 0]]),some (.arr 0 4 72 (rows Lr.cells []))]) (i8C hsc (.lv (.lv (.live _ _ _ _ (.arr _ _ _ _ _ (.cons _ _ _ _ (.cons _ _ _ _ .s (.cons _ _ _ _ .s (.cons _ _ _ _ .s (.cons _ _ _ _ (.nref _ _ _ _ _ _ (i2t.trans rfl)) .nil)))) (.same _))) (.lv (.nil _))))) (by simp) ⟨.s,.s,.s,.s,.s,trivial⟩ (by simp)) ?_
  refine aln 15 fun hl0=>?_
  refine rng (body:=d2M (d1y n) a0) (kk:=d2N a0 v1) (n:=a0.subs.length) (s0:=[])
   (fun(gs0:Nat) (k0:Nat) (s0:(List Lr))=>[(2,.ptr (st.length+1) 0 0 0),(3,.ptr (st.length+2) 0 0 0),(15,.sl false 4 72 (rows Lr.cells a0.subs)),(16,.int .i64 (↑a0.subs.length:Int)),(17,.int .i64 (↑k0:Int))])
   (fun(gs0:Nat) (k0:Nat) (s0:(List Lr))=>st++[none,some (.arr 0 4 0 [[.int .i64 0,.str [],.WB,.WB]]),some (.arr 0 4 0 [[.int .i64 a0.kind,.str a0.name,.sl false 1 16 (rows Wt v1),.ref false (st.length+3) gs0 0 s0.length]]),some (.arr gs0 4 72 (rows Lr.cells s0))])
   (fun(gt0:Nat) (t0:(List Lr))=>[(2,.ptr (st.length+1) 0 0 0),(3,.ptr (st.length+2) 0 0 0)])
   (fun(gt0:Nat) (t0:(List Lr))=>st++[none,some (.arr 0 4 0 [[.int .i64 0,.str [],.WB,.WB]]),some (.arr 0 4 0 [[.int .i64 a0.kind,.str a0.name,.sl false 1 16 (rows Wt v1),.ref false (st.length+3) gt0 0 t0.length]]),some (.arr gt0 4 72 (rows Lr.cells t0))])
   0 fx hl0 h (bm hsc)
   (fun gs0 k0 s0 b0 fx h hx0=>?_) (fun gs0 s0=>?_) (fun gt0 t0 fr1 st1 h hb=>?_)
  ·unfold d2M at h
   refine ct ?_
   refine rn ?_
   refine dw [] 2 ?_
   obtain⟨v9,hv9,h⟩:=ZA h
   refine d1v (ih _ _ hv9) ?_
   obtain⟨c11,p8C,h⟩:=d4o h
   have fy:=(show rows Lr.cells s0++[[.int .i64 v9.kind,.str v9.name,.sl false 1 16 (rows Wt v9.words),.sl false 4 72 (rows Lr.cells v9.subs)]]=rows Lr.cells c11 from by rw[p8C];first|exact Xi (E:=Lr.cells) s0 [v9]|simp only[go_sem,rows,List.map_append,List.map_cons,List.map_nil])
   have fy:=fa fy (show s0.length+1=c11.length from by rw[p8C];simp)
   obtain⟨fx,h⟩:=ck fx h
   try simp only[go_sem,fx,fy]
   refine rn ?_
   cases h
   exact d2U (gs0+1) (bm hsc)
  ·refine cf ?_
   refine d2V ?_;simp only[go_sem,fx]
   exact⟨gs0,(bm hsc)⟩
  ·try simp only[go_sem,fx]
   unfold d2N at h
   refine Zk hb ?_
   refine rr ?_
   exact fo (.agg [.int .i64 a0.kind,.str a0.name,.sl false 1 16 (rows Wt v1),.sl false 4 72 (rows Lr.cells t0)]) (.agg _ _ (.cons _ _ _ _ .s (.cons _ _ _ _ .s (.cons _ _ _ _ .s (.cons _ _ _ _ (.ref _ _ _ _ _ _ _ _ _ (i2t.trans rfl) p2p (by decide) (d5x _) (by simp only[go_sem])) .nil))))) h hsc
end Go.Proofs.YtfacbpehlibilaaGreatDoor
