import Derived.Test.YtdjnbjnlnjhllaaDoorFBWalk2
set_option linter.unusedVariables false
set_option linter.unusedSimpArgs false
set_option maxHeartbeats 2000000
set_option maxRecDepth 100000
namespace Go.Proofs.YtdjnbjnlnjhllaaDoor
open Go Go.Am
theorem Xj(n:Nat)(a0:Mb)(r:Mb)(h:Qo n a0=some r):Pure Tryd.prog gl 47 [.agg [.int .i64 a0.form.kind,.str a0.form.name,.sl false 1 16 (rows Me a0.form.words),.sl false 4 72 (rows LZ.cells a0.form.subs),.sl false 1 16 (rows Me a0.words),.sl false 1 16 (rows Me a0.Mj),.sl false 1 16 (rows Me a0.parts)]] (.agg [.int .i64 r.form.kind,.str r.form.name,.sl false 1 16 (rows Me r.form.words),.sl false 4 72 (rows LZ.cells r.form.subs),.sl false 1 16 (rows Me r.words),.sl false 1 16 (rows Me r.Mj),.sl false 1 16 (rows Me r.parts)]):=by
 intro st
 unfold Qo at h
 have fx:=trivial
 refine fb 23 [.cell 2 27] [0,1,2,3,4] Tryd.func47 fun hsc=>?_
 refine rn ?_
 refine dw [3,6,10,14] 0 ?_
 obtain⟨v1,hv1,h⟩:=QJ h
 refine d0f [st.length,(st.length+2)] (fun st2 h2=>((Wt n _ _ _ _ _ _ _ _ _ _ hv1 st2 _ _ (by simp) ((h2 _ (by simp)).trans (Ta.trans rfl)) ((h2 _ (by simp)).trans (Xv.trans rfl))).up (.cons _ _ _ _ .s (.cons _ _ _ _ (.Mk _ _ _ (by decide)) (.cons _ _ _ _ .s (.cons _ _ _ _ .s .nil)))) (by have q0:=MZ ((h2 st.length (by simp)).trans (Ta.trans rfl));have q1:=MZ ((h2 (st.length+2) (by simp)).trans (Xv.trans rfl));simp<;>omega))) (by simp) (by simp only[List.mem_cons,List.not_mem_nil,or_false,forall_eq_or_imp,forall_eq];exact⟨⟨by first|omega|(simp<;>omega),_,(Ta.trans rfl),Ob.noConfusion⟩,⟨by first|omega|(simp<;>omega),_,(Xv.trans rfl),Ob.noConfusion⟩⟩) (by simp) ?_
 try simp only[go_sem,fx]
 obtain⟨v2,hv2,h⟩:=QJ h
 refine Pt (Rq _ _ _ hv2) ?_
 try simp only[go_sem,fx]
 obtain⟨v3,hv3,h⟩:=QJ h
 refine Pt (Rq _ _ _ hv3) ?_
 try simp only[go_sem,fx]
 obtain⟨v4,hv4,h⟩:=QJ h
 refine Pt (Rq _ _ _ hv4) ?_
 try simp only[go_sem,fx]
 try refine⟨by first|omega|(simp<;>omega),?_⟩
 exact rt
theorem Tx(a0:(List Bs))(a1:(List Bs))(r:Bool)(h:Nd a0 a1=some r):Pure Tryd.prog gl 77 [.sl false 1 16 (rows Me a0),.sl false 1 16 (rows Me a1)] (.bool r):=by
 intro st
 unfold Nd at h
 have fx:=trivial
 refine fb 26 [.tmp 4] [0,1,4,5,10,12,13,14,24] Tryd.func77 fun hsc=>?_
 refine cd h (fun hc h=>?_) fun hc h=>?_
 ·exact rt
 ·refine aln 0 fun hl0=>?_
  refine rng (body:=NI a1 a0) (kk:=NJ) (n:=a0.length) (s0:=())
   (fun(gs0:Unit) (k0:Nat) (s0:Unit)=>[(0,.sl false 1 16 (rows Me a0)),(1,.sl false 1 16 (rows Me a1)),(12,.int .i64 (↑a0.length:Int)),(13,.int .i64 (↑k0:Int))])
   (fun(gs0:Unit) (k0:Nat) (s0:Unit)=>st)
   (fun(gt0:Unit) (t0:Unit)=>[])
   (fun(gt0:Unit) (t0:Unit)=>st)
   () fx hl0 h (Zf hsc)
   (fun gs0 k0 s0 b0 fx h hx0=>?_) (fun gs0 s0=>?_) (fun gt0 t0 fr1 st1 h hb=>?_)
  ·unfold NI at h
   refine ct ?_
   refine rn ?_
   obtain⟨fx,h⟩:=ck fx h
   refine dw [] 0 ?_
   refine cd h (fun hc h=>?_) fun hc h=>?_
   ·refine ra ?_
    cases h
    refine OG ?_;have h:=congrArg some (hx0 _ rfl)
    exact rt
   ·refine rn ?_
    cases h
    exact Um () (Zf hsc)
  ·refine cf ?_
   refine Ud ?_;simp only[go_sem,fx]
   exact⟨(),(Zf hsc)⟩
  ·try simp only[go_sem,fx]
   unfold NJ at h
   refine Ql hb ?_
   exact rt
theorem ZM:∀(n:Nat) (a0:LZ) (a1:LZ) (r:Bool) (h:Rm n a0 a1=some r),Pure Tryd.prog gl 61 [.agg [.int .i64 a0.kind,.str a0.name,.sl false 1 16 (rows Me a0.words),.sl false 4 72 (rows LZ.cells a0.subs)],.agg [.int .i64 a1.kind,.str a1.name,.sl false 1 16 (rows Me a1.words),.sl false 4 72 (rows LZ.cells a1.subs)]] (.bool r):=by
 intro n
 induction n with
 |zero=>intro a0 a1 r h;cases h
 |succ n ih=>
  intro a0 a1 r h st
  unfold Rm at h
  have fx:=trivial
  refine fb 54 [.tmp 4] [0,1,2,3,4,5,12,13,14,15,16,19,20,21,22,23,24,27,28,29,30,31,32,33,34,37,38,39,52] Tryd.func61 fun hsc=>?_
  refine rn ?_
  obtain⟨v1,hv1,h⟩:=QJ h
  refine SZ (fun hG=>(Tx _ _ _ (d3Z hv1 (by simpa using hG)))) ?_
  refine cd h (fun hc h=>?_) fun hc h=>?_
  ·exact rt
  ·obtain⟨fx,h⟩:=ck fx h
   refine rn ?_
   refine rng (body:=RW (Rm n) a1 a0) (kk:=RX) (n:=a0.subs.length) (s0:=())
    (fun(gs0:Unit) (k0:Nat) (s0:Unit)=>[(2,.ptr st.length 0 0 0),(3,.ptr (st.length+1) 0 0 0),(37,.int .i64 (↑a0.subs.length:Int)),(38,.int .i64 (↑k0:Int))])
    (fun(gs0:Unit) (k0:Nat) (s0:Unit)=>st++[some (.arr 0 4 0 [[.int .i64 a0.kind,.str a0.name,.sl false 1 16 (rows Me a0.words),.sl false 4 72 (rows LZ.cells a0.subs)]]),some (.arr 0 4 0 [[.int .i64 a1.kind,.str a1.name,.sl false 1 16 (rows Me a1.words),.sl false 4 72 (rows LZ.cells a1.subs)]])])
    (fun(gt0:Unit) (t0:Unit)=>[])
    (fun(gt0:Unit) (t0:Unit)=>st)
    () fx fx.2 h (bm hsc)
    (fun gs0 k0 s0 b0 fx h hx0=>?_) (fun gs0 s0=>?_) (fun gt0 t0 fr1 st1 h hb=>?_)
   ·unfold RW at h
    refine ct ?_
    refine rn ?_
    obtain⟨fx,h⟩:=ck fx h
    refine dw [] 0 ?_
    obtain⟨v4,hv4,h⟩:=QJ h
    refine Pt (ih _ _ _ hv4) ?_
    try simp only[go_sem,fx]
    refine cd h (fun hc h=>?_) fun hc h=>?_
    ·refine ra ?_
     cases h
     refine OG ?_;have h:=congrArg some (hx0 _ rfl)
     exact rt
    ·refine rn ?_
     cases h
     exact Um () (bm hsc)
   ·refine cf ?_
    refine Ud ?_;simp only[go_sem,fx]
    exact⟨(),(bm0 hsc)⟩
   ·try simp only[go_sem,fx]
    unfold RX at h
    refine Ql hb ?_
    exact rt
theorem TH(a1:Bs)(a2:Bs)(m0:(List (Bs×Ma)))(r:Bool×(List (Bs×Ma)))(h:Oz a1 a2 m0=some r):∀(st:St) (o0:Nat) (hnd: [o0].Nodup) (QM:Am.look st o0=some (.mps true (mrw Ma.cells m0))),Am.Spec Tryd.prog gl 62 [.mp o0,.str a1,.str a2] st (fun d st'=>d= .bool r.1∧st'=puts st [(o0,(.mps true (mrw Ma.cells r.2)))]):=by
 intro st o0 hnd QM
 unfold Oz at h
 have ho0:=MZ QM
 have fx:=idf ho0
 refine fb 25 [.tmp 6] [0,1,2,6,7,8,15] Tryd.func62 fun hsc=>?_
 refine Tf (s':=(Nf st [(o0,(.mps true (mrw Ma.cells m0)))])) (MS (by simp[QM])) ?_
 refine cd h (fun hc h=>?_) fun hc h=>?_
 ·refine rr ?_
  exact fuo (.bool (decide ((((assoc a1 m0).getD default).text)=a2))) (.same _) h hsc
 ·refine r0 ?_
  obtain⟨c1,hc1,h⟩:=Yp h
  have fy:=(show ML a1 [.str a1,.str a2,.int .i64 0,.str [],.sl false 1 16 [],.sl false 4 72 []] (mrw Ma.cells m0)=mrw Ma.cells c1 from by rw[hc1];exact d6v (κ:=Bs) (E:=Ma.cells) a1 (Ma.mk a1 a2 (LZ.mk 0 [] [] [])) m0)
  refine r1 ?_
  refine rr ?_
  exact fuo (.bool true) (.same _) h hsc
theorem Wu:∀(n:Nat) (a0:Mb) (a1:LZ) (a2:LZ) (m0:(List (Bs×Ma))) (r:Bool×(List (Bs×Ma))) (h:Mz n a0 a1 a2 m0=some r),∀(st:St) (o0:Nat) (hnd: [o0].Nodup) (QM:Am.look st o0=some (.mps true (mrw Ma.cells m0))),Am.Spec Tryd.prog gl 48 [.agg [.int .i64 a0.form.kind,.str a0.form.name,.sl false 1 16 (rows Me a0.form.words),.sl false 4 72 (rows LZ.cells a0.form.subs),.sl false 1 16 (rows Me a0.words),.sl false 1 16 (rows Me a0.Mj),.sl false 1 16 (rows Me a0.parts)],.agg [.int .i64 a1.kind,.str a1.name,.sl false 1 16 (rows Me a1.words),.sl false 4 72 (rows LZ.cells a1.subs)],.agg [.int .i64 a2.kind,.str a2.name,.sl false 1 16 (rows Me a2.words),.sl false 4 72 (rows LZ.cells a2.subs)],.mp o0] st (fun d st'=>d= .bool r.1∧st'=puts st [(o0,(.mps true (mrw Ma.cells r.2)))]):=by
 intro n
 induction n with
 |zero=>intro a0 a1 a2 m0 r h;cases h
 |succ n ih=>
  intro a0 a1 a2 m0 r h st o0 hnd QM
  unfold Mz at h
  have ho0:=MZ QM
  have fx:=idf ho0
  refine fb 138 [.tmp 8] [0,1,2,3,4,5,6,8,9,10,11,12,14,15,16,19,27,45,46,47,48,49,50,51,52,53,60,61,62,63,64,72,73,80,81,82,83,93,96,97,98,99,109,110,120,121,122,123,136] Tryd.func48 fun hsc=>?_
  refine Tf (s':=(Nf st [(o0,(.mps true (mrw Ma.cells m0)))])) (MS (by simp[QM])) ?_
  refine cl h (Ss _ _) fun v1 h=>?_
  refine cd h (fun hc h=>?_) fun hc h=>?_
  ·refine cd h (fun hc h=>?_) fun hc h=>?_
   ·refine cl h (ZM n _ _) fun v2 h=>?_
    refine rr ?_
    exact fuo (.bool v2) (.same _) h hsc
   ·refine r0 ?_
    obtain⟨c3,hc3,h⟩:=Yp h
    have fy:=(show ML a1.name [.str a1.name,.str [],.int .i64 a2.kind,.str a2.name,.sl false 1 16 (rows Me a2.words),.sl false 4 72 (rows LZ.cells a2.subs)] (mrw Ma.cells m0)=mrw Ma.cells c3 from by rw[hc3];exact d6v (κ:=Bs) (E:=Ma.cells) a1.name (Ma.mk a1.name [] a2) m0)
    refine r1 ?_
    refine rr ?_
    exact fuo (.bool true) (.same _) h hsc
  ·refine cd h (fun hc h=>?_) fun hc h=>?_
   ·refine rr ?_
    exact fuo (.bool false) (.same _) h hsc
   ·refine cl h (Nh _) fun v5 h=>?_
    refine rn ?_
    refine Sw (Nn (Mz n) a1 a2 m0 a0) r (fun(gj0:Unit) (j0:Bool)=>[(3,.mp o0),(4,.ptr st.length 0 0 0),(5,.ptr (st.length+1) 0 0 0),(6,.ptr (st.length+2) 0 0 0),(53,.bool j0)]) (fun(gj0:Unit) (j0:Bool)=>(Nf st [(o0,(.mps true (mrw Ma.cells m0)))])++[some (.arr 0 7 0 [[.int .i64 a0.form.kind,.str a0.form.name,.sl false 1 16 (rows Me a0.form.words),.sl false 4 72 (rows LZ.cells a0.form.subs),.sl false 1 16 (rows Me a0.words),.sl false 1 16 (rows Me a0.Mj),.sl false 1 16 (rows Me a0.parts)]]),some (.arr 0 4 0 [[.int .i64 a1.kind,.str a1.name,.sl false 1 16 (rows Me a1.words),.sl false 4 72 (rows LZ.cells a1.subs)]]),some (.arr 0 4 0 [[.int .i64 a2.kind,.str a2.name,.sl false 1 16 (rows Me a2.words),.sl false 4 72 (rows LZ.cells a2.subs)]])]) (fun gj0 j0 fr1 st1 h hb=>?_) (fun hj0=>?_)
    ·try simp only[go_sem,fx]
     unfold Nn at h
     refine Ql hb ?_
     (repeat apply sq_)
     refine Sw (NQ (Mz n) a1 a0 a2) r (fun(gj1:Unit) (j1:(List (Bs×Ma)))=>[(3,.mp o0),(4,.ptr st.length 0 0 0),(5,.ptr (st.length+1) 0 0 0),(6,.ptr (st.length+2) 0 0 0)]) (fun(gj1:Unit) (j1:(List (Bs×Ma)))=>(Nf st [(o0,(.mps true (mrw Ma.cells j1)))])++[some (.arr 0 7 0 [[.int .i64 a0.form.kind,.str a0.form.name,.sl false 1 16 (rows Me a0.form.words),.sl false 4 72 (rows LZ.cells a0.form.subs),.sl false 1 16 (rows Me a0.words),.sl false 1 16 (rows Me a0.Mj),.sl false 1 16 (rows Me a0.parts)]]),some (.arr 0 4 0 [[.int .i64 a1.kind,.str a1.name,.sl false 1 16 (rows Me a1.words),.sl false 4 72 (rows LZ.cells a1.subs)]]),some (.arr 0 4 0 [[.int .i64 a2.kind,.str a2.name,.sl false 1 16 (rows Me a2.words),.sl false 4 72 (rows LZ.cells a2.subs)]])]) (fun gj1 j1 fr1 st1 h hb=>?_) (fun hj1=>?_)
     ·try simp only[go_sem,fx]
      unfold NQ at h
      refine Ql hb ?_
      refine aln 80 fun hl2=>?_
      refine rng (body:=OA a1 a0 a2) (kk:=PI (Mz n) a2 a0 a1) (n:=a1.words.length) (s0:=j1)
       (fun(gs2:Unit) (k2:Nat) (s2:(List (Bs×Ma)))=>[(3,.mp o0),(4,.ptr st.length 0 0 0),(5,.ptr (st.length+1) 0 0 0),(6,.ptr (st.length+2) 0 0 0),(80,.sl false 1 16 (rows Me a1.words)),(81,.int .i64 (↑a1.words.length:Int)),(82,.int .i64 (↑k2:Int))])
       (fun(gs2:Unit) (k2:Nat) (s2:(List (Bs×Ma)))=>(Nf st [(o0,(.mps true (mrw Ma.cells s2)))])++[some (.arr 0 7 0 [[.int .i64 a0.form.kind,.str a0.form.name,.sl false 1 16 (rows Me a0.form.words),.sl false 4 72 (rows LZ.cells a0.form.subs),.sl false 1 16 (rows Me a0.words),.sl false 1 16 (rows Me a0.Mj),.sl false 1 16 (rows Me a0.parts)]]),some (.arr 0 4 0 [[.int .i64 a1.kind,.str a1.name,.sl false 1 16 (rows Me a1.words),.sl false 4 72 (rows LZ.cells a1.subs)]]),some (.arr 0 4 0 [[.int .i64 a2.kind,.str a2.name,.sl false 1 16 (rows Me a2.words),.sl false 4 72 (rows LZ.cells a2.subs)]])])
       (fun(gt2:Unit) (t2:(List (Bs×Ma)))=>[(3,.mp o0),(4,.ptr st.length 0 0 0),(5,.ptr (st.length+1) 0 0 0),(6,.ptr (st.length+2) 0 0 0)])
       (fun(gt2:Unit) (t2:(List (Bs×Ma)))=>(Nf st [(o0,(.mps true (mrw Ma.cells t2)))])++[some (.arr 0 7 0 [[.int .i64 a0.form.kind,.str a0.form.name,.sl false 1 16 (rows Me a0.form.words),.sl false 4 72 (rows LZ.cells a0.form.subs),.sl false 1 16 (rows Me a0.words),.sl false 1 16 (rows Me a0.Mj),.sl false 1 16 (rows Me a0.parts)]]),some (.arr 0 4 0 [[.int .i64 a1.kind,.str a1.name,.sl false 1 16 (rows Me a1.words),.sl false 4 72 (rows LZ.cells a1.subs)]]),some (.arr 0 4 0 [[.int .i64 a2.kind,.str a2.name,.sl false 1 16 (rows Me a2.words),.sl false 4 72 (rows LZ.cells a2.subs)]])])
       () fx hl2 h (bu hsc)
       (fun gs2 k2 s2 b2 fx h hx2=>?_) (fun gs2 s2=>?_) (fun gt2 t2 fr1 st1 h hb=>?_)
      ·unfold OA at h
       refine ct ?_
       refine rn ?_
       obtain⟨v12,hv12,h⟩:=QJ h
       refine SZ (fun hG=>(Mh _ _ _ (d3Z hv12 (by simpa using hG)))) ?_
       refine cd h (fun hc h=>?_) fun hc h=>?_
       ·obtain⟨fx,h⟩:=ck fx h
        refine rn ?_
        obtain⟨v14,hv14,h⟩:=QJ h
        refine(TH _ _ _ _ hv14 _ _ hnd (by simp only[go_sem,fx])).mono ?_
        rintro d1 st1 ⟨rfl,rfl⟩
        refine cd h (fun hc h=>?_) fun hc h=>?_
        ·refine ra ?_
         cases h
         refine OG ?_;have h:=congrArg some (hx2 _ rfl)
         refine rr ?_
         exact fuo (.bool false) (.same _) h hsc
        ·refine rn ?_
         cases h
         exact Um () (bu hsc)
       ·obtain⟨fx,h⟩:=ck fx h
        refine cd h (fun hc h=>?_) fun hc h=>?_
        ·refine ra ?_
         cases h
         refine OG ?_;have h:=congrArg some (hx2 _ rfl)
         refine rr ?_
         exact fuo (.bool false) (.same _) h hsc
        ·refine rn ?_
         cases h
         exact Um () (bu hsc)
      ·refine cf ?_
       refine Ud ?_;simp only[go_sem,fx]
       exact⟨(),(bu hsc)⟩
      ·try simp only[go_sem,fx]
       unfold PI at h
       refine Ql hb ?_
       refine aln 120 fun hl3=>?_
       refine rng (body:=PJ (Mz n) a2 a0 a1) (kk:=PK) (n:=a1.subs.length) (s0:=t2)
        (fun(gs3:Unit) (k3:Nat) (s3:(List (Bs×Ma)))=>[(3,.mp o0),(4,.ptr st.length 0 0 0),(6,.ptr (st.length+2) 0 0 0),(120,.sl false 4 72 (rows LZ.cells a1.subs)),(121,.int .i64 (↑a1.subs.length:Int)),(122,.int .i64 (↑k3:Int))])
        (fun(gs3:Unit) (k3:Nat) (s3:(List (Bs×Ma)))=>(Nf st [(o0,(.mps true (mrw Ma.cells s3)))])++[some (.arr 0 7 0 [[.int .i64 a0.form.kind,.str a0.form.name,.sl false 1 16 (rows Me a0.form.words),.sl false 4 72 (rows LZ.cells a0.form.subs),.sl false 1 16 (rows Me a0.words),.sl false 1 16 (rows Me a0.Mj),.sl false 1 16 (rows Me a0.parts)]]),none,some (.arr 0 4 0 [[.int .i64 a2.kind,.str a2.name,.sl false 1 16 (rows Me a2.words),.sl false 4 72 (rows LZ.cells a2.subs)]])])
        (fun(gt3:Unit) (t3:(List (Bs×Ma)))=>[])
        (fun(gt3:Unit) (t3:(List (Bs×Ma)))=>(Nf st [(o0,(.mps true (mrw Ma.cells t3)))]))
        () fx hl3 h (bu hsc)
        (fun gs3 k3 s3 b3 fx h hx3=>?_) (fun gs3 s3=>?_) (fun gt3 t3 fr1 st1 h hb=>?_)
       ·unfold PJ at h
        refine ct ?_
        refine rn ?_
        obtain⟨fx,h⟩:=ck fx h
        refine dw [8] 0 ?_
        obtain⟨v19,hv19,h⟩:=QJ h
        refine d0f [o0] (fun st2 h2=>(ih _ _ _ _ _ hv19 st2 _ hnd ((h2 _ (by simp)).trans (by simp only[go_sem,fx])))) (by simp) (by simp only[List.mem_cons,List.not_mem_nil,or_false,forall_eq_or_imp,forall_eq];exact⟨by first|omega|(simp<;>omega),_,(by simp only[go_sem,fx]<;>rfl),Ob.noConfusion⟩) (by simp) ?_
        try simp only[go_sem,fx]
        try refine⟨by first|omega|(simp<;>omega),?_⟩
        refine cd h (fun hc h=>?_) fun hc h=>?_
        ·refine ra ?_
         cases h
         refine OG ?_;have h:=congrArg some (hx3 _ rfl)
         refine rr ?_
         exact fuo (.bool false) (.same _) h hsc
        ·refine rn ?_
         cases h
         exact Um () (bu hsc)
       ·refine cf ?_
        refine Ud ?_;simp only[go_sem,fx]
        exact⟨(),(bu0 hsc)⟩
       ·try simp only[go_sem,fx]
        unfold PK at h
        refine Ql hb ?_
        refine rr ?_
        exact fus (.bool true) (.same _) h hsc
     ·refine cd h (fun hc h=>?_) fun hc h=>?_
      ·refine rn ?_
       obtain⟨v7,hv7,h⟩:=QJ h
       refine(TH _ _ _ _ hv7 _ _ hnd (by simp only[go_sem,fx])).mono ?_
       rintro d1 st1 ⟨rfl,rfl⟩
       refine cd h (fun hc h=>?_) fun hc h=>?_
       ·refine rr ?_
        exact fuo (.bool false) (.same _) h hsc
       ·refine r0 ?_
        refine hj1 () _ _ _ h ?_;exact(bu hsc)
      ·refine cd h (fun hc h=>?_) fun hc h=>?_
       ·refine rr ?_
        exact fuo (.bool false) (.same _) h hsc
       ·refine r0 ?_
        refine hj1 () _ _ _ h ?_;exact(bu hsc)
    ·refine cd h (fun hc h=>?_) fun hc h=>?_
     ·refine r0 ?_
      refine hj0 () _ _ _ h ?_;exact(bu hsc)
     ·refine rn ?_
      obtain⟨v6,hv6,h⟩:=QJ h
      refine SZ (fun hG=>(Mh _ _ _ (d3Z hv6 (by simpa using hG)))) ?_
      try simp only[go_sem,fx]
      refine hj0 () _ _ _ h ?_;exact(bu hsc)
theorem SJ(a1:Bs)(l0:(List Bs))(r:Int)(h:NU a1 l0=some r):∀(st:St) (o0 q0:Nat) (hnd: [o0].Nodup) (QM:Am.look st o0=some (.arr q0 1 16 (rows Me l0))),Am.Spec Tryd.prog gl 45 [.ref false o0 q0 0 l0.length,.str a1] st (fun d st'=>d= .int .i64 r∧st'=puts st []):=by
 intro st o0 q0 hnd QM
 unfold NU at h
 have ho0:=MZ QM
 have fx:=idf ho0
 refine fb 19 [.tmp 4] [0,1,4,5,7,8,9,16] Tryd.func45 fun hsc=>?_
 refine Tf (s':=(Nf st [(o0,(.arr q0 1 16 (rows Me l0)))])) (MS (by simp[QM])) ?_
 obtain⟨fx,h⟩:=ck fx h
 refine rn ?_
 refine rng (body:=Nr a1 l0) (kk:=Ns) (n:=l0.length) (s0:=())
  (fun(gs0:Unit) (k0:Nat) (s0:Unit)=>[(0,.ref false o0 q0 0 l0.length),(1,.str a1),(7,.int .i64 (↑l0.length:Int)),(8,.int .i64 (↑k0:Int))])
  (fun(gs0:Unit) (k0:Nat) (s0:Unit)=>(Nf st [(o0,(.arr q0 1 16 (rows Me l0)))]))
  (fun(gt0:Unit) (t0:Unit)=>[])
  (fun(gt0:Unit) (t0:Unit)=>(Nf st [(o0,(.arr q0 1 16 (rows Me l0)))]))
  () fx fx.2 h (d7O hsc)
  (fun gs0 k0 s0 b0 fx h hx0=>?_) (fun gs0 s0=>?_) (fun gt0 t0 fr1 st1 h hb=>?_)
 ·unfold Nr at h
  refine ct ?_
  refine r0 ?_
  refine r0 ?_
  refine r0 ?_
  have fy:=(show(rows Me l0).getD k0 []=Me (get l0 k0)from i6D (E:=Me) (l:=l0) (k:=k0) (by first|omega|(simp;omega)))
  have fy:=fa fy (show k0<l0.length from by first|omega|(simp;omega))
  refine r1 ?_
  refine cd h (fun hc h=>?_) fun hc h=>?_
  ·refine ra ?_
   cases h
   refine OG ?_;have h:=congrArg some (hx0 _ rfl)
   refine rr ?_
   exact fus (.int .i64 (↑k0:Int)) (.same _) h hsc (hr:=by rintro rfl;exact⟨rfl,MS (by simp[QM])⟩)
  ·refine rn ?_
   cases h
   exact Um () (d7O hsc)
 ·refine cf ?_
  refine Ud ?_;simp only[go_sem,fx]
  exact⟨(),(d7O hsc)⟩
 ·try simp only[go_sem,fx]
  unfold Ns at h
  refine Ql hb ?_
  refine rr ?_
  exact fus (.int .i64 (-1)) (.same _) h hsc (hr:=by rintro rfl;exact⟨rfl,MS (by simp[QM])⟩)
theorem RT(a1:Bs)(l0:(List Bs))(r:Bool)(h:Ms a1 l0=some r):∀(st:St) (o0 q0:Nat) (hnd: [o0].Nodup) (QM:Am.look st o0=some (.arr q0 1 16 (rows Me l0))),Am.Spec Tryd.prog gl 23 [.ref false o0 q0 0 l0.length,.str a1] st (fun d st'=>d= .bool r∧st'=puts st []):=by
 intro st o0 q0 hnd QM
 unfold Ms at h
 have ho0:=MZ QM
 have fx:=idf ho0
 refine fb 9 [.tmp 4] [0,1,4] Tryd.func23 fun hsc=>?_
 refine Tf (s':=(Nf st [(o0,(.arr q0 1 16 (rows Me l0)))])) (MS (by simp[QM])) ?_
 refine rn ?_
 obtain⟨v1,hv1,h⟩:=QJ h
 refine(SJ _ _ _ hv1 _ _ q0 hnd (by simp only[go_sem,fx])).mono ?_
 rintro d1 st1 ⟨rfl,rfl⟩
 refine rr ?_
 exact fus (.bool (decide (0≤v1))) (.same _) h hsc (hr:=by rintro rfl;exact⟨rfl,MS (by simp[QM])⟩)
theorem SK(a0:(List Bs))(r:(List Bs))(h:NT a0=some r):Pure Tryd.prog gl 39 [.sl false 1 16 (rows Me a0)] (.sl false 1 16 (rows Me r)):=by
 intro st
 refine d4e ?_
 unfold NT at h
 have hr:=Option.some.inj h
 subst hr
 refine i4A (N:=8) (rs:=[.tmp 2]) (keep:=[0,2,4]) Tryd.func39 rfl rfl rfl (by kernel_rfl) rfl fun hsc=>?_
 refine i4o (t:=0) rfl fun hl=>?_
 (repeat apply sq_);apply er_;simp only[go_sem]
 (repeat apply sq_);refine d1N rfl ⟨9,by rw[i5S]⟩ (by omega) (by omega) fun c hcn=>?_
 simp only[go_sem]
 (repeat apply sq_);refine i1M (by rfl) (fun hc=>?_) fun hc=>?_
 ·(repeat apply sq_);apply er_;simp only[go_sem]
  refine d9Y ?_
  try simp only[go_sem]
  have i5j:=hcn hc
  rw[i5j]
  refine i1v ?_;simp only[go_sem]
  exact WS hsc (.Mk _ _ _ (by decide)) (by simp) ⟨rfl,rfl⟩
 ·refine d7M ?_;try simp only[go_sem]
  (repeat apply sq_);apply er_;simp only[go_sem]
  simp only[d1O]at hl
  refine⟨⟨by omega,by simp only[top]at *; omega⟩,?_⟩
  refine d9Y ?_
  try simp only[go_sem]
  refine i1v ?_;simp only[go_sem]
  exact d0J hsc (.ref _ _ _ _ _ _ _ _ _ (d2t.trans rfl) d8B (by decide) (ZJ a0) (by simp only[go_sem])) (by simp) ⟨rfl,rfl⟩
theorem ZA:∀(n:Nat) (a0:LZ) (r:LZ) (h:Qp n a0=some r),Pure Tryd.prog gl 49 [.agg [.int .i64 a0.kind,.str a0.name,.sl false 1 16 (rows Me a0.words),.sl false 4 72 (rows LZ.cells a0.subs)]] (.agg [.int .i64 r.kind,.str r.name,.sl false 1 16 (rows Me r.words),.sl false 4 72 (rows LZ.cells r.subs)]):=by
 intro n
 induction n with
 |zero=>intro a0 r h;cases h
 |succ n ih=>
  intro a0 r h st
  unfold Qp at h
  have fx:=trivial
  refine fb 30 [.cell 2 25] [0,1,2,3,5,15,16,17,18] Tryd.func49 fun hsc=>?_
  refine rn ?_
  refine dw [] 1 ?_
  obtain⟨v1,hv1,h⟩:=QJ h
  refine Pt (SK _ _ hv1) ?_
  try simp only[go_sem,fx]
  refine r0 ?_
  (repeat apply sq_)
  refine Te 4 72 ?_
  try simp only[List.append_assoc,List.cons_append,List.nil_append]
  refine Ql (F:=[(2,.ptr (st.length+1) 0 0 0),(3,.ptr (st.length+2) 0 0 0),(15,.sl false 4 72 (rows LZ.cells a0.subs)),(16,.int .i64 (↑a0.subs.length:Int)),(17,.int .i64 0)]) (T:=st++[some (.arr 0 4 0 [[.int .i64 a0.kind,.str a0.name,.sl false 1 16 (rows Me a0.words),.sl false 4 72 (rows LZ.cells a0.subs)]]),some (.arr 0 4 0 [[.int .i64 0,.str [],.Mk,.Mk]]),some (.arr 0 4 0 [[.int .i64 a0.kind,.str a0.name,.sl false 1 16 (rows Me v1),.ref false (st.length+3) 0 0 0]]),some (.arr 0 4 72 (rows LZ.cells []))]) (d7N hsc (.lv (.lv (.live _ _ _ _ (.arr _ _ _ _ _ (.cons _ _ _ _ (.cons _ _ _ _ .s (.cons _ _ _ _ .s (.cons _ _ _ _ .s (.cons _ _ _ _ (.nref _ _ _ _ _ _ (d2t.trans rfl)) .nil)))) (.same _))) (.lv (.nil _))))) (by simp) ⟨.s,.s,.s,.s,.s,trivial⟩ (by simp)) ?_
  refine aln 15 fun hl0=>?_
  refine rng (body:=RD (Qp n) a0) (kk:=RE a0 v1) (n:=a0.subs.length) (s0:=[])
   (fun(gs0:Nat) (k0:Nat) (s0:(List LZ))=>[(2,.ptr (st.length+1) 0 0 0),(3,.ptr (st.length+2) 0 0 0),(15,.sl false 4 72 (rows LZ.cells a0.subs)),(16,.int .i64 (↑a0.subs.length:Int)),(17,.int .i64 (↑k0:Int))])
   (fun(gs0:Nat) (k0:Nat) (s0:(List LZ))=>st++[none,some (.arr 0 4 0 [[.int .i64 0,.str [],.Mk,.Mk]]),some (.arr 0 4 0 [[.int .i64 a0.kind,.str a0.name,.sl false 1 16 (rows Me v1),.ref false (st.length+3) gs0 0 s0.length]]),some (.arr gs0 4 72 (rows LZ.cells s0))])
   (fun(gt0:Nat) (t0:(List LZ))=>[(2,.ptr (st.length+1) 0 0 0),(3,.ptr (st.length+2) 0 0 0)])
   (fun(gt0:Nat) (t0:(List LZ))=>st++[none,some (.arr 0 4 0 [[.int .i64 0,.str [],.Mk,.Mk]]),some (.arr 0 4 0 [[.int .i64 a0.kind,.str a0.name,.sl false 1 16 (rows Me v1),.ref false (st.length+3) gt0 0 t0.length]]),some (.arr gt0 4 72 (rows LZ.cells t0))])
   0 fx hl0 h (bm hsc)
   (fun gs0 k0 s0 b0 fx h hx0=>?_) (fun gs0 s0=>?_) (fun gt0 t0 fr1 st1 h hb=>?_)
  ·unfold RD at h
   refine ct ?_
   refine rn ?_
   refine dw [] 2 ?_
   obtain⟨v9,hv9,h⟩:=QJ h
   refine Pt (ih _ _ hv9) ?_
   obtain⟨c11,i3s,h⟩:=Yp h
   have fy:=(show rows LZ.cells s0++[[.int .i64 v9.kind,.str v9.name,.sl false 1 16 (rows Me v9.words),.sl false 4 72 (rows LZ.cells v9.subs)]]=rows LZ.cells c11 from by rw[i3s];first|exact ND (E:=LZ.cells) s0 [v9]|simp only[go_sem,rows,List.map_append,List.map_cons,List.map_nil])
   have fy:=fa fy (show s0.length+1=c11.length from by rw[i3s];simp)
   obtain⟨fx,h⟩:=ck fx h
   try simp only[go_sem,fx,fy]
   refine rn ?_
   cases h
   exact Um (gs0+1) (bm hsc)
  ·refine cf ?_
   refine Ud ?_;simp only[go_sem,fx]
   exact⟨gs0,(bm hsc)⟩
  ·try simp only[go_sem,fx]
   unfold RE at h
   refine Ql hb ?_
   refine rr ?_
   exact fo (.agg [.int .i64 a0.kind,.str a0.name,.sl false 1 16 (rows Me v1),.sl false 4 72 (rows LZ.cells t0)]) (.agg _ _ (.cons _ _ _ _ .s (.cons _ _ _ _ .s (.cons _ _ _ _ .s (.cons _ _ _ _ (.ref _ _ _ _ _ _ _ _ _ (d2t.trans rfl) d8B (by decide) (ZJ _) (by simp only[go_sem])) .nil))))) h hsc
end Go.Proofs.YtdjnbjnlnjhllaaDoor
