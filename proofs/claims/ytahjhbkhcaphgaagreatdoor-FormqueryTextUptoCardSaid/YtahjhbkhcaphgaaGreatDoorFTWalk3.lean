import Derived.Test.YtahjhbkhcaphgaaGreatDoorFTWalk2
set_option linter.unusedVariables false
set_option linter.unusedSimpArgs false
set_option maxHeartbeats 2000000
set_option maxRecDepth 100000
namespace Go.Proofs.YtahjhbkhcaphgaaGreatDoor
open Go Go.Am
theorem ly(n:Nat)(a0:w8)(r:w8)(h:eS n a0=some r):Pure Tryz.prog gl 50 [.agg [.int .i64 a0.form.kind,.str a0.form.name,.sl false 1 16 (rows w9 a0.form.words),.sl false 4 72 (rows u6.cells a0.form.subs),.sl false 1 16 (rows w9 a0.words),.sl false 1 16 (rows w9 a0.B1),.sl false 1 16 (rows w9 a0.parts)]] (.agg [.int .i64 r.form.kind,.str r.form.name,.sl false 1 16 (rows w9 r.form.words),.sl false 4 72 (rows u6.cells r.form.subs),.sl false 1 16 (rows w9 r.words),.sl false 1 16 (rows w9 r.B1),.sl false 1 16 (rows w9 r.parts)]):=by
 intro st
 unfold eS at h
 have fx:=trivial
 refine fb 23 [.cell 2 27] [0,1,2,3,4] Tryz.func50 fun hsc=>?_
 refine rn ?_
 refine dw [3,6,10,14] 0 ?_
 obtain⟨v1,hv1,h⟩:=M1 h
 refine gn [st.length,(st.length+2)] (fun st2 h2=>((jY n _ _ _ _ _ _ _ _ _ _ hv1 st2 _ _ (by simp) ((h2 _ (by simp)).trans (gi.trans rfl)) ((h2 _ (by simp)).trans (lC.trans rfl))).up (.cons _ _ _ _ .s (.cons _ _ _ _ (.y5 _ _ _ (by decide)) (.cons _ _ _ _ .s (.cons _ _ _ _ .s .nil)))) (by have q0:=F2 ((h2 st.length (by simp)).trans (gi.trans rfl));have q1:=F2 ((h2 (st.length+2) (by simp)).trans (lC.trans rfl));simp<;>omega))) (by simp) (by simp only[List.mem_cons,List.not_mem_nil,or_false,forall_eq_or_imp,forall_eq];exact⟨⟨by first|omega|(simp<;>omega),_,(gi.trans rfl),Ob.noConfusion⟩,⟨by first|omega|(simp<;>omega),_,(lC.trans rfl),Ob.noConfusion⟩⟩) (by simp) ?_
 try simp only[go_sem,fx]
 obtain⟨v2,hv2,h⟩:=M1 h
 refine U8 (bF _ _ _ hv2) ?_
 try simp only[go_sem,fx]
 obtain⟨v3,hv3,h⟩:=M1 h
 refine U8 (bF _ _ _ hv3) ?_
 try simp only[go_sem,fx]
 obtain⟨v4,hv4,h⟩:=M1 h
 refine U8 (bF _ _ _ hv4) ?_
 try simp only[go_sem,fx]
 try refine⟨by first|omega|(simp<;>omega),?_⟩
 exact rt
theorem ft(a0:(List Bs))(a1:(List Bs))(r:Bool)(h:G1 a0 a1=some r):Pure Tryz.prog gl 98 [.sl false 1 16 (rows w9 a0),.sl false 1 16 (rows w9 a1)] (.bool r):=by
 intro st
 unfold G1 at h
 have fx:=trivial
 refine fb 26 [.tmp 4] [0,1,4,5,10,12,13,14,24] Tryz.func98 fun hsc=>?_
 refine cd h (fun hc h=>?_) fun hc h=>?_
 ·exact rt
 ·refine aln 0 fun hl0=>?_
  refine rng (body:=L0 a1 a0) (kk:=L1) (n:=a0.length) (s0:=())
   (fun(gs0:Unit) (k0:Nat) (s0:Unit)=>[(0,.sl false 1 16 (rows w9 a0)),(1,.sl false 1 16 (rows w9 a1)),(12,.int .i64 (↑a0.length:Int)),(13,.int .i64 (↑k0:Int))])
   (fun(gs0:Unit) (k0:Nat) (s0:Unit)=>st)
   (fun(gt0:Unit) (t0:Unit)=>[])
   (fun(gt0:Unit) (t0:Unit)=>st)
   () fx hl0 h (jP hsc)
   (fun gs0 k0 s0 b0 fx h hx0=>?_) (fun gs0 s0=>?_) (fun gt0 t0 fr1 st1 h hb=>?_)
  ·unfold L0 at h
   refine ct ?_
   refine rn ?_
   obtain⟨fx,h⟩:=ck fx h
   refine dw [] 0 ?_
   refine cd h (fun hc h=>?_) fun hc h=>?_
   ·refine ra ?_
    cases h
    refine X8 ?_;have h:=congrArg some (hx0 _ rfl)
    exact rt
   ·refine rn ?_
    cases h
    exact ig () (jP hsc)
  ·refine cf ?_
   refine gO ?_;simp only[go_sem,fx]
   exact⟨(),(jP hsc)⟩
  ·try simp only[go_sem,fx]
   unfold L1 at h
   refine R6 hb ?_
   exact rt
theorem pJ:∀(n:Nat) (a0:u6) (a1:u6) (r:Bool) (h:br n a0 a1=some r),Pure Tryz.prog gl 81 [.agg [.int .i64 a0.kind,.str a0.name,.sl false 1 16 (rows w9 a0.words),.sl false 4 72 (rows u6.cells a0.subs)],.agg [.int .i64 a1.kind,.str a1.name,.sl false 1 16 (rows w9 a1.words),.sl false 4 72 (rows u6.cells a1.subs)]] (.bool r):=by
 intro n
 induction n with
 |zero=>intro a0 a1 r h;cases h
 |succ n ih=>
  intro a0 a1 r h st
  unfold br at h
  have fx:=trivial
  refine fb 54 [.tmp 4] [0,1,2,3,4,5,12,13,14,15,16,19,20,21,22,23,24,27,28,29,30,31,32,33,34,37,38,39,52] Tryz.func81 fun hsc=>?_
  refine rn ?_
  obtain⟨v1,hv1,h⟩:=M1 h
  refine bp (fun hG=>(ft _ _ _ (pE hv1 (by simpa using hG)))) ?_
  refine cd h (fun hc h=>?_) fun hc h=>?_
  ·exact rt
  ·obtain⟨fx,h⟩:=ck fx h
   refine rn ?_
   refine rng (body:=cR (br n) a1 a0) (kk:=cS) (n:=a0.subs.length) (s0:=())
    (fun(gs0:Unit) (k0:Nat) (s0:Unit)=>[(2,.ptr st.length 0 0 0),(3,.ptr (st.length+1) 0 0 0),(37,.int .i64 (↑a0.subs.length:Int)),(38,.int .i64 (↑k0:Int))])
    (fun(gs0:Unit) (k0:Nat) (s0:Unit)=>st++[some (.arr 0 4 0 [[.int .i64 a0.kind,.str a0.name,.sl false 1 16 (rows w9 a0.words),.sl false 4 72 (rows u6.cells a0.subs)]]),some (.arr 0 4 0 [[.int .i64 a1.kind,.str a1.name,.sl false 1 16 (rows w9 a1.words),.sl false 4 72 (rows u6.cells a1.subs)]])])
    (fun(gt0:Unit) (t0:Unit)=>[])
    (fun(gt0:Unit) (t0:Unit)=>st)
    () fx fx.2 h (bm hsc)
    (fun gs0 k0 s0 b0 fx h hx0=>?_) (fun gs0 s0=>?_) (fun gt0 t0 fr1 st1 h hb=>?_)
   ·unfold cR at h
    refine ct ?_
    refine rn ?_
    obtain⟨fx,h⟩:=ck fx h
    refine dw [] 0 ?_
    obtain⟨v4,hv4,h⟩:=M1 h
    refine U8 (ih _ _ _ hv4) ?_
    try simp only[go_sem,fx]
    refine cd h (fun hc h=>?_) fun hc h=>?_
    ·refine ra ?_
     cases h
     refine X8 ?_;have h:=congrArg some (hx0 _ rfl)
     exact rt
    ·refine rn ?_
     cases h
     exact ig () (bm hsc)
   ·refine cf ?_
    refine gO ?_;simp only[go_sem,fx]
    exact⟨(),(bm0 hsc)⟩
   ·try simp only[go_sem,fx]
    unfold cS at h
    refine R6 hb ?_
    exact rt
theorem fH(a1:Bs)(a2:Bs)(m0:(List (Bs×w7)))(r:Bool×(List (Bs×w7)))(h:S7 a1 a2 m0=some r):∀(st:St) (o0:Nat) (hnd: [o0].Nodup) (R8:Am.look st o0=some (.mps true (mrw w7.cells m0))),Am.Spec Tryz.prog gl 82 [.mp o0,.str a1,.str a2] st (fun d st'=>d= .bool r.1∧st'=puts st [(o0,(.mps true (mrw w7.cells r.2)))]):=by
 intro st o0 hnd R8
 unfold S7 at h
 have ho0:=F2 R8
 have fx:=idf ho0
 refine fb 25 [.tmp 6] [0,1,2,6,7,8,15] Tryz.func82 fun hsc=>?_
 refine aO (s':=(E8 st [(o0,(.mps true (mrw w7.cells m0)))])) (C5 (by simp[R8])) ?_
 refine cd h (fun hc h=>?_) fun hc h=>?_
 ·refine rr ?_
  exact fuo (.bool (decide ((((assoc a1 m0).getD default).text)=a2))) (.same _) h hsc
 ·refine r0 ?_
  obtain⟨c1,hc1,h⟩:=gG h
  have fy:=(show y6 a1 [.str a1,.str a2,.int .i64 0,.str [],.sl false 1 16 [],.sl false 4 72 []] (mrw w7.cells m0)=mrw w7.cells c1 from by rw[hc1];exact gS (κ:=Bs) (E:=w7.cells) a1 (w7.mk a1 a2 (u6.mk 0 [] [] [])) m0)
  refine r1 ?_
  refine rr ?_
  exact fuo (.bool true) (.same _) h hsc
theorem jZ:∀(n:Nat) (a0:w8) (a1:u6) (a2:u6) (m0:(List (Bs×w7))) (r:Bool×(List (Bs×w7))) (h:D4 n a0 a1 a2 m0=some r),∀(st:St) (o0:Nat) (hnd: [o0].Nodup) (R8:Am.look st o0=some (.mps true (mrw w7.cells m0))),Am.Spec Tryz.prog gl 51 [.agg [.int .i64 a0.form.kind,.str a0.form.name,.sl false 1 16 (rows w9 a0.form.words),.sl false 4 72 (rows u6.cells a0.form.subs),.sl false 1 16 (rows w9 a0.words),.sl false 1 16 (rows w9 a0.B1),.sl false 1 16 (rows w9 a0.parts)],.agg [.int .i64 a1.kind,.str a1.name,.sl false 1 16 (rows w9 a1.words),.sl false 4 72 (rows u6.cells a1.subs)],.agg [.int .i64 a2.kind,.str a2.name,.sl false 1 16 (rows w9 a2.words),.sl false 4 72 (rows u6.cells a2.subs)],.mp o0] st (fun d st'=>d= .bool r.1∧st'=puts st [(o0,(.mps true (mrw w7.cells r.2)))]):=by
 intro n
 induction n with
 |zero=>intro a0 a1 a2 m0 r h;cases h
 |succ n ih=>
  intro a0 a1 a2 m0 r h st o0 hnd R8
  unfold D4 at h
  have ho0:=F2 R8
  have fx:=idf ho0
  refine fb 138 [.tmp 8] [0,1,2,3,4,5,6,8,9,10,11,12,14,15,16,19,27,45,46,47,48,49,50,51,52,53,60,61,62,63,64,72,73,80,81,82,83,93,96,97,98,99,109,110,120,121,122,123,136] Tryz.func51 fun hsc=>?_
  refine aO (s':=(E8 st [(o0,(.mps true (mrw w7.cells m0)))])) (C5 (by simp[R8])) ?_
  refine cl h (iq _ _) fun v1 h=>?_
  refine cd h (fun hc h=>?_) fun hc h=>?_
  ·refine cd h (fun hc h=>?_) fun hc h=>?_
   ·refine cl h (pJ n _ _) fun v2 h=>?_
    refine rr ?_
    exact fuo (.bool v2) (.same _) h hsc
   ·refine r0 ?_
    obtain⟨c3,hc3,h⟩:=gG h
    have fy:=(show y6 a1.name [.str a1.name,.str [],.int .i64 a2.kind,.str a2.name,.sl false 1 16 (rows w9 a2.words),.sl false 4 72 (rows u6.cells a2.subs)] (mrw w7.cells m0)=mrw w7.cells c3 from by rw[hc3];exact gS (κ:=Bs) (E:=w7.cells) a1.name (w7.mk a1.name [] a2) m0)
    refine r1 ?_
    refine rr ?_
    exact fuo (.bool true) (.same _) h hsc
  ·refine cd h (fun hc h=>?_) fun hc h=>?_
   ·refine rr ?_
    exact fuo (.bool false) (.same _) h hsc
   ·refine cl h (K6 _) fun v5 h=>?_
    refine rn ?_
    refine aF (I7 (D4 n) a1 a2 m0 a0) r (fun(gj0:Unit) (j0:Bool)=>[(3,.mp o0),(4,.ptr st.length 0 0 0),(5,.ptr (st.length+1) 0 0 0),(6,.ptr (st.length+2) 0 0 0),(53,.bool j0)]) (fun(gj0:Unit) (j0:Bool)=>(E8 st [(o0,(.mps true (mrw w7.cells m0)))])++[some (.arr 0 7 0 [[.int .i64 a0.form.kind,.str a0.form.name,.sl false 1 16 (rows w9 a0.form.words),.sl false 4 72 (rows u6.cells a0.form.subs),.sl false 1 16 (rows w9 a0.words),.sl false 1 16 (rows w9 a0.B1),.sl false 1 16 (rows w9 a0.parts)]]),some (.arr 0 4 0 [[.int .i64 a1.kind,.str a1.name,.sl false 1 16 (rows w9 a1.words),.sl false 4 72 (rows u6.cells a1.subs)]]),some (.arr 0 4 0 [[.int .i64 a2.kind,.str a2.name,.sl false 1 16 (rows w9 a2.words),.sl false 4 72 (rows u6.cells a2.subs)]])]) (fun gj0 j0 fr1 st1 h hb=>?_) (fun hj0=>?_)
    ·try simp only[go_sem,fx]
     unfold I7 at h
     refine R6 hb ?_
     (repeat apply sq_)
     refine aF (L7 (D4 n) a1 a0 a2) r (fun(gj1:Unit) (j1:(List (Bs×w7)))=>[(3,.mp o0),(4,.ptr st.length 0 0 0),(5,.ptr (st.length+1) 0 0 0),(6,.ptr (st.length+2) 0 0 0)]) (fun(gj1:Unit) (j1:(List (Bs×w7)))=>(E8 st [(o0,(.mps true (mrw w7.cells j1)))])++[some (.arr 0 7 0 [[.int .i64 a0.form.kind,.str a0.form.name,.sl false 1 16 (rows w9 a0.form.words),.sl false 4 72 (rows u6.cells a0.form.subs),.sl false 1 16 (rows w9 a0.words),.sl false 1 16 (rows w9 a0.B1),.sl false 1 16 (rows w9 a0.parts)]]),some (.arr 0 4 0 [[.int .i64 a1.kind,.str a1.name,.sl false 1 16 (rows w9 a1.words),.sl false 4 72 (rows u6.cells a1.subs)]]),some (.arr 0 4 0 [[.int .i64 a2.kind,.str a2.name,.sl false 1 16 (rows w9 a2.words),.sl false 4 72 (rows u6.cells a2.subs)]])]) (fun gj1 j1 fr1 st1 h hb=>?_) (fun hj1=>?_)
     ·try simp only[go_sem,fx]
      unfold L7 at h
      refine R6 hb ?_
      refine aln 80 fun hl2=>?_
      refine rng (body:=S8 a1 a0 a2) (kk:=Y5 (D4 n) a2 a0 a1) (n:=a1.words.length) (s0:=j1)
       (fun(gs2:Unit) (k2:Nat) (s2:(List (Bs×w7)))=>[(3,.mp o0),(4,.ptr st.length 0 0 0),(5,.ptr (st.length+1) 0 0 0),(6,.ptr (st.length+2) 0 0 0),(80,.sl false 1 16 (rows w9 a1.words)),(81,.int .i64 (↑a1.words.length:Int)),(82,.int .i64 (↑k2:Int))])
       (fun(gs2:Unit) (k2:Nat) (s2:(List (Bs×w7)))=>(E8 st [(o0,(.mps true (mrw w7.cells s2)))])++[some (.arr 0 7 0 [[.int .i64 a0.form.kind,.str a0.form.name,.sl false 1 16 (rows w9 a0.form.words),.sl false 4 72 (rows u6.cells a0.form.subs),.sl false 1 16 (rows w9 a0.words),.sl false 1 16 (rows w9 a0.B1),.sl false 1 16 (rows w9 a0.parts)]]),some (.arr 0 4 0 [[.int .i64 a1.kind,.str a1.name,.sl false 1 16 (rows w9 a1.words),.sl false 4 72 (rows u6.cells a1.subs)]]),some (.arr 0 4 0 [[.int .i64 a2.kind,.str a2.name,.sl false 1 16 (rows w9 a2.words),.sl false 4 72 (rows u6.cells a2.subs)]])])
       (fun(gt2:Unit) (t2:(List (Bs×w7)))=>[(3,.mp o0),(4,.ptr st.length 0 0 0),(5,.ptr (st.length+1) 0 0 0),(6,.ptr (st.length+2) 0 0 0)])
       (fun(gt2:Unit) (t2:(List (Bs×w7)))=>(E8 st [(o0,(.mps true (mrw w7.cells t2)))])++[some (.arr 0 7 0 [[.int .i64 a0.form.kind,.str a0.form.name,.sl false 1 16 (rows w9 a0.form.words),.sl false 4 72 (rows u6.cells a0.form.subs),.sl false 1 16 (rows w9 a0.words),.sl false 1 16 (rows w9 a0.B1),.sl false 1 16 (rows w9 a0.parts)]]),some (.arr 0 4 0 [[.int .i64 a1.kind,.str a1.name,.sl false 1 16 (rows w9 a1.words),.sl false 4 72 (rows u6.cells a1.subs)]]),some (.arr 0 4 0 [[.int .i64 a2.kind,.str a2.name,.sl false 1 16 (rows w9 a2.words),.sl false 4 72 (rows u6.cells a2.subs)]])])
       () fx hl2 h (bu hsc)
       (fun gs2 k2 s2 b2 fx h hx2=>?_) (fun gs2 s2=>?_) (fun gt2 t2 fr1 st1 h hb=>?_)
      ·unfold S8 at h
       refine ct ?_
       refine rn ?_
       obtain⟨v12,hv12,h⟩:=M1 h
       refine bp (fun hG=>(y3 _ _ _ (pE hv12 (by simpa using hG)))) ?_
       refine cd h (fun hc h=>?_) fun hc h=>?_
       ·obtain⟨fx,h⟩:=ck fx h
        refine rn ?_
        obtain⟨v14,hv14,h⟩:=M1 h
        refine(fH _ _ _ _ hv14 _ _ hnd (by simp only[go_sem,fx])).mono ?_
        rintro d1 st1 ⟨rfl,rfl⟩
        refine cd h (fun hc h=>?_) fun hc h=>?_
        ·refine ra ?_
         cases h
         refine X8 ?_;have h:=congrArg some (hx2 _ rfl)
         refine rr ?_
         exact fuo (.bool false) (.same _) h hsc
        ·refine rn ?_
         cases h
         exact ig () (bu hsc)
       ·obtain⟨fx,h⟩:=ck fx h
        refine cd h (fun hc h=>?_) fun hc h=>?_
        ·refine ra ?_
         cases h
         refine X8 ?_;have h:=congrArg some (hx2 _ rfl)
         refine rr ?_
         exact fuo (.bool false) (.same _) h hsc
        ·refine rn ?_
         cases h
         exact ig () (bu hsc)
      ·refine cf ?_
       refine gO ?_;simp only[go_sem,fx]
       exact⟨(),(bu hsc)⟩
      ·try simp only[go_sem,fx]
       unfold Y5 at h
       refine R6 hb ?_
       refine aln 120 fun hl3=>?_
       refine rng (body:=Y6 (D4 n) a2 a0 a1) (kk:=Y7) (n:=a1.subs.length) (s0:=t2)
        (fun(gs3:Unit) (k3:Nat) (s3:(List (Bs×w7)))=>[(3,.mp o0),(4,.ptr st.length 0 0 0),(6,.ptr (st.length+2) 0 0 0),(120,.sl false 4 72 (rows u6.cells a1.subs)),(121,.int .i64 (↑a1.subs.length:Int)),(122,.int .i64 (↑k3:Int))])
        (fun(gs3:Unit) (k3:Nat) (s3:(List (Bs×w7)))=>(E8 st [(o0,(.mps true (mrw w7.cells s3)))])++[some (.arr 0 7 0 [[.int .i64 a0.form.kind,.str a0.form.name,.sl false 1 16 (rows w9 a0.form.words),.sl false 4 72 (rows u6.cells a0.form.subs),.sl false 1 16 (rows w9 a0.words),.sl false 1 16 (rows w9 a0.B1),.sl false 1 16 (rows w9 a0.parts)]]),none,some (.arr 0 4 0 [[.int .i64 a2.kind,.str a2.name,.sl false 1 16 (rows w9 a2.words),.sl false 4 72 (rows u6.cells a2.subs)]])])
        (fun(gt3:Unit) (t3:(List (Bs×w7)))=>[])
        (fun(gt3:Unit) (t3:(List (Bs×w7)))=>(E8 st [(o0,(.mps true (mrw w7.cells t3)))]))
        () fx hl3 h (bu hsc)
        (fun gs3 k3 s3 b3 fx h hx3=>?_) (fun gs3 s3=>?_) (fun gt3 t3 fr1 st1 h hb=>?_)
       ·unfold Y6 at h
        refine ct ?_
        refine rn ?_
        obtain⟨fx,h⟩:=ck fx h
        refine dw [8] 0 ?_
        obtain⟨v19,hv19,h⟩:=M1 h
        refine gn [o0] (fun st2 h2=>(ih _ _ _ _ _ hv19 st2 _ hnd ((h2 _ (by simp)).trans (by simp only[go_sem,fx])))) (by simp) (by simp only[List.mem_cons,List.not_mem_nil,or_false,forall_eq_or_imp,forall_eq];exact⟨by first|omega|(simp<;>omega),_,(by simp only[go_sem,fx]<;>rfl),Ob.noConfusion⟩) (by simp) ?_
        try simp only[go_sem,fx]
        try refine⟨by first|omega|(simp<;>omega),?_⟩
        refine cd h (fun hc h=>?_) fun hc h=>?_
        ·refine ra ?_
         cases h
         refine X8 ?_;have h:=congrArg some (hx3 _ rfl)
         refine rr ?_
         exact fuo (.bool false) (.same _) h hsc
        ·refine rn ?_
         cases h
         exact ig () (bu hsc)
       ·refine cf ?_
        refine gO ?_;simp only[go_sem,fx]
        exact⟨(),(bu0 hsc)⟩
       ·try simp only[go_sem,fx]
        unfold Y7 at h
        refine R6 hb ?_
        refine rr ?_
        exact fus (.bool true) (.same _) h hsc
     ·refine cd h (fun hc h=>?_) fun hc h=>?_
      ·refine rn ?_
       obtain⟨v7,hv7,h⟩:=M1 h
       refine(fH _ _ _ _ hv7 _ _ hnd (by simp only[go_sem,fx])).mono ?_
       rintro d1 st1 ⟨rfl,rfl⟩
       refine cd h (fun hc h=>?_) fun hc h=>?_
       ·refine rr ?_
        exact fuo (.bool false) (.same _) h hsc
       ·refine r0 ?_
        refine hj1 () _ _ _ h ?_;exact(bu hsc)
      ·refine cd h (fun hc h=>?_) fun hc h=>?_
       ·refine rr ?_
        exact fuo (.bool false) (.same _) h hsc
       ·refine r0 ?_
        refine hj1 () _ _ _ h ?_;exact(bu hsc)
    ·refine cd h (fun hc h=>?_) fun hc h=>?_
     ·refine r0 ?_
      refine hj0 () _ _ _ h ?_;exact(bu hsc)
     ·refine rn ?_
      obtain⟨v6,hv6,h⟩:=M1 h
      refine bp (fun hG=>(y3 _ _ _ (pE hv6 (by simpa using hG)))) ?_
      try simp only[go_sem,fx]
      refine hj0 () _ _ _ h ?_;exact(bu hsc)
theorem dY(a1:Bs)(l0:(List Bs))(r:Int)(h:V4 a1 l0=some r):∀(st:St) (o0 q0:Nat) (hnd: [o0].Nodup) (R8:Am.look st o0=some (.arr q0 1 16 (rows w9 l0))),Am.Spec Tryz.prog gl 59 [.ref false o0 q0 0 l0.length,.str a1] st (fun d st'=>d= .int .i64 r∧st'=puts st []):=by
 intro st o0 q0 hnd R8
 unfold V4 at h
 have ho0:=F2 R8
 have fx:=idf ho0
 refine fb 19 [.tmp 4] [0,1,4,5,7,8,9,16] Tryz.func59 fun hsc=>?_
 refine aO (s':=(E8 st [(o0,(.arr q0 1 16 (rows w9 l0)))])) (C5 (by simp[R8])) ?_
 obtain⟨fx,h⟩:=ck fx h
 refine rn ?_
 refine rng (body:=R3 a1 l0) (kk:=R4) (n:=l0.length) (s0:=())
  (fun(gs0:Unit) (k0:Nat) (s0:Unit)=>[(0,.ref false o0 q0 0 l0.length),(1,.str a1),(7,.int .i64 (↑l0.length:Int)),(8,.int .i64 (↑k0:Int))])
  (fun(gs0:Unit) (k0:Nat) (s0:Unit)=>(E8 st [(o0,(.arr q0 1 16 (rows w9 l0)))]))
  (fun(gt0:Unit) (t0:Unit)=>[])
  (fun(gt0:Unit) (t0:Unit)=>(E8 st [(o0,(.arr q0 1 16 (rows w9 l0)))]))
  () fx fx.2 h (xw hsc)
  (fun gs0 k0 s0 b0 fx h hx0=>?_) (fun gs0 s0=>?_) (fun gt0 t0 fr1 st1 h hb=>?_)
 ·unfold R3 at h
  refine ct ?_
  refine r0 ?_
  refine r0 ?_
  refine r0 ?_
  have fy:=(show(rows w9 l0).getD k0 []=w9 (get l0 k0)from Bt (E:=w9) (l:=l0) (k:=k0) (by first|omega|(simp;omega)))
  have fy:=fa fy (show k0<l0.length from by first|omega|(simp;omega))
  refine r1 ?_
  refine cd h (fun hc h=>?_) fun hc h=>?_
  ·refine ra ?_
   cases h
   refine X8 ?_;have h:=congrArg some (hx0 _ rfl)
   refine rr ?_
   exact fus (.int .i64 (↑k0:Int)) (.same _) h hsc (hr:=by rintro rfl;exact⟨rfl,C5 (by simp[R8])⟩)
  ·refine rn ?_
   cases h
   exact ig () (xw hsc)
 ·refine cf ?_
  refine gO ?_;simp only[go_sem,fx]
  exact⟨(),(xw hsc)⟩
 ·try simp only[go_sem,fx]
  unfold R4 at h
  refine R6 hb ?_
  refine rr ?_
  exact fus (.int .i64 (-1)) (.same _) h hsc (hr:=by rintro rfl;exact⟨rfl,C5 (by simp[R8])⟩)
theorem cP(a1:Bs)(l0:(List Bs))(r:Bool)(h:R5 a1 l0=some r):∀(st:St) (o0 q0:Nat) (hnd: [o0].Nodup) (R8:Am.look st o0=some (.arr q0 1 16 (rows w9 l0))),Am.Spec Tryz.prog gl 35 [.ref false o0 q0 0 l0.length,.str a1] st (fun d st'=>d= .bool r∧st'=puts st []):=by
 intro st o0 q0 hnd R8
 unfold R5 at h
 have ho0:=F2 R8
 have fx:=idf ho0
 refine fb 9 [.tmp 4] [0,1,4] Tryz.func35 fun hsc=>?_
 refine aO (s':=(E8 st [(o0,(.arr q0 1 16 (rows w9 l0)))])) (C5 (by simp[R8])) ?_
 refine rn ?_
 obtain⟨v1,hv1,h⟩:=M1 h
 refine(dY _ _ _ hv1 _ _ q0 hnd (by simp only[go_sem,fx])).mono ?_
 rintro d1 st1 ⟨rfl,rfl⟩
 refine rr ?_
 exact fus (.bool (decide (0≤v1))) (.same _) h hsc (hr:=by rintro rfl;exact⟨rfl,C5 (by simp[R8])⟩)
theorem dZ(a0:(List Bs))(r:(List Bs))(h:V5 a0=some r):Pure Tryz.prog gl 79 [.sl false 1 16 (rows w9 a0)] (.sl false 1 16 (rows w9 r)):=by
 intro st
 refine kP ?_
 unfold V5 at h
 have hr:=Option.some.inj h
 subst hr
 refine KA (N:=8) (rs:=[.tmp 2]) (keep:=[0,2,4]) Tryz.func79 rfl rfl rfl (by kernel_rfl) rfl fun hsc=>?_
 refine Kp (t:=0) rfl fun hl=>?_
 (repeat apply sq_);apply er_;simp only[go_sem]
 (repeat apply sq_);refine sH rfl ⟨9,by rw[LY]⟩ (by omega) (by omega) fun c hcn=>?_
 simp only[go_sem]
 (repeat apply sq_);refine GI (by rfl) (fun hc=>?_) fun hc=>?_
 ·(repeat apply sq_);apply er_;simp only[go_sem]
  refine Ef ?_
  try simp only[go_sem]
  have Lf:=hcn hc
  rw[Lf]
  refine Gh ?_;simp only[go_sem]
  exact kN hsc (.y5 _ _ _ (by decide)) (by simp) ⟨rfl,rfl⟩
 ·refine Bn ?_;try simp only[go_sem]
  (repeat apply sq_);apply er_;simp only[go_sem]
  simp only[sI]at hl
  refine⟨⟨by omega,by simp only[top]at *; omega⟩,?_⟩
  refine Ef ?_
  try simp only[go_sem]
  refine Gh ?_;simp only[go_sem]
  exact qS hsc (.ref _ _ _ _ _ _ _ _ _ (qd.trans rfl) Bq (by decide) (ng a0) (by simp only[go_sem])) (by simp) ⟨rfl,rfl⟩
theorem oW:∀(n:Nat) (a0:u6) (r:u6) (h:dc n a0=some r),Pure Tryz.prog gl 53 [.agg [.int .i64 a0.kind,.str a0.name,.sl false 1 16 (rows w9 a0.words),.sl false 4 72 (rows u6.cells a0.subs)]] (.agg [.int .i64 r.kind,.str r.name,.sl false 1 16 (rows w9 r.words),.sl false 4 72 (rows u6.cells r.subs)]):=by
 intro n
 induction n with
 |zero=>intro a0 r h;cases h
 |succ n ih=>
  intro a0 r h st
  unfold dc at h
  have fx:=trivial
  refine fb 30 [.cell 2 25] [0,1,2,3,5,15,16,17,18] Tryz.func53 fun hsc=>?_
  refine rn ?_
  refine dw [] 1 ?_
  obtain⟨v1,hv1,h⟩:=M1 h
  refine U8 (dZ _ _ hv1) ?_
  try simp only[go_sem,fx]
  refine r0 ?_
  (repeat apply sq_)
  refine eJ 4 72 ?_
  try simp only[List.append_assoc,List.cons_append,List.nil_append]
  refine R6 (F:=[(2,.ptr (st.length+1) 0 0 0),(3,.ptr (st.length+2) 0 0 0),(15,.sl false 4 72 (rows u6.cells a0.subs)),(16,.int .i64 (↑a0.subs.length:Int)),(17,.int .i64 0)]) (T:=st++[some (.arr 0 4 0 [[.int .i64 a0.kind,.str a0.name,.sl false 1 16 (rows w9 a0.words),.sl false 4 72 (rows u6.cells a0.subs)]]),some (.arr 0 4 0 [[.int .i64 0,.str [],.y5,.y5]]),some (.arr 0 4 0 [[.int .i64 a0.kind,.str a0.name,.sl false 1 16 (rows w9 v1),.ref false (st.length+3) 0 0 0]]),some (.arr 0 4 72 (rows u6.cells []))]) (xU hsc (.lv (.lv (.live _ _ _ _ (.arr _ _ _ _ _ (.cons _ _ _ _ (.cons _ _ _ _ .s (.cons _ _ _ _ .s (.cons _ _ _ _ .s (.cons _ _ _ _ (.nref _ _ _ _ _ _ (qd.trans rfl)) .nil)))) (.same _))) (.lv (.nil _))))) (by simp) ⟨.s,.s,.s,.s,.s,trivial⟩ (by simp)) ?_
  refine aln 15 fun hl0=>?_
  refine rng (body:=eT (dc n) a0) (kk:=eU a0 v1) (n:=a0.subs.length) (s0:=[])
   (fun(gs0:Nat) (k0:Nat) (s0:(List u6))=>[(2,.ptr (st.length+1) 0 0 0),(3,.ptr (st.length+2) 0 0 0),(15,.sl false 4 72 (rows u6.cells a0.subs)),(16,.int .i64 (↑a0.subs.length:Int)),(17,.int .i64 (↑k0:Int))])
   (fun(gs0:Nat) (k0:Nat) (s0:(List u6))=>st++[none,some (.arr 0 4 0 [[.int .i64 0,.str [],.y5,.y5]]),some (.arr 0 4 0 [[.int .i64 a0.kind,.str a0.name,.sl false 1 16 (rows w9 v1),.ref false (st.length+3) gs0 0 s0.length]]),some (.arr gs0 4 72 (rows u6.cells s0))])
   (fun(gt0:Nat) (t0:(List u6))=>[(2,.ptr (st.length+1) 0 0 0),(3,.ptr (st.length+2) 0 0 0)])
   (fun(gt0:Nat) (t0:(List u6))=>st++[none,some (.arr 0 4 0 [[.int .i64 0,.str [],.y5,.y5]]),some (.arr 0 4 0 [[.int .i64 a0.kind,.str a0.name,.sl false 1 16 (rows w9 v1),.ref false (st.length+3) gt0 0 t0.length]]),some (.arr gt0 4 72 (rows u6.cells t0))])
   0 fx hl0 h (bm hsc)
   (fun gs0 k0 s0 b0 fx h hx0=>?_) (fun gs0 s0=>?_) (fun gt0 t0 fr1 st1 h hb=>?_)
  ·unfold eT at h
   refine ct ?_
   refine rn ?_
   refine dw [] 2 ?_
   obtain⟨v9,hv9,h⟩:=M1 h
   refine U8 (ih _ _ hv9) ?_
   obtain⟨c11,DS,h⟩:=gG h
   have fy:=(show rows u6.cells s0++[[.int .i64 v9.kind,.str v9.name,.sl false 1 16 (rows w9 v9.words),.sl false 4 72 (rows u6.cells v9.subs)]]=rows u6.cells c11 from by rw[DS];first|exact F1 (E:=u6.cells) s0 [v9]|simp only[go_sem,rows,List.map_append,List.map_cons,List.map_nil])
   have fy:=fa fy (show s0.length+1=c11.length from by rw[DS];simp)
   obtain⟨fx,h⟩:=ck fx h
   try simp only[go_sem,fx,fy]
   refine rn ?_
   cases h
   exact ig (gs0+1) (bm hsc)
  ·refine cf ?_
   refine gO ?_;simp only[go_sem,fx]
   exact⟨gs0,(bm hsc)⟩
  ·try simp only[go_sem,fx]
   unfold eU at h
   refine R6 hb ?_
   refine rr ?_
   exact fo (.agg [.int .i64 a0.kind,.str a0.name,.sl false 1 16 (rows w9 v1),.sl false 4 72 (rows u6.cells t0)]) (.agg _ _ (.cons _ _ _ _ .s (.cons _ _ _ _ .s (.cons _ _ _ _ .s (.cons _ _ _ _ (.ref _ _ _ _ _ _ _ _ _ (qd.trans rfl) Bq (by decide) (ng _) (by simp only[go_sem])) .nil))))) h hsc
end Go.Proofs.YtahjhbkhcaphgaaGreatDoor
