import Derived.Test.YtfogbhjeihkliaaGreatDoorDXWalk10
set_option linter.unusedVariables false
set_option linter.unusedSimpArgs false
set_option maxHeartbeats 2000000
set_option maxRecDepth 100000
namespace Go.Proofs.YtfogbhjeihkliaaGreatDoor
open Go Go.Am
theorem qR:∀(n:Nat) (a0:x5) (a1:w8) (a2:Int) (a3:Int) (R2:Int) (oa:Int) (r:w9×Int×Int) (h:G2 n a0 a1 a2 a3 R2 oa=some r),∀(st:St) (o0 o1:Nat) (hnd: [o0,o1].Nodup) (jI:Am.look st o0=some (.arr 0 1 0 [[.int .i64 R2]])) (sY:Am.look st o1=some (.arr 0 1 0 [[.int .i64 oa]])),Am.Spec Tryz.prog gl 61 [.agg [.sl false 2 40 (rows x7.cells a0.hierarchy.types),.sl false 3 32 (rows y8.cells a0.hierarchy.C1),.sl false 10 152 (rows x6.cells a0.rules),.sl false 9 144 (rows C5.cells a0.I7),.sl false 2 32 (rows y4.cells a0.start.nodes)],.agg [.int .i64 a1.rule,.int .i64 a1.lex,.sl false 3 40 (rows w8.cells a1.kids)],.int .i64 a2,.int .i64 a3,.ptr o0 0 0 0,.ptr o1 0 0 0] st (fun d st'=>d= .agg [.int .i64 r.1.code,.int .i64 r.1.index]∧st'=puts st [(o0,(.arr 0 1 0 [[.int .i64 r.2.1]])),(o1,(.arr 0 1 0 [[.int .i64 r.2.2]]))]):=by
 intro n
 induction n with
 |zero=>intro a0 a1 a2 a3 R2 oa r h;cases h
 |succ n ih=>
  intro a0 a1 a2 a3 R2 oa r h st o0 o1 hnd jI sY
  unfold G2 at h
  have ho0:=T6 jI
  have ho1:=T6 sY
  have fx:=fa (fa (idf ho0) (idf ho1)) (nd2 hnd)
  refine fb 129 [.cell 12 37] [0,1,2,3,4,5,6,7,12,13,14,16,17,30,31,32,39,40,41,42,43,44,47,48,49,50,51,52,53,54,55,56,57,58,59,60,61,62,63,70,71,72,73,78,90,94,98,102,109,110,111,112,125] Tryz.func61 fun hsc=>?_
  refine mJ (s':=(aZ st [(o0,(.arr 0 1 0 [[.int .i64 R2]])),(o1,(.arr 0 1 0 [[.int .i64 oa]]))])) (N5 (by simp[jI,sY])) ?_
  refine cd h (fun hc h=>?_) fun hc h=>?_
  ·refine rr ?_
   exact fuo (.agg [.int .i64 1,.int .i64 R2]) (.same _) h hsc
  ·refine cd h (fun hc h=>?_) fun hc h=>?_
   ·refine rr ?_
    exact fuo (.agg [.int .i64 3,.int .i64 R2]) (.same _) h hsc
   ·refine cd h (fun hc h=>?_) fun hc h=>?_
    ·refine rr ?_
     exact fuo (.agg [.int .i64 5,.int .i64 R2]) (.same _) h hsc
    ·refine rn ?_
     refine iI (V7 (G2 n) a1 R2 oa a0 a2 a3) r (fun(gj0:Unit) (j0:Int)=>[(2,.int .i64 a2),(3,.int .i64 a3),(4,.ptr o0 0 0 0),(5,.ptr o1 0 0 0),(6,.ptr st.length 0 0 0),(7,.ptr (st.length+1) 0 0 0),(12,.ptr (st.length+2) 0 0 0),(13,.int .i64 R2),(14,.int .i64 j0)]) (fun(gj0:Unit) (j0:Int)=>(aZ st [(o0,(.arr 0 1 0 [[.int .i64 (wr .i64 (R2+1))]])),(o1,(.arr 0 1 0 [[.int .i64 oa]]))])++[some (.arr 0 5 0 [[.sl false 2 40 (rows x7.cells a0.hierarchy.types),.sl false 3 32 (rows y8.cells a0.hierarchy.C1),.sl false 10 152 (rows x6.cells a0.rules),.sl false 9 144 (rows C5.cells a0.I7),.sl false 2 32 (rows y4.cells a0.start.nodes)]]),some (.arr 0 3 0 [[.int .i64 a1.rule,.int .i64 a1.lex,.sl false 3 40 (rows w8.cells a1.kids)]]),some (.arr 0 2 0 [[.int .i64 0,.int .i64 0]])]) (fun gj0 j0 fr1 st1 h hb=>?_) (fun hj0=>?_)
     ·try simp only[go_sem,fx]
      unfold V7 at h
      refine R4 hb ?_
      refine cd h (fun hc h=>?_) fun hc h=>?_
      ·refine rr ?_
       exact fuo (.agg [.int .i64 9,.int .i64 R2]) (.same _) h hsc
      ·refine rn ?_
       refine iI (R6 (G2 n) R2 oa j0 a0 a1 a2) r (fun(gj1:Unit) (j1:Int)=>[(2,.int .i64 a2),(3,.int .i64 j1),(4,.ptr o0 0 0 0),(5,.ptr o1 0 0 0),(6,.ptr st.length 0 0 0),(7,.ptr (st.length+1) 0 0 0),(12,.ptr (st.length+2) 0 0 0),(13,.int .i64 R2),(14,.int .i64 j0)]) (fun(gj1:Unit) (j1:Int)=>(aZ st [(o0,(.arr 0 1 0 [[.int .i64 (wr .i64 (R2+1))]])),(o1,(.arr 0 1 0 [[.int .i64 oa]]))])++[some (.arr 0 5 0 [[.sl false 2 40 (rows x7.cells a0.hierarchy.types),.sl false 3 32 (rows y8.cells a0.hierarchy.C1),.sl false 10 152 (rows x6.cells a0.rules),.sl false 9 144 (rows C5.cells a0.I7),.sl false 2 32 (rows y4.cells a0.start.nodes)]]),some (.arr 0 3 0 [[.int .i64 a1.rule,.int .i64 a1.lex,.sl false 3 40 (rows w8.cells a1.kids)]]),some (.arr 0 2 0 [[.int .i64 0,.int .i64 0]])]) (fun gj1 j1 fr1 st1 h hb=>?_) (fun hj1=>?_)
       ·try simp only[go_sem,fx]
        unfold R6 at h
        refine R4 hb ?_
        refine cd h (fun hc h=>?_) fun hc h=>?_
        ·refine rr ?_
         exact fuo (.agg [.int .i64 14,.int .i64 R2]) (.same _) h hsc
        ·refine rn ?_
         refine iI (V8 (G2 n) a0 a1 a2 j1 R2) r (fun(gj2:Unit) (j2:Int)=>[(2,.int .i64 a2),(3,.int .i64 j1),(4,.ptr o0 0 0 0),(5,.ptr o1 0 0 0),(6,.ptr st.length 0 0 0),(7,.ptr (st.length+1) 0 0 0),(12,.ptr (st.length+2) 0 0 0)]) (fun(gj2:Unit) (j2:Int)=>(aZ st [(o0,(.arr 0 1 0 [[.int .i64 (wr .i64 (R2+1))]])),(o1,(.arr 0 1 0 [[.int .i64 j2]]))])++[some (.arr 0 5 0 [[.sl false 2 40 (rows x7.cells a0.hierarchy.types),.sl false 3 32 (rows y8.cells a0.hierarchy.C1),.sl false 10 152 (rows x6.cells a0.rules),.sl false 9 144 (rows C5.cells a0.I7),.sl false 2 32 (rows y4.cells a0.start.nodes)]]),some (.arr 0 3 0 [[.int .i64 a1.rule,.int .i64 a1.lex,.sl false 3 40 (rows w8.cells a1.kids)]]),some (.arr 0 2 0 [[.int .i64 0,.int .i64 0]])]) (fun gj2 j2 fr1 st1 h hb=>?_) (fun hj2=>?_)
         ·try simp only[go_sem,fx]
          unfold V8 at h
          refine R4 hb ?_
          refine aln 109 fun hl3=>?_
          refine rng (body:=aW (G2 n) a0 a1 a2 j1) (kk:=dM) (n:=a1.kids.length) (s0:=((wr .i64 (R2+1)),j2))
           (fun(gs3:Unit) (k3:Nat) (s3:Int×Int)=>[(2,.int .i64 a2),(3,.int .i64 j1),(4,.ptr o0 0 0 0),(5,.ptr o1 0 0 0),(6,.ptr st.length 0 0 0),(12,.ptr (st.length+2) 0 0 0),(109,.sl false 3 40 (rows w8.cells a1.kids)),(110,.int .i64 (↑a1.kids.length:Int)),(111,.int .i64 (↑k3:Int))])
           (fun(gs3:Unit) (k3:Nat) (s3:Int×Int)=>(aZ st [(o0,(.arr 0 1 0 [[.int .i64 s3.1]])),(o1,(.arr 0 1 0 [[.int .i64 s3.2]]))])++[some (.arr 0 5 0 [[.sl false 2 40 (rows x7.cells a0.hierarchy.types),.sl false 3 32 (rows y8.cells a0.hierarchy.C1),.sl false 10 152 (rows x6.cells a0.rules),.sl false 9 144 (rows C5.cells a0.I7),.sl false 2 32 (rows y4.cells a0.start.nodes)]]),none,some (.arr 0 2 0 [[.int .i64 0,.int .i64 0]])])
           (fun(gt3:Unit) (t3:Int×Int)=>[(12,.ptr (st.length+2) 0 0 0)])
           (fun(gt3:Unit) (t3:Int×Int)=>(aZ st [(o0,(.arr 0 1 0 [[.int .i64 t3.1]])),(o1,(.arr 0 1 0 [[.int .i64 t3.2]]))])++[none,none,some (.arr 0 2 0 [[.int .i64 0,.int .i64 0]])])
           () fx hl3 h (bu hsc)
           (fun gs3 k3 s3 b3 fx h hx3=>?_) (fun gs3 s3=>?_) (fun gt3 t3 fr1 st1 h hb=>?_)
          ·unfold aW at h
           refine ct ?_
           refine rn ?_
           obtain⟨v4,hv4,h⟩:=F9 h
           refine(ih _ _ _ _ _ _ _ hv4 _ _ _ hnd (by simp only[go_sem,fx]) (by simp only[go_sem,fx])).mono ?_
           rintro d1 st1 ⟨rfl,rfl⟩
           refine cd h (fun hc h=>?_) fun hc h=>?_
           ·refine ra ?_
            cases h
            refine F4 ?_;have h:=congrArg some (hx3 _ rfl)
            refine rr ?_
            exact fuo (.agg [.int .i64 v4.1.code,.int .i64 v4.1.index]) (.same _) h hsc
           ·refine rn ?_
            cases h
            exact gW () (bu hsc)
          ·refine cf ?_
           refine gV ?_;simp only[go_sem,fx]
           exact⟨(),(bu hsc)⟩
          ·try simp only[go_sem,fx]
           unfold dM at h
           refine R4 hb ?_
           refine rr ?_
           exact fuo (.agg [.int .i64 0,.int .i64 0]) (.same _) h hsc
         ·refine cd h (fun hc h=>?_) fun hc h=>?_
          ·refine r0 ?_
           refine hj2 () _ _ _ h ?_;exact(bu hsc)
          ·refine r0 ?_
           refine hj2 () _ _ _ h ?_;exact(bu hsc)
       ·refine cd h (fun hc h=>?_) fun hc h=>?_
        ·refine r0 ?_
         refine hj1 () _ _ _ h ?_;exact(bu hsc)
        ·refine r0 ?_
         refine hj1 () _ _ _ h ?_;exact(bu hsc)
     ·refine cd h (fun hc h=>?_) fun hc h=>?_
      ·obtain⟨fx,h⟩:=ck fx h
       refine r0 ?_
       refine hj0 () _ _ _ h ?_;exact(bu hsc)
      ·refine r0 ?_
       refine hj0 () _ _ _ h ?_;exact(bu hsc)
theorem oh(n:Nat)(a0:x5)(a1:w8)(r:w9)(h:O1 n a0 a1=some r):Pure Tryz.prog gl 28 [.agg [.sl false 2 40 (rows x7.cells a0.hierarchy.types),.sl false 3 32 (rows y8.cells a0.hierarchy.C1),.sl false 10 152 (rows x6.cells a0.rules),.sl false 9 144 (rows C5.cells a0.I7),.sl false 2 32 (rows y4.cells a0.start.nodes)],.agg [.int .i64 a1.rule,.int .i64 a1.lex,.sl false 3 40 (rows w8.cells a1.kids)]] (.agg [.int .i64 r.code,.int .i64 r.index]):=by
 intro st
 unfold O1 at h
 have fx:=trivial
 refine fb 20 [.cell 4 37] [0,1,2,3,4,5,6,7,15,16,17] Tryz.func28 fun hsc=>?_
 refine rn ?_
 obtain⟨v1,hv1,h⟩:=F9 h
 refine(qR n _ _ _ _ _ _ _ hv1 _ _ _ (by simp) (cW.trans rfl) (cW.trans rfl)).mono ?_
 rintro d1 st1 ⟨rfl,rfl⟩
 refine cd h (fun hc h=>?_) fun hc h=>?_
 ·exact rt
 ·exact rt
theorem jB:∀(n:Nat) (a0:x5) (a1:w8) (r:(List Bs)) (h:M6 n a0 a1=some r),Pure Tryz.prog gl 29 [.agg [.sl false 2 40 (rows x7.cells a0.hierarchy.types),.sl false 3 32 (rows y8.cells a0.hierarchy.C1),.sl false 10 152 (rows x6.cells a0.rules),.sl false 9 144 (rows C5.cells a0.I7),.sl false 2 32 (rows y4.cells a0.start.nodes)],.agg [.int .i64 a1.rule,.int .i64 a1.lex,.sl false 3 40 (rows w8.cells a1.kids)]] (.sl false 1 16 (rows pA r)):=by
 intro n
 induction n with
 |zero=>intro a0 a1 r h;cases h
 |succ n ih=>
  intro a0 a1 r h st
  unfold M6 at h
  have fx:=trivial
  refine fb 33 [.tmp 4] [0,1,2,3,4,5,7,10,20,21,22,23] Tryz.func29 fun hsc=>?_
  refine cd h (fun hc h=>?_) fun hc h=>?_
  ·obtain⟨fx,h⟩:=ck fx h
   exact rt
  ·refine r0 ?_
   refine r0 ?_
   refine r0 ?_
   (repeat apply sq_)
   refine oI 1 16 ?_
   try simp only[List.append_assoc,List.cons_append,List.nil_append]
   refine R4 (F:=[(2,.ptr st.length 0 0 0),(5,.ref false (st.length+2) 0 0 0),(20,.sl false 3 40 (rows w8.cells a1.kids)),(21,.int .i64 (↑a1.kids.length:Int)),(22,.int .i64 0)]) (T:=st++[some (.arr 0 5 0 [[.sl false 2 40 (rows x7.cells a0.hierarchy.types),.sl false 3 32 (rows y8.cells a0.hierarchy.C1),.sl false 10 152 (rows x6.cells a0.rules),.sl false 9 144 (rows C5.cells a0.I7),.sl false 2 32 (rows y4.cells a0.start.nodes)]]),some (.arr 0 3 0 [[.int .i64 a1.rule,.int .i64 a1.lex,.sl false 3 40 (rows w8.cells a1.kids)]]),some (.arr 0 1 16 (rows pA []))]) (Af hsc (.lv (.lv (.lv (.nil _)))) (by simp) ⟨.s,.nref _ _ _ _ _ _ (pL.trans rfl),.s,.s,.s,trivial⟩ (by simp)) ?_
   refine aln 20 fun hl0=>?_
   refine rng (body:=bA (M6 n) a0 a1) (kk:=bB) (n:=a1.kids.length) (s0:=[])
    (fun(gs0:Nat) (k0:Nat) (s0:(List Bs))=>[(2,.ptr st.length 0 0 0),(5,.ref false (st.length+2) gs0 0 s0.length),(20,.sl false 3 40 (rows w8.cells a1.kids)),(21,.int .i64 (↑a1.kids.length:Int)),(22,.int .i64 (↑k0:Int))])
    (fun(gs0:Nat) (k0:Nat) (s0:(List Bs))=>st++[some (.arr 0 5 0 [[.sl false 2 40 (rows x7.cells a0.hierarchy.types),.sl false 3 32 (rows y8.cells a0.hierarchy.C1),.sl false 10 152 (rows x6.cells a0.rules),.sl false 9 144 (rows C5.cells a0.I7),.sl false 2 32 (rows y4.cells a0.start.nodes)]]),none,some (.arr gs0 1 16 (rows pA s0))])
    (fun(gt0:Nat) (t0:(List Bs))=>[(5,.ref false (st.length+2) gt0 0 t0.length)])
    (fun(gt0:Nat) (t0:(List Bs))=>st++[none,none,some (.arr gt0 1 16 (rows pA t0))])
    0 fx hl0 h (bm hsc)
    (fun gs0 k0 s0 b0 fx h hx0=>?_) (fun gs0 s0=>?_) (fun gt0 t0 fr1 st1 h hb=>?_)
   ·unfold bA at h
    refine ct ?_
    refine r0 ?_
    refine r0 ?_
    refine r0 ?_
    refine cl h (ih _ _) fun v10 h=>?_
    obtain⟨c11,UP,h⟩:=oz h
    have fy:=(show rows pA s0++rows pA v10=rows pA c11 from by rw[UP];first|exact U8 (E:=pA) s0 v10|simp only[go_sem,rows,List.map_append,List.map_cons,List.map_nil])
    have fy:=fa fy (show s0.length+v10.length=c11.length from by rw[UP];simp)
    obtain⟨fx,h⟩:=ck fx h
    try simp only[go_sem,fx,fy]
    refine rn ?_
    cases h
    exact gW (gs0+1) (bm hsc)
   ·refine cf ?_
    refine gV ?_;simp only[go_sem,fx]
    exact⟨gs0,(bm hsc)⟩
   ·try simp only[go_sem,fx]
    unfold bB at h
    refine R4 hb ?_
    refine rr ?_
    exact fo (.sl false 1 16 (rows pA t0)) (.ref _ _ _ _ _ _ _ _ _ (pL.trans rfl) zq (by decide) (ru _) (by simp only[go_sem])) h hsc
theorem Z0(n:Nat)(a0:x5)(a1:(List w8))(r:w9)(h:J3 n a0 a1=some r):Pure Tryz.prog gl 11 [.agg [.sl false 2 40 (rows x7.cells a0.hierarchy.types),.sl false 3 32 (rows y8.cells a0.hierarchy.C1),.sl false 10 152 (rows x6.cells a0.rules),.sl false 9 144 (rows C5.cells a0.I7),.sl false 2 32 (rows y4.cells a0.start.nodes)],.sl false 3 40 (rows w8.cells a1)] (.agg [.int .i64 r.code,.int .i64 r.index]):=by
 intro st
 unfold J3 at h
 have fx:=trivial
 refine fb 79 [.cell 4 37] [0,1,2,4,5,6,7,8,9,10,15,19,24,35,61,62,75] Tryz.func11 fun hsc=>?_
 refine cl h (mz n _) fun v1 h=>?_
 refine cd h (fun hc h=>?_) fun hc h=>?_
 ·exact rt
 ·refine cd h (fun hc h=>?_) fun hc h=>?_
  ·exact rt
  ·refine rn ?_
   refine E8 (body:=J0 n a1 a0) (kk:=S1) (n:=n) (s0:=(v1.code,v1.index,0))
    (fun(gs0:Unit) (s0:Int×Int×Int)=>[(1,.sl false 3 40 (rows w8.cells a1)),(2,.ptr st.length 0 0 0),(4,.ptr (st.length+1) 0 0 0),(5,.ptr (st.length+2) 0 0 0),(6,.int .i64 s0.2.2)])
    (fun(gs0:Unit) (s0:Int×Int×Int)=>st++[some (.arr 0 5 0 [[.sl false 2 40 (rows x7.cells a0.hierarchy.types),.sl false 3 32 (rows y8.cells a0.hierarchy.C1),.sl false 10 152 (rows x6.cells a0.rules),.sl false 9 144 (rows C5.cells a0.I7),.sl false 2 32 (rows y4.cells a0.start.nodes)]]),some (.arr 0 2 0 [[.int .i64 0,.int .i64 0]]),some (.arr 0 2 0 [[.int .i64 s0.1,.int .i64 s0.2.1]])])
    (fun(gt0:Unit) (t0:Unit)=>[(4,.ptr (st.length+1) 0 0 0)])
    (fun(gt0:Unit) (t0:Unit)=>st++[none,some (.arr 0 2 0 [[.int .i64 0,.int .i64 0]])])
    () h (bm hsc)
    (fun gs0 s0 b0 h hx0=>?_) (fun gt0 t0 fr1 st1 h hb=>?_)
   ·unfold J0 at h
    refine cd h (fun hc h=>?_) fun hc h=>?_
    ·refine rn ?_
     obtain⟨fx,h⟩:=ck fx h
     refine dw [] 0 ?_
     obtain⟨v13,hv13,h⟩:=F9 h
     refine A9 (oh n _ _ _ hv13) ?_
     try simp only[go_sem,fx]
     refine cd h (fun hc h=>?_) fun hc h=>?_
     ·refine ra ?_
      cases h
      refine aP ?_;have h:=congrArg some (hx0 _ rfl)
      exact rt
     ·refine rn ?_
      obtain⟨fx,h⟩:=ck fx h
      refine dw [] 0 ?_
      obtain⟨v15,hv15,h⟩:=F9 h
      refine A9 (jB n _ _ _ hv15) ?_
      try simp only[go_sem,fx]
      obtain⟨v16,hv16,h⟩:=F9 h
      refine A9 (jB n _ _ _ hv16) ?_
      try simp only[go_sem,fx]
      refine rn ?_
      refine E8 (body:=I9 v15 v16) (kk:=Y9 s0 v13) (n:=n) (s0:=(0,(decide ((↑v15.length:Int)=(↑v16.length:Int)))))
       (fun(gs2:Unit) (s2:Int×Bool)=>[(1,.sl false 3 40 (rows w8.cells a1)),(2,.ptr st.length 0 0 0),(4,.ptr (st.length+1) 0 0 0),(5,.ptr (st.length+2) 0 0 0),(6,.int .i64 s0.2.2),(7,.sl false 1 16 (rows pA v15)),(8,.sl false 1 16 (rows pA v16)),(9,.bool s2.2),(10,.int .i64 s2.1)])
       (fun(gs2:Unit) (s2:Int×Bool)=>st++[some (.arr 0 5 0 [[.sl false 2 40 (rows x7.cells a0.hierarchy.types),.sl false 3 32 (rows y8.cells a0.hierarchy.C1),.sl false 10 152 (rows x6.cells a0.rules),.sl false 9 144 (rows C5.cells a0.I7),.sl false 2 32 (rows y4.cells a0.start.nodes)]]),some (.arr 0 2 0 [[.int .i64 0,.int .i64 0]]),some (.arr 0 2 0 [[.int .i64 v13.code,.int .i64 v13.index]])])
       (fun(gt2:Unit) (t2:Bool)=>[(1,.sl false 3 40 (rows w8.cells a1)),(2,.ptr st.length 0 0 0),(4,.ptr (st.length+1) 0 0 0),(5,.ptr (st.length+2) 0 0 0),(6,.int .i64 s0.2.2),(9,.bool t2)])
       (fun(gt2:Unit) (t2:Bool)=>st++[some (.arr 0 5 0 [[.sl false 2 40 (rows x7.cells a0.hierarchy.types),.sl false 3 32 (rows y8.cells a0.hierarchy.C1),.sl false 10 152 (rows x6.cells a0.rules),.sl false 9 144 (rows C5.cells a0.I7),.sl false 2 32 (rows y4.cells a0.start.nodes)]]),some (.arr 0 2 0 [[.int .i64 0,.int .i64 0]]),some (.arr 0 2 0 [[.int .i64 v13.code,.int .i64 v13.index]])])
       () h (bm hsc)
       (fun gs2 s2 b2 h hx2=>?_) (fun gt2 t2 fr1 st1 h hb=>?_)
      ·unfold I9 at h
       refine cd h (fun hc h=>?_) fun hc h=>?_
       ·refine rn ?_
        obtain⟨fx,h⟩:=ck fx h
        obtain⟨fx,h⟩:=ck fx h
        refine dw [] 0 ?_
        refine rn ?_
        cases h
        exact F5 () (bm hsc)
       ·refine rn ?_
        cases h
        exact K7 () (bm hsc)
      ·try simp only[go_sem,fx]
       unfold Y9 at h
       refine R4 hb ?_
       refine cd h (fun hc h=>?_) fun hc h=>?_
       ·refine ra ?_
        cases h
        refine aP ?_;have h:=congrArg some (hx0 _ rfl)
        exact rt
       ·refine rn ?_
        cases h
        exact F5 () (bm hsc)
    ·refine rn ?_
     cases h
     exact K7 () (bm hsc)
   ·try simp only[go_sem,fx]
    unfold S1 at h
    refine R4 hb ?_
    exact rt
theorem kS:∀(n:Nat) (a0:w8) (a1:Int) (a2:Int) (r:(List w5)) (h:G9 n a0 a1 a2=some r),Pure Tryz.prog gl 30 [.agg [.int .i64 a0.rule,.int .i64 a0.lex,.sl false 3 40 (rows w8.cells a0.kids)],.int .i64 a1,.int .i64 a2] (.sl false 5 40 (rows w5.cells r)):=by
 intro n
 induction n with
 |zero=>intro a0 a1 a2 r h;cases h
 |succ n ih=>
  intro a0 a1 a2 r h st
  unfold G9 at h
  have fx:=trivial
  refine fb 75 [.tmp 6] [0,1,2,3,6,7,8,9,10,11,12,13,23,36,42,60] Tryz.func30 fun hsc=>?_
  refine cd h (fun hc h=>?_) fun hc h=>?_
  ·refine rr ?_
   exact fo (.sl false 5 40 (rows w5.cells [(w5.mk a1 (wr .i64 (a1+1)) a2 a0.rule a0.lex)])) (.ref _ _ _ _ _ _ _ _ _ (pL.trans rfl) zq (by decide) (by simp[Imm,D.imm]) (by simp only[go_sem,rows,List.map_cons,List.map_nil])) h hsc
  ·refine rn ?_
   refine E8 (body:=T9 (G9 n) n a0 a2) (kk:=cO) (n:=n) (s0:=([(w5.mk a1 0 a2 a0.rule a0.lex)],0,a1))
    (fun(gs0:Nat) (s0:(List w5)×Int×Int)=>[(2,.int .i64 a2),(3,.ptr st.length 0 0 0),(8,.ref false (st.length+2) gs0 0 s0.1.length),(9,.int .i64 s0.2.2),(10,.int .i64 s0.2.1)])
    (fun(gs0:Nat) (s0:(List w5)×Int×Int)=>st++[some (.arr 0 3 0 [[.int .i64 a0.rule,.int .i64 a0.lex,.sl false 3 40 (rows w8.cells a0.kids)]]),none,some (.arr gs0 5 40 (rows w5.cells s0.1))])
    (fun(gt0:Nat) (t0:(List w5)×Int)=>[(8,.ref false (st.length+2) gt0 0 t0.1.length),(9,.int .i64 t0.2)])
    (fun(gt0:Nat) (t0:(List w5)×Int)=>st++[none,none,some (.arr gt0 5 40 (rows w5.cells t0.1))])
    0 h (bm hsc)
    (fun gs0 s0 b0 h hx0=>?_) (fun gt0 t0 fr1 st1 h hb=>?_)
   ·unfold T9 at h
    refine cd h (fun hc h=>?_) fun hc h=>?_
    ·refine rn ?_
     refine iI (U0 (G9 n) n s0 a0) b0 (fun(gj3:Unit) (j3:Int)=>[(2,.int .i64 a2),(3,.ptr st.length 0 0 0),(8,.ref false (st.length+2) gs0 0 s0.1.length),(9,.int .i64 s0.2.2),(10,.int .i64 s0.2.1),(11,.int .i64 j3)]) (fun(gj3:Unit) (j3:Int)=>st++[some (.arr 0 3 0 [[.int .i64 a0.rule,.int .i64 a0.lex,.sl false 3 40 (rows w8.cells a0.kids)]]),none,some (.arr gs0 5 40 (rows w5.cells s0.1))]) (fun gj3 j3 fr1 st1 h hb=>?_) (fun hj3=>?_)
     ·try simp only[go_sem,fx]
      unfold U0 at h
      refine R4 hb ?_
      obtain⟨fx,h⟩:=ck fx h
      refine cl h (ih _ _ _) fun v30 h=>?_
      obtain⟨fx,h⟩:=ck fx h
      refine rn ?_
      refine E8 (body:=P7 v30) (kk:=cN s0 v30) (n:=n) (s0:=(s0.1,0))
       (fun(gs4:Nat) (s4:(List w5)×Int)=>[(2,.int .i64 a2),(3,.ptr st.length 0 0 0),(8,.ref false (st.length+2) gs4 0 s4.1.length),(9,.int .i64 ((get v30 0).to_)),(10,.int .i64 s0.2.1),(12,.sl false 5 40 (rows w5.cells v30)),(13,.int .i64 s4.2)])
       (fun(gs4:Nat) (s4:(List w5)×Int)=>st++[some (.arr 0 3 0 [[.int .i64 a0.rule,.int .i64 a0.lex,.sl false 3 40 (rows w8.cells a0.kids)]]),none,some (.arr gs4 5 40 (rows w5.cells s4.1))])
       (fun(gt4:Nat) (t4:(List w5))=>[(2,.int .i64 a2),(3,.ptr st.length 0 0 0),(8,.ref false (st.length+2) gt4 0 t4.length),(9,.int .i64 ((get v30 0).to_)),(10,.int .i64 s0.2.1)])
       (fun(gt4:Nat) (t4:(List w5))=>st++[some (.arr 0 3 0 [[.int .i64 a0.rule,.int .i64 a0.lex,.sl false 3 40 (rows w8.cells a0.kids)]]),none,some (.arr gt4 5 40 (rows w5.cells t4))])
       gs0 h (bm hsc)
       (fun gs4 s4 b4 h hx4=>?_) (fun gt4 t4 fr1 st1 h hb=>?_)
      ·unfold P7 at h
       refine cd h (fun hc h=>?_) fun hc h=>?_
       ·refine r0 ?_
        refine r0 ?_
        obtain⟨fx,h⟩:=ck fx h
        obtain⟨c41,UQ,h⟩:=oz h
        have fy:=(show rows w5.cells s4.1++[[.int .i64 ((get v30 s4.2.toNat).from_),.int .i64 ((get v30 s4.2.toNat).to_),.int .i64 ((get v30 s4.2.toNat).level),.int .i64 ((get v30 s4.2.toNat).rule),.int .i64 ((get v30 s4.2.toNat).lex)]]=rows w5.cells c41 from by rw[UQ];first|exact U8 (E:=w5.cells) s4.1 [(get v30 s4.2.toNat)]|simp only[go_sem,rows,List.map_append,List.map_cons,List.map_nil])
        have fy:=fa fy (show s4.1.length+1=c41.length from by rw[UQ];simp)
        obtain⟨fx,h⟩:=ck fx h
        refine r1 ?_
        refine rn ?_
        cases h
        exact F5 (gs4+1) (bm hsc)
       ·refine rn ?_
        cases h
        exact K7 gs4 (bm hsc)
      ·try simp only[go_sem,fx]
       unfold cN at h
       refine R4 hb ?_
       refine rn ?_
       cases h
       exact F5 gt4 (bm hsc)
     ·refine cd h (fun hc h=>?_) fun hc h=>?_
      ·refine r0 ?_
       refine hj3 () _ _ _ h ?_;exact(bm hsc)
      ·refine r0 ?_
       refine hj3 () _ _ _ h ?_;exact(bm hsc)
    ·refine rn ?_
     cases h
     exact K7 gs0 (bm hsc)
   ·try simp only[go_sem,fx]
    unfold cO at h
    refine R4 hb ?_
    obtain⟨fx,h⟩:=ck fx h
    have fy:=(show(rows w5.cells t0.1).getD 0 []=w5.cells (get t0.1 0)from qg (E:=w5.cells) (l:=t0.1) (k:=0) (by first|omega|(simp;omega)))
    have fy:=fa fy (show 0<t0.1.length from by first|omega|(simp;omega))
    obtain⟨c49,UR,h⟩:=oz h
    have fy:=fa fy (show(rows w5.cells t0.1).set 0 [.int .i64 ((get t0.1 0).from_),.int .i64 t0.2,.int .i64 ((get t0.1 0).level),.int .i64 ((get t0.1 0).rule),.int .i64 ((get t0.1 0).lex)]=rows w5.cells c49 from by rw[UR];first|exact CF (E:=w5.cells) _ _ _|simp only[go_sem,rows,List.map_set])
    refine r1 ?_
    have e51:D.ref false (st.length+2) gt0 0 t0.1.length=D.ref false (st.length+2) gt0 0 c49.length:=by simp[UR]
    simp only[e51]
    refine rr ?_
    exact fo (.sl false 5 40 (rows w5.cells c49)) (.ref _ _ _ _ _ _ _ _ _ (pL.trans rfl) zq (by decide) (ru _) (by simp only[go_sem])) h hsc
theorem bC(n:Nat)(a0:w8)(a1:w5)(r:Bool)(h:M5 n a0 a1=some r):Pure Tryz.prog gl 19 [.agg [.int .i64 a0.rule,.int .i64 a0.lex,.sl false 3 40 (rows w8.cells a0.kids)],.agg [.int .i64 a1.from_,.int .i64 a1.to_,.int .i64 a1.level,.int .i64 a1.rule,.int .i64 a1.lex]] (.bool r):=by
 intro st
 unfold M5 at h
 have fx:=trivial
 refine fb 21 [.tmp 4] [0,1,2,3,4,5,6,12,20] Tryz.func19 fun hsc=>?_
 refine cl h (kS n _ _ _) fun v1 h=>?_
 refine rn ?_
 refine E8 (body:=R0 v1 a1) (kk:=bw) (n:=n) (s0:=0)
  (fun(gs0:Unit) (s0:Int)=>[(3,.ptr (st.length+1) 0 0 0),(5,.sl false 5 40 (rows w5.cells v1)),(6,.int .i64 s0)])
  (fun(gs0:Unit) (s0:Int)=>st++[none,some (.arr 0 5 0 [[.int .i64 a1.from_,.int .i64 a1.to_,.int .i64 a1.level,.int .i64 a1.rule,.int .i64 a1.lex]])])
  (fun(gt0:Unit) (t0:Unit)=>[])
  (fun(gt0:Unit) (t0:Unit)=>st)
  () h (bm hsc)
  (fun gs0 s0 b0 h hx0=>?_) (fun gt0 t0 fr1 st1 h hb=>?_)
 ·unfold R0 at h
  refine cd h (fun hc h=>?_) fun hc h=>?_
  ·refine rn ?_
   obtain⟨fx,h⟩:=ck fx h
   refine dw [] 0 ?_
   refine cd h (fun hc h=>?_) fun hc h=>?_
   ·refine ra ?_
    cases h
    refine aP ?_;have h:=congrArg some (hx0 _ rfl)
    exact rt
   ·refine rn ?_
    cases h
    exact F5 () (bm hsc)
  ·refine rn ?_
   cases h
   exact K7 () (bm0 hsc)
 ·try simp only[go_sem,fx]
  unfold bw at h
  refine R4 hb ?_
  exact rt
end Go.Proofs.YtfogbhjeihkliaaGreatDoor
