import Derived.Test.YtahjhbkhcaphgaaGreatDoorFTMirrors
set_option linter.unusedVariables false
set_option linter.unusedSimpArgs false
set_option maxHeartbeats 2000000
set_option maxRecDepth 100000
namespace Go.Proofs.YtahjhbkhcaphgaaGreatDoor
open Go Go.Am
theorem cj(a0:Bs)(a1:(List Bs))(r:u6)(h:Y9 a0 a1=some r):Pure Tryz.prog gl 12 [.str a0,.sl false 1 16 (rows w9 a1)] (.agg [.int .i64 r.kind,.str r.name,.sl false 1 16 (rows w9 r.words),.sl false 4 72 (rows u6.cells r.subs)]):=by
 intro st
 unfold Y9 at h
 have fx:=trivial
 refine fb 8 [.cell 4 25] [0,1,4] Tryz.func12 fun hsc=>?_
 refine rr ?_
 exact fo (.agg [.int .i64 2,.str a0,.sl false 1 16 (rows w9 a1),.sl false 4 72 (rows u6.cells [])]) (.agg _ _ (.cons _ _ _ _ .s (.cons _ _ _ _ .s (.cons _ _ _ _ .s (.cons _ _ _ _ (.y5 _ _ _ (by decide)) .nil))))) h hsc
theorem ay(a0:Int)(a1:u6)(a2:u6)(r:u6)(h:T2 a0 a1 a2=some r):Pure Tryz.prog gl 11 [.int .i64 a0,.agg [.int .i64 a1.kind,.str a1.name,.sl false 1 16 (rows w9 a1.words),.sl false 4 72 (rows u6.cells a1.subs)],.agg [.int .i64 a2.kind,.str a2.name,.sl false 1 16 (rows w9 a2.words),.sl false 4 72 (rows u6.cells a2.subs)]] (.agg [.int .i64 r.kind,.str r.name,.sl false 1 16 (rows w9 r.words),.sl false 4 72 (rows u6.cells r.subs)]):=by
 intro st
 unfold T2 at h
 have fx:=trivial
 refine fb 12 [.cell 6 25] [0,1,2,4,5,6] Tryz.func11 fun hsc=>?_
 refine rr ?_
 exact fo (.agg [.int .i64 a0,.str [],.sl false 1 16 (rows w9 []),.sl false 4 72 (rows u6.cells [a1,a2])]) (.agg _ _ (.cons _ _ _ _ .s (.cons _ _ _ _ .s (.cons _ _ _ _ (.y5 _ _ _ (by decide)) (.cons _ _ _ _ (.ref _ _ _ _ _ _ _ _ _ (qd.trans rfl) Bq (by decide) (by simp[Imm,D.imm]) (by simp only[go_sem,rows,List.map_cons,List.map_nil])) .nil))))) h hsc
theorem S2(a0:Int)(B0:Int)(r:x6)(h:R7 a0 B0=some r):∀(st:St) (o0:Nat) (hnd: [o0].Nodup) (R8:Am.look st o0=some (.arr 0 1 0 [[.int .i64 B0]])),Am.Spec Tryz.prog gl 75 [.int .i64 a0,.ptr o0 0 0 0] st (fun d st'=>d= .agg [.int .i64 r.code,.int .i64 r.index]∧st'=puts st []):=by
 intro st o0 hnd R8
 unfold R7 at h
 have ho0:=F2 R8
 have fx:=idf ho0
 refine fb 7 [.cell 3 30] [0,1,3] Tryz.func75 fun hsc=>?_
 refine aO (s':=(E8 st [(o0,(.arr 0 1 0 [[.int .i64 B0]]))])) (C5 (by simp[R8])) ?_
 refine rr ?_
 exact fuo (.agg [.int .i64 a0,.int .i64 B0]) (.same _) h hsc (hr:=by rintro rfl;exact⟨rfl,C5 (by simp[R8])⟩)
theorem pI(a0:Int)(r:Int)(h:eO a0=some r):Pure Tryz.prog gl 76 [.int .i64 a0] (.int .i64 r):=by
 intro st
 unfold eO at h
 have fx:=trivial
 refine fb 16 [.tmp 2] [0,2,3,4,8,12] Tryz.func76 fun hsc=>?_
 refine rn ?_
 refine aF (aj a0) r (fun(gj0:Unit) (j0:Bool)=>[(3,.int .i64 a0),(4,.bool j0)]) (fun(gj0:Unit) (j0:Bool)=>st) (fun gj0 j0 fr1 st1 h hb=>?_) (fun hj0=>?_)
 ·try simp only[go_sem,fx]
  unfold aj at h
  refine R6 hb ?_
  refine cd h (fun hc h=>?_) fun hc h=>?_
  ·exact rt
  ·refine rn ?_
   refine aF (ak a0) r (fun(gj1:Unit) (j1:Bool)=>[(3,.int .i64 a0),(8,.bool j1)]) (fun(gj1:Unit) (j1:Bool)=>st) (fun gj1 j1 fr1 st1 h hb=>?_) (fun hj1=>?_)
   ·try simp only[go_sem,fx]
    unfold ak at h
    refine R6 hb ?_
    refine cd h (fun hc h=>?_) fun hc h=>?_
    ·exact rt
    ·refine rn ?_
     refine aF (aq) r (fun(gj2:Unit) (j2:Bool)=>[(12,.bool j2)]) (fun(gj2:Unit) (j2:Bool)=>st) (fun gj2 j2 fr1 st1 h hb=>?_) (fun hj2=>?_)
     ·try simp only[go_sem,fx]
      unfold aq at h
      refine R6 hb ?_
      refine cd h (fun hc h=>?_) fun hc h=>?_
      ·exact rt
      ·exact rt
     ·refine cd h (fun hc h=>?_) fun hc h=>?_
      ·refine r0 ?_
       refine hj2 () _ _ _ h ?_;exact(jP hsc)
      ·refine cd h (fun hc h=>?_) fun hc h=>?_
       ·refine r0 ?_
        refine hj2 () _ _ _ h ?_;exact(jP hsc)
       ·refine r0 ?_
        refine hj2 () _ _ _ h ?_;exact(jP hsc)
   ·refine cd h (fun hc h=>?_) fun hc h=>?_
    ·refine r0 ?_
     refine hj1 () _ _ _ h ?_;exact(jP hsc)
    ·refine cd h (fun hc h=>?_) fun hc h=>?_
     ·refine r0 ?_
      refine hj1 () _ _ _ h ?_;exact(jP hsc)
     ·refine r0 ?_
      refine hj1 () _ _ _ h ?_;exact(jP hsc)
 ·refine cd h (fun hc h=>?_) fun hc h=>?_
  ·refine r0 ?_
   refine hj0 () _ _ _ h ?_;exact(jP hsc)
  ·refine cd h (fun hc h=>?_) fun hc h=>?_
   ·refine r0 ?_
    refine hj0 () _ _ _ h ?_;exact(jP hsc)
   ·refine r0 ?_
    refine hj0 () _ _ _ h ?_;exact(jP hsc)
theorem K6(a0:u6)(r:Bool)(h:E5 a0=some r):Pure Tryz.prog gl 56 [.agg [.int .i64 a0.kind,.str a0.name,.sl false 1 16 (rows w9 a0.words),.sl false 4 72 (rows u6.cells a0.subs)]] (.bool r):=by
 intro st
 unfold E5 at h
 have fx:=trivial
 refine fb 11 [.tmp 2] [0,1,2,7,8,9] Tryz.func56 fun hsc=>?_
 exact rt
theorem eW(a0:Bs)(r:Bool)(h:termName a0=some r):Pure Tryz.prog gl 27 [.str a0] (.bool r):=by
 intro st
 unfold termName at h
 have fx:=trivial
 refine fb 55 [.tmp 2] [0,2,3,4,9,10,11,14,15,16,19,20,21,22,24,25,26,34,35,38,39,40,41,42,43,46,47,50,51,53] Tryz.func27 fun hsc=>?_
 obtain⟨fx,h⟩:=ck fx h
 obtain⟨fx,h⟩:=ck fx h
 refine cd h (fun hc h=>?_) fun hc h=>?_
 ·exact rt
 ·obtain⟨fx,h⟩:=ck fx h
  refine rn ?_
  refine rng (body:=gT a0) (kk:=gU) (n:=a0.length) (s0:=())
   (fun(gs0:Unit) (k0:Nat) (s0:Unit)=>[(0,.str a0),(24,.int .i64 (↑a0.length:Int)),(25,.int .i64 (↑k0:Int))])
   (fun(gs0:Unit) (k0:Nat) (s0:Unit)=>st)
   (fun(gt0:Unit) (t0:Unit)=>[])
   (fun(gt0:Unit) (t0:Unit)=>st)
   () fx fx.2 h (jP hsc)
   (fun gs0 k0 s0 b0 fx h hx0=>?_) (fun gs0 s0=>?_) (fun gt0 t0 fr1 st1 h hb=>?_)
  ·unfold gT at h
   refine ct ?_
   refine cd h (fun hc h=>?_) fun hc h=>?_
   ·refine ra ?_
    cases h
    refine X8 ?_;have h:=congrArg some (hx0 _ rfl)
    exact rt
   ·refine rn ?_
    cases h
    exact ig () (jP hsc)
  ·refine cf ?_
   refine gO ?_;simp only[go_sem,fx]
   exact⟨(),(jP hsc)⟩
  ·try simp only[go_sem,fx]
   unfold gU at h
   refine R6 hb ?_
   exact rt
theorem mL:∀(n:Nat) (a0:u6) (a1:Int) (B0:Int) (U0:Bool) (r:x6×Int) (h:F8 n a0 a1 B0 U0=some r),∀(st:St) (o0 o1 o2:Nat) (hnd: [o0,o1,o2].Nodup) (R8:Am.look st o0=some (.arr 0 1 0 [[.int .i64 B0]])) (ny:Am.look st o1=some (.arr 0 1 0 [[.bool U0]])) (Bm:Am.look st o2=some (.arr 0 1 0 [[.fn 74 [] [.ptr o0 0 0 0,.ptr o1 0 0 0,.ptr o2 0 0 0]]])),Am.Spec Tryz.prog gl 74 [.agg [.int .i64 a0.kind,.str a0.name,.sl false 1 16 (rows w9 a0.words),.sl false 4 72 (rows u6.cells a0.subs)],.int .i64 a1,.ptr o0 0 0 0,.ptr o1 0 0 0,.ptr o2 0 0 0] st (fun d st'=>d= .agg [.int .i64 r.1.code,.int .i64 r.1.index]∧st'=puts st [(o0,(.arr 0 1 0 [[.int .i64 r.2]])),(o1,(.arr 0 1 0 [[.bool U0]])),(o2,(.arr 0 1 0 [[.fn 74 [] [.ptr o0 0 0 0,.ptr o1 0 0 0,.ptr o2 0 0 0]]]))]):=by
 intro n
 induction n with
 |zero=>intro a0 a1 B0 U0 r h;cases h
 |succ n ih=>
  intro a0 a1 B0 U0 r h st o0 o1 o2 hnd R8 ny Bm
  unfold F8 at h
  have ho0:=F2 R8
  have ho1:=F2 ny
  have ho2:=F2 Bm
  have fx:=fa (fa (fa (idf ho0) (idf ho1)) (idf ho2)) (nd3 hnd)
  refine fb 133 [.cell 7 30] [0,1,2,3,4,5,7,8,9,10,11,12,14,16,17,25,26,27,37,38,40,49,56,67,68,69,76,77,80,81,82,86,87,88,89,90,96,97,98,99,103,104,105,106,111,116,117,118,119,129] Tryz.func74 fun hsc=>?_
  refine aO (s':=(E8 st [(o0,(.arr 0 1 0 [[.int .i64 B0]])),(o1,(.arr 0 1 0 [[.bool U0]])),(o2,(.arr 0 1 0 [[.fn 74 [] [.ptr o0 0 0 0,.ptr o1 0 0 0,.ptr o2 0 0 0]]]))])) (C5 (by simp[R8,ny,Bm])) ?_
  refine cd h (fun hc h=>?_) fun hc h=>?_
  ·refine rn ?_
   obtain⟨v1,hv1,h⟩:=M1 h
   refine(S2 _ _ _ hv1 _ _ (by simp) (aG.trans rfl)).mono ?_
   rintro d1 st1 ⟨rfl,rfl⟩
   refine rr ?_
   exact fuo (.agg [.int .i64 v1.code,.int .i64 v1.index]) (.same _) h hsc
  ·refine cl h (pI _) fun v2 h=>?_
   refine rn ?_
   refine aF (U2 (F8 n) B0 a0 a1 U0) r (fun(gj0:Unit) (j0:Int)=>[(1,.int .i64 a1),(4,.ptr o2 0 0 0),(5,.ptr st.length 0 0 0),(7,.ptr (st.length+1) 0 0 0),(9,.fn 75 [] [.ptr (st.length+2) 0 0 0]),(10,.int .i64 j0)]) (fun(gj0:Unit) (j0:Int)=>(E8 st [(o0,(.arr 0 1 0 [[.int .i64 (wr .i64 (B0+1))]])),(o1,(.arr 0 1 0 [[.bool U0]])),(o2,(.arr 0 1 0 [[.fn 74 [] [.ptr o0 0 0 0,.ptr o1 0 0 0,.ptr o2 0 0 0]]]))])++[some (.arr 0 4 0 [[.int .i64 a0.kind,.str a0.name,.sl false 1 16 (rows w9 a0.words),.sl false 4 72 (rows u6.cells a0.subs)]]),some (.arr 0 2 0 [[.int .i64 0,.int .i64 0]]),some (.arr 0 1 0 [[.int .i64 B0]])]) (fun gj0 j0 fr1 st1 h hb=>?_) (fun hj0=>?_)
   ·try simp only[go_sem,fx]
    unfold U2 at h
    refine R6 hb ?_
    refine cd h (fun hc h=>?_) fun hc h=>?_
    ·refine rn ?_
     obtain⟨v3,hv3,h⟩:=M1 h
     refine(S2 _ _ _ hv3 _ _ (by simp) (aG.trans rfl)).mono ?_
     rintro d1 st1 ⟨rfl,rfl⟩
     refine rr ?_
     exact fuo (.agg [.int .i64 v3.code,.int .i64 v3.index]) (.same _) h hsc
    ·refine rn ?_
     refine aF (O6 (F8 n) a0 j0 B0 a1 U0) r (fun(gj1:Unit) (j1:Bool)=>[(1,.int .i64 a1),(4,.ptr o2 0 0 0),(5,.ptr st.length 0 0 0),(7,.ptr (st.length+1) 0 0 0),(9,.fn 75 [] [.ptr (st.length+2) 0 0 0]),(10,.int .i64 j0),(11,.bool j1)]) (fun(gj1:Unit) (j1:Bool)=>(E8 st [(o0,(.arr 0 1 0 [[.int .i64 (wr .i64 (B0+1))]])),(o1,(.arr 0 1 0 [[.bool U0]])),(o2,(.arr 0 1 0 [[.fn 74 [] [.ptr o0 0 0 0,.ptr o1 0 0 0,.ptr o2 0 0 0]]]))])++[some (.arr 0 4 0 [[.int .i64 a0.kind,.str a0.name,.sl false 1 16 (rows w9 a0.words),.sl false 4 72 (rows u6.cells a0.subs)]]),some (.arr 0 2 0 [[.int .i64 0,.int .i64 0]]),some (.arr 0 1 0 [[.int .i64 B0]])]) (fun gj1 j1 fr1 st1 h hb=>?_) (fun hj1=>?_)
     ·try simp only[go_sem,fx]
      unfold O6 at h
      refine R6 hb ?_
      refine cd h (fun hc h=>?_) fun hc h=>?_
      ·refine rn ?_
       obtain⟨v4,hv4,h⟩:=M1 h
       refine(S2 _ _ _ hv4 _ _ (by simp) (aG.trans rfl)).mono ?_
       rintro d1 st1 ⟨rfl,rfl⟩
       refine rr ?_
       exact fuo (.agg [.int .i64 v4.code,.int .i64 v4.index]) (.same _) h hsc
      ·refine rn ?_
       obtain⟨v5,hv5,h⟩:=M1 h
       refine bp (fun hG=>(K6 _ _ (pE hv5 (by simpa using hG)))) ?_
       refine rn ?_
       obtain⟨v6,hv6,h⟩:=M1 h
       refine bp (fun hG=>(eW _ _ (pE hv6 (by simpa using hG)))) ?_
       refine cd h (fun hc h=>?_) fun hc h=>?_
       ·refine rn ?_
        obtain⟨v7,hv7,h⟩:=M1 h
        refine(S2 _ _ _ hv7 _ _ (by simp) (aG.trans rfl)).mono ?_
        rintro d1 st1 ⟨rfl,rfl⟩
        refine rr ?_
        exact fuo (.agg [.int .i64 v7.code,.int .i64 v7.index]) (.same _) h hsc
       ·refine cd h (fun hc h=>?_) fun hc h=>?_
        ·refine rn ?_
         obtain⟨v8,hv8,h⟩:=M1 h
         refine(S2 _ _ _ hv8 _ _ (by simp) (aG.trans rfl)).mono ?_
         rintro d1 st1 ⟨rfl,rfl⟩
         refine rr ?_
         exact fuo (.agg [.int .i64 v8.code,.int .i64 v8.index]) (.same _) h hsc
        ·refine aln 103 fun hl2=>?_
         refine rng (body:=aY a0 B0) (kk:=aZ (F8 n) a0 a1 U0 B0) (n:=a0.words.length) (s0:=())
          (fun(gs2:Unit) (k2:Nat) (s2:Unit)=>[(1,.int .i64 a1),(4,.ptr o2 0 0 0),(5,.ptr st.length 0 0 0),(7,.ptr (st.length+1) 0 0 0),(9,.fn 75 [] [.ptr (st.length+2) 0 0 0]),(103,.sl false 1 16 (rows w9 a0.words)),(104,.int .i64 (↑a0.words.length:Int)),(105,.int .i64 (↑k2:Int))])
          (fun(gs2:Unit) (k2:Nat) (s2:Unit)=>(E8 st [(o0,(.arr 0 1 0 [[.int .i64 (wr .i64 (B0+1))]])),(o1,(.arr 0 1 0 [[.bool U0]])),(o2,(.arr 0 1 0 [[.fn 74 [] [.ptr o0 0 0 0,.ptr o1 0 0 0,.ptr o2 0 0 0]]]))])++[some (.arr 0 4 0 [[.int .i64 a0.kind,.str a0.name,.sl false 1 16 (rows w9 a0.words),.sl false 4 72 (rows u6.cells a0.subs)]]),some (.arr 0 2 0 [[.int .i64 0,.int .i64 0]]),some (.arr 0 1 0 [[.int .i64 B0]])])
          (fun(gt2:Unit) (t2:Unit)=>[(1,.int .i64 a1),(4,.ptr o2 0 0 0),(5,.ptr st.length 0 0 0),(7,.ptr (st.length+1) 0 0 0)])
          (fun(gt2:Unit) (t2:Unit)=>(E8 st [(o0,(.arr 0 1 0 [[.int .i64 (wr .i64 (B0+1))]])),(o1,(.arr 0 1 0 [[.bool U0]])),(o2,(.arr 0 1 0 [[.fn 74 [] [.ptr o0 0 0 0,.ptr o1 0 0 0,.ptr o2 0 0 0]]]))])++[some (.arr 0 4 0 [[.int .i64 a0.kind,.str a0.name,.sl false 1 16 (rows w9 a0.words),.sl false 4 72 (rows u6.cells a0.subs)]]),some (.arr 0 2 0 [[.int .i64 0,.int .i64 0]])])
          () fx hl2 h (bu hsc)
          (fun gs2 k2 s2 b2 fx h hx2=>?_) (fun gs2 s2=>?_) (fun gt2 t2 fr1 st1 h hb=>?_)
         ·unfold aY at h
          refine ct ?_
          refine cl h (eW _) fun v9 h=>?_
          refine cd h (fun hc h=>?_) fun hc h=>?_
          ·refine rn ?_
           obtain⟨v10,hv10,h⟩:=M1 h
           refine(S2 _ _ _ hv10 _ _ (by simp) (aG.trans rfl)).mono ?_
           rintro d1 st1 ⟨rfl,rfl⟩
           refine ra ?_
           cases h
           refine X8 ?_;have h:=congrArg some (hx2 _ rfl)
           refine rr ?_
           exact fuo (.agg [.int .i64 v10.code,.int .i64 v10.index]) (.same _) h hsc
          ·refine rn ?_
           cases h
           exact ig () (bu hsc)
         ·refine cf ?_
          refine gO ?_;simp only[go_sem,fx]
          exact⟨(),(bu hsc)⟩
         ·try simp only[go_sem,fx]
          unfold aZ at h
          refine R6 hb ?_
          refine aln 116 fun hl3=>?_
          refine rng (body:=bf (F8 n) a0 a1 U0) (kk:=bg) (n:=a0.subs.length) (s0:=(wr .i64 (B0+1)))
           (fun(gs3:Unit) (k3:Nat) (s3:Int)=>[(1,.int .i64 a1),(4,.ptr o2 0 0 0),(7,.ptr (st.length+1) 0 0 0),(116,.sl false 4 72 (rows u6.cells a0.subs)),(117,.int .i64 (↑a0.subs.length:Int)),(118,.int .i64 (↑k3:Int))])
           (fun(gs3:Unit) (k3:Nat) (s3:Int)=>(E8 st [(o0,(.arr 0 1 0 [[.int .i64 s3]])),(o1,(.arr 0 1 0 [[.bool U0]])),(o2,(.arr 0 1 0 [[.fn 74 [] [.ptr o0 0 0 0,.ptr o1 0 0 0,.ptr o2 0 0 0]]]))])++[none,some (.arr 0 2 0 [[.int .i64 0,.int .i64 0]])])
           (fun(gt3:Unit) (t3:Int)=>[(7,.ptr (st.length+1) 0 0 0)])
           (fun(gt3:Unit) (t3:Int)=>(E8 st [(o0,(.arr 0 1 0 [[.int .i64 t3]])),(o1,(.arr 0 1 0 [[.bool U0]])),(o2,(.arr 0 1 0 [[.fn 74 [] [.ptr o0 0 0 0,.ptr o1 0 0 0,.ptr o2 0 0 0]]]))])++[none,some (.arr 0 2 0 [[.int .i64 0,.int .i64 0]])])
           () fx hl3 h (bu hsc)
           (fun gs3 k3 s3 b3 fx h hx3=>?_) (fun gs3 s3=>?_) (fun gt3 t3 fr1 st1 h hb=>?_)
          ·unfold bf at h
           refine ct ?_
           refine rn ?_
           obtain⟨v12,hv12,h⟩:=M1 h
           refine(ih _ _ _ _ _ hv12 _ _ _ _ hnd (by simp only[go_sem,fx]) (by simp only[go_sem,fx]) (by simp only[go_sem,fx])).mono ?_
           rintro d1 st1 ⟨rfl,rfl⟩
           refine cd h (fun hc h=>?_) fun hc h=>?_
           ·refine ra ?_
            cases h
            refine X8 ?_;have h:=congrArg some (hx3 _ rfl)
            refine rr ?_
            exact fuo (.agg [.int .i64 v12.1.code,.int .i64 v12.1.index]) (.same _) h hsc
           ·refine rn ?_
            cases h
            exact ig () (bu hsc)
          ·refine cf ?_
           refine gO ?_;simp only[go_sem,fx]
           exact⟨(),(bu hsc)⟩
          ·try simp only[go_sem,fx]
           unfold bg at h
           refine R6 hb ?_
           refine rr ?_
           exact fuo (.agg [.int .i64 0,.int .i64 0]) (.same _) h hsc
     ·refine cd h (fun hc h=>?_) fun hc h=>?_
      ·refine r0 ?_
       refine hj1 () _ _ _ h ?_;exact(bu hsc)
      ·refine cd h (fun hc h=>?_) fun hc h=>?_
       ·refine r0 ?_
        refine hj1 () _ _ _ h ?_;exact(bu hsc)
       ·refine r0 ?_
        refine hj1 () _ _ _ h ?_;exact(bu hsc)
   ·refine cd h (fun hc h=>?_) fun hc h=>?_
    ·refine r0 ?_
     refine hj0 () _ _ _ h ?_;exact(bu hsc)
    ·refine r0 ?_
     refine hj0 () _ _ _ h ?_;exact(bu hsc)
theorem oV(n:Nat)(a0:u6)(a1:Bool)(r:x6)(h:fE n a0 a1=some r):Pure Tryz.prog gl 49 [.agg [.int .i64 a0.kind,.str a0.name,.sl false 1 16 (rows w9 a0.words),.sl false 4 72 (rows u6.cells a0.subs)],.bool a1] (.agg [.int .i64 r.code,.int .i64 r.index]):=by
 intro st
 unfold fE at h
 have fx:=trivial
 refine fb 11 [.cell 4 30] [0,1,2,3,4,5,6] Tryz.func49 fun hsc=>?_
 refine rn ?_
 obtain⟨v1,hv1,h⟩:=M1 h
 refine(mL n _ _ _ _ _ hv1 _ _ _ _ (by simp) (lC.trans rfl) (lC.trans rfl) (lC.trans rfl)).mono ?_
 rintro d1 st1 ⟨rfl,rfl⟩
 exact rt
theorem bW(n:Nat)(a0:u6)(r:x6)(h:S6 n a0=some r):Pure Tryz.prog gl 29 [.agg [.int .i64 a0.kind,.str a0.name,.sl false 1 16 (rows w9 a0.words),.sl false 4 72 (rows u6.cells a0.subs)]] (.agg [.int .i64 r.code,.int .i64 r.index]):=by
 intro st
 unfold S6 at h
 have fx:=trivial
 refine fb 5 [.cell 2 30] [0,1,2] Tryz.func29 fun hsc=>?_
 refine cl h (oV n _ _) fun v1 h=>?_
 exact rt
theorem dh(a0:w8)(r:(List Bs))(h:U6 a0=some r):Pure Tryz.prog gl 33 [.agg [.int .i64 a0.form.kind,.str a0.form.name,.sl false 1 16 (rows w9 a0.form.words),.sl false 4 72 (rows u6.cells a0.form.subs),.sl false 1 16 (rows w9 a0.words),.sl false 1 16 (rows w9 a0.B1),.sl false 1 16 (rows w9 a0.parts)]] (.sl false 1 16 (rows w9 r)):=by
 intro st
 unfold U6 at h
 have fx:=trivial
 refine fb 11 [.tmp 2] [0,1,2] Tryz.func33 fun hsc=>?_
 refine cl h (qh _) fun v2 h=>?_
 exact rt
theorem C7(a0:Int)(a1:Int)(r:x6)(h:C2 a0 a1=some r):Pure Tryz.prog gl 18 [.int .i64 a0,.int .i64 a1] (.agg [.int .i64 r.code,.int .i64 r.index]):=by
 intro st
 unfold C2 at h
 have fx:=trivial
 refine fb 8 [.cell 4 30] [0,1,4] Tryz.func18 fun hsc=>?_
 exact rt
theorem fj(a0:(List Bs))(a1:Bs)(r:Int)(h:Q8 a0 a1=some r):Pure Tryz.prog gl 59 [.sl false 1 16 (rows w9 a0),.str a1] (.int .i64 r):=by
 intro st
 unfold Q8 at h
 have fx:=trivial
 refine fb 19 [.tmp 4] [0,1,4,5,7,8,9,16] Tryz.func59 fun hsc=>?_
 refine aln 0 fun hl0=>?_
 refine rng (body:=K8 a1 a0) (kk:=K9) (n:=a0.length) (s0:=())
  (fun(gs0:Unit) (k0:Nat) (s0:Unit)=>[(0,.sl false 1 16 (rows w9 a0)),(1,.str a1),(7,.int .i64 (↑a0.length:Int)),(8,.int .i64 (↑k0:Int))])
  (fun(gs0:Unit) (k0:Nat) (s0:Unit)=>st)
  (fun(gt0:Unit) (t0:Unit)=>[])
  (fun(gt0:Unit) (t0:Unit)=>st)
  () fx hl0 h (jP hsc)
  (fun gs0 k0 s0 b0 fx h hx0=>?_) (fun gs0 s0=>?_) (fun gt0 t0 fr1 st1 h hb=>?_)
 ·unfold K8 at h
  refine ct ?_
  refine cd h (fun hc h=>?_) fun hc h=>?_
  ·refine ra ?_
   cases h
   refine X8 ?_;have h:=congrArg some (hx0 _ rfl)
   exact rt
  ·refine rn ?_
   cases h
   exact ig () (jP hsc)
 ·refine cf ?_
  refine gO ?_;simp only[go_sem,fx]
  exact⟨(),(jP hsc)⟩
 ·try simp only[go_sem,fx]
  unfold K9 at h
  refine R6 hb ?_
  exact rt
theorem y3(a0:(List Bs))(a1:Bs)(r:Bool)(h:x7 a0 a1=some r):Pure Tryz.prog gl 35 [.sl false 1 16 (rows w9 a0),.str a1] (.bool r):=by
 intro st
 unfold x7 at h
 have fx:=trivial
 refine fb 9 [.tmp 4] [0,1,4] Tryz.func35 fun hsc=>?_
 refine cl h (fj _ _) fun v1 h=>?_
 exact rt
theorem jr:∀(n:Nat) (a0:u6) (a1:(List Bs)) (l1:(List Bs)) (r:(List Bs)) (h:E7 n a0 a1 l1=some r),∀(st:St) (o0 o1 o2 q1:Nat) (hnd: [o0,o1,o2].Nodup) (R8:Am.look st o0=some (.arr 0 1 0 [[.ref false o1 q1 0 l1.length]])) (ny:Am.look st o1=some (.arr q1 1 16 (rows w9 l1))) (Bm:Am.look st o2=some (.arr 0 1 0 [[.fn 55 [] [.ptr o0 0 0 0,.ptr o2 0 0 0]]])),Am.Spec Tryz.prog gl 55 [.agg [.int .i64 a0.kind,.str a0.name,.sl false 1 16 (rows w9 a0.words),.sl false 4 72 (rows u6.cells a0.subs)],.sl false 1 16 (rows w9 a1),.ptr o0 0 0 0,.ptr o2 0 0 0] st (fun d st'=>∃zo1:Nat,d= .tup []∧st'=puts st [(o0,(.arr 0 1 0 [[.ref false o1 zo1 0 r.length]])),(o1,(.arr zo1 1 16 (rows w9 r))),(o2,(.arr 0 1 0 [[.fn 55 [] [.ptr o0 0 0 0,.ptr o2 0 0 0]]]))]):=by
 intro n
 induction n with
 |zero=>intro a0 a1 l1 r h;cases h
 |succ n ih=>
  intro a0 a1 l1 r h st o0 o1 o2 q1 hnd R8 ny Bm
  unfold E7 at h
  have ho0:=F2 R8
  have ho1:=F2 ny
  have ho2:=F2 Bm
  have fx:=fa (fa (fa (idf ho0) (idf ho1)) (idf ho2)) (nd3 hnd)
  refine fb 50 [] [0,1,2,3,4,7,9,11,12,13,14,20,27,39,40,41,42] Tryz.func55 fun hsc=>?_
  refine aO (s':=(E8 st [(o0,(.arr 0 1 0 [[.ref false o1 q1 0 l1.length]])),(o1,(.arr q1 1 16 (rows w9 l1))),(o2,(.arr 0 1 0 [[.fn 55 [] [.ptr o0 0 0 0,.ptr o2 0 0 0]]]))])) (C5 (by simp[R8,ny,Bm])) ?_
  refine aln 11 fun hl0=>?_
  refine rng (body:=W7 a1 a0) (kk:=X0 (E7 n) a0 a1) (n:=a0.words.length) (s0:=l1)
   (fun(gs0:Nat) (k0:Nat) (s0:(List Bs))=>[(1,.sl false 1 16 (rows w9 a1)),(2,.ptr o0 0 0 0),(3,.ptr o2 0 0 0),(4,.ptr st.length 0 0 0),(11,.sl false 1 16 (rows w9 a0.words)),(12,.int .i64 (↑a0.words.length:Int)),(13,.int .i64 (↑k0:Int))])
   (fun(gs0:Nat) (k0:Nat) (s0:(List Bs))=>(E8 st [(o0,(.arr 0 1 0 [[.ref false o1 gs0 0 s0.length]])),(o1,(.arr gs0 1 16 (rows w9 s0))),(o2,(.arr 0 1 0 [[.fn 55 [] [.ptr o0 0 0 0,.ptr o2 0 0 0]]]))])++[some (.arr 0 4 0 [[.int .i64 a0.kind,.str a0.name,.sl false 1 16 (rows w9 a0.words),.sl false 4 72 (rows u6.cells a0.subs)]])])
   (fun(gt0:Nat) (t0:(List Bs))=>[(1,.sl false 1 16 (rows w9 a1)),(3,.ptr o2 0 0 0),(4,.ptr st.length 0 0 0)])
   (fun(gt0:Nat) (t0:(List Bs))=>(E8 st [(o0,(.arr 0 1 0 [[.ref false o1 gt0 0 t0.length]])),(o1,(.arr gt0 1 16 (rows w9 t0))),(o2,(.arr 0 1 0 [[.fn 55 [] [.ptr o0 0 0 0,.ptr o2 0 0 0]]]))])++[some (.arr 0 4 0 [[.int .i64 a0.kind,.str a0.name,.sl false 1 16 (rows w9 a0.words),.sl false 4 72 (rows u6.cells a0.subs)]])])
   q1 fx hl0 h (bu hsc)
   (fun gs0 k0 s0 b0 fx h hx0=>?_) (fun gs0 s0=>?_) (fun gt0 t0 fr1 st1 h hb=>?_)
  ·unfold W7 at h
   refine ct ?_
   refine cl h (y3 _ _) fun v8 h=>?_
   refine cd h (fun hc h=>?_) fun hc h=>?_
   ·obtain⟨c10,Jf,h⟩:=gG h
    have fy:=(show rows w9 s0++[[.str (get a0.words k0)]]=rows w9 c10 from by rw[Jf];first|exact F1 (E:=w9) s0 [(get a0.words k0)]|simp only[go_sem,rows,List.map_append,List.map_cons,List.map_nil])
    have fy:=fa fy (show s0.length+1=c10.length from by rw[Jf];simp)
    obtain⟨fx,h⟩:=ck fx h
    refine r1 ?_
    refine rn ?_
    cases h
    exact ig (gs0+1) (bu hsc)
   ·refine rn ?_
    cases h
    exact ig gs0 (bu hsc)
  ·refine cf ?_
   refine gO ?_;simp only[go_sem,fx]
   exact⟨gs0,(bu hsc)⟩
  ·try simp only[go_sem,fx]
   unfold X0 at h
   refine R6 hb ?_
   refine cl h (K6 _) fun v15 h=>?_
   refine rn ?_
   refine aF (K5 (E7 n) a0 t0) r (fun(gj1:Unit) (j1:(List Bs))=>[(1,.sl false 1 16 (rows w9 j1)),(3,.ptr o2 0 0 0),(4,.ptr st.length 0 0 0)]) (fun(gj1:Unit) (j1:(List Bs))=>(E8 st [(o0,(.arr 0 1 0 [[.ref false o1 gt0 0 t0.length]])),(o1,(.arr gt0 1 16 (rows w9 t0))),(o2,(.arr 0 1 0 [[.fn 55 [] [.ptr o0 0 0 0,.ptr o2 0 0 0]]]))])++[some (.arr 0 4 0 [[.int .i64 a0.kind,.str a0.name,.sl false 1 16 (rows w9 a0.words),.sl false 4 72 (rows u6.cells a0.subs)]])]) (fun gj1 j1 fr1 st1 h hb=>?_) (fun hj1=>?_)
   ·try simp only[go_sem,fx]
    unfold K5 at h
    refine R6 hb ?_
    refine aln 39 fun hl2=>?_
    refine rng (body:=W8 (E7 n) a0 j1) (kk:=W9) (n:=a0.subs.length) (s0:=t0)
     (fun(gs2:Nat) (k2:Nat) (s2:(List Bs))=>[(1,.sl false 1 16 (rows w9 j1)),(3,.ptr o2 0 0 0),(39,.sl false 4 72 (rows u6.cells a0.subs)),(40,.int .i64 (↑a0.subs.length:Int)),(41,.int .i64 (↑k2:Int))])
     (fun(gs2:Nat) (k2:Nat) (s2:(List Bs))=>(E8 st [(o0,(.arr 0 1 0 [[.ref false o1 gs2 0 s2.length]])),(o1,(.arr gs2 1 16 (rows w9 s2))),(o2,(.arr 0 1 0 [[.fn 55 [] [.ptr o0 0 0 0,.ptr o2 0 0 0]]]))]))
     (fun(gt2:Nat) (t2:(List Bs))=>[])
     (fun(gt2:Nat) (t2:(List Bs))=>(E8 st [(o0,(.arr 0 1 0 [[.ref false o1 gt2 0 t2.length]])),(o1,(.arr gt2 1 16 (rows w9 t2))),(o2,(.arr 0 1 0 [[.fn 55 [] [.ptr o0 0 0 0,.ptr o2 0 0 0]]]))]))
     gt0 fx hl2 h (bu0 hsc)
     (fun gs2 k2 s2 b2 fx h hx2=>?_) (fun gs2 s2=>?_) (fun gt2 t2 fr1 st1 h hb=>?_)
    ·unfold W8 at h
     refine ct ?_
     refine rn ?_
     obtain⟨v26,hv26,h⟩:=M1 h
     refine(ih _ _ _ _ hv26 _ _ _ _ gs2 hnd (by simp only[go_sem,fx]) (by simp only[go_sem,fx]) (by simp only[go_sem,fx])).mono ?_
     rintro d1 st1 ⟨g27,rfl,rfl⟩
     refine rn ?_
     cases h
     exact ig g27 (bu0 hsc)
    ·refine cf ?_
     refine gO ?_;simp only[go_sem,fx]
     exact⟨gs2,(xw hsc)⟩
    ·try simp only[go_sem,fx]
     unfold W9 at h
     refine vQ hb ?_
     refine rr ?_
     exact fus (.tup []) (.same _) h hsc (hr:=by rintro rfl;exact⟨gt2,rfl,rfl⟩)
   ·refine cd h (fun hc h=>?_) fun hc h=>?_
    ·refine rs ?_
     obtain⟨fx,h⟩:=ck fx h
     obtain⟨c19,JN,h⟩:=gG h
     have fy:=(show rows w9 a1++[[.str a0.name]]=rows w9 c19 from by rw[JN];first|exact F1 (E:=w9) a1 [a0.name]|simp only[go_sem,rows,List.map_append,List.map_cons,List.map_nil])
     have fy:=fa fy (show a1.length+1=c19.length from by rw[JN];simp)
     obtain⟨fx,h⟩:=ck fx h
     refine dwy [] 2 ?_
     refine hj1 () _ _ _ h ?_;exact(bu hsc (hf:=⟨.ref _ _ _ _ _ _ _ _ _ (L4.trans rfl) (eA (by first|decide|simp)) (by decide) (ng _) (by simp only[go_sem]),.s,.s,trivial⟩))
    ·refine r0 ?_
     refine hj1 () _ _ _ h ?_;exact(bu hsc)
end Go.Proofs.YtahjhbkhcaphgaaGreatDoor
