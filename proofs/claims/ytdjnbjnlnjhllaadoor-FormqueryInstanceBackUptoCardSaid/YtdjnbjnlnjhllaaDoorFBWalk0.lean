import Derived.Test.YtdjnbjnlnjhllaaDoorFBMirrors
set_option linter.unusedVariables false
set_option linter.unusedSimpArgs false
set_option maxHeartbeats 2000000
set_option maxRecDepth 100000
namespace Go.Proofs.YtdjnbjnlnjhllaaDoor
open Go Go.Am
theorem RJ(a0:Bs)(a1:(List Bs))(r:LZ)(h:PN a0 a1=some r):Pure Tryd.prog gl 17 [.str a0,.sl false 1 16 (rows Me a1)] (.agg [.int .i64 r.kind,.str r.name,.sl false 1 16 (rows Me r.words),.sl false 4 72 (rows LZ.cells r.subs)]):=by
 intro st
 unfold PN at h
 have fx:=trivial
 refine fb 8 [.cell 4 25] [0,1,4] Tryd.func17 fun hsc=>?_
 refine rr ?_
 exact fo (.agg [.int .i64 2,.str a0,.sl false 1 16 (rows Me a1),.sl false 4 72 (rows LZ.cells [])]) (.agg _ _ (.cons _ _ _ _ .s (.cons _ _ _ _ .s (.cons _ _ _ _ .s (.cons _ _ _ _ (.Mk _ _ _ (by decide)) .nil))))) h hsc
theorem Qc(a0:Int)(a1:LZ)(a2:LZ)(r:LZ)(h:OB a0 a1 a2=some r):Pure Tryd.prog gl 16 [.int .i64 a0,.agg [.int .i64 a1.kind,.str a1.name,.sl false 1 16 (rows Me a1.words),.sl false 4 72 (rows LZ.cells a1.subs)],.agg [.int .i64 a2.kind,.str a2.name,.sl false 1 16 (rows Me a2.words),.sl false 4 72 (rows LZ.cells a2.subs)]] (.agg [.int .i64 r.kind,.str r.name,.sl false 1 16 (rows Me r.words),.sl false 4 72 (rows LZ.cells r.subs)]):=by
 intro st
 unfold OB at h
 have fx:=trivial
 refine fb 12 [.cell 6 25] [0,1,2,4,5,6] Tryd.func16 fun hsc=>?_
 refine rr ?_
 exact fo (.agg [.int .i64 a0,.str [],.sl false 1 16 (rows Me []),.sl false 4 72 (rows LZ.cells [a1,a2])]) (.agg _ _ (.cons _ _ _ _ .s (.cons _ _ _ _ .s (.cons _ _ _ _ (.Mk _ _ _ (by decide)) (.cons _ _ _ _ (.ref _ _ _ _ _ _ _ _ _ (d2t.trans rfl) d8B (by decide) (by simp[Imm,D.imm]) (by simp only[go_sem,rows,List.map_cons,List.map_nil])) .nil))))) h hsc
theorem Ow(a0:Int)(MB:Int)(r:Mi)(h:Oq a0 MB=some r):∀(st:St) (o0:Nat) (hnd: [o0].Nodup) (QM:Am.look st o0=some (.arr 0 1 0 [[.int .i64 MB]])),Am.Spec Tryd.prog gl 53 [.int .i64 a0,.ptr o0 0 0 0] st (fun d st'=>d= .agg [.int .i64 r.code,.int .i64 r.index]∧st'=puts st []):=by
 intro st o0 hnd QM
 unfold Oq at h
 have ho0:=MZ QM
 have fx:=idf ho0
 refine fb 7 [.cell 3 30] [0,1,3] Tryd.func53 fun hsc=>?_
 refine Tf (s':=(Nf st [(o0,(.arr 0 1 0 [[.int .i64 MB]]))])) (MS (by simp[QM])) ?_
 refine rr ?_
 exact fuo (.agg [.int .i64 a0,.int .i64 MB]) (.same _) h hsc (hr:=by rintro rfl;exact⟨rfl,MS (by simp[QM])⟩)
theorem ZL(a0:Int)(r:Int)(h:Ti a0=some r):Pure Tryd.prog gl 54 [.int .i64 a0] (.int .i64 r):=by
 intro st
 unfold Ti at h
 have fx:=trivial
 refine fb 16 [.tmp 2] [0,2,3,4,8,12] Tryd.func54 fun hsc=>?_
 refine rn ?_
 refine Sw (PX a0) r (fun(gj0:Unit) (j0:Bool)=>[(3,.int .i64 a0),(4,.bool j0)]) (fun(gj0:Unit) (j0:Bool)=>st) (fun gj0 j0 fr1 st1 h hb=>?_) (fun hj0=>?_)
 ·try simp only[go_sem,fx]
  unfold PX at h
  refine Ql hb ?_
  refine cd h (fun hc h=>?_) fun hc h=>?_
  ·exact rt
  ·refine rn ?_
   refine Sw (PY a0) r (fun(gj1:Unit) (j1:Bool)=>[(3,.int .i64 a0),(8,.bool j1)]) (fun(gj1:Unit) (j1:Bool)=>st) (fun gj1 j1 fr1 st1 h hb=>?_) (fun hj1=>?_)
   ·try simp only[go_sem,fx]
    unfold PY at h
    refine Ql hb ?_
    refine cd h (fun hc h=>?_) fun hc h=>?_
    ·exact rt
    ·refine rn ?_
     refine Sw (PZ) r (fun(gj2:Unit) (j2:Bool)=>[(12,.bool j2)]) (fun(gj2:Unit) (j2:Bool)=>st) (fun gj2 j2 fr1 st1 h hb=>?_) (fun hj2=>?_)
     ·try simp only[go_sem,fx]
      unfold PZ at h
      refine Ql hb ?_
      refine cd h (fun hc h=>?_) fun hc h=>?_
      ·exact rt
      ·exact rt
     ·refine cd h (fun hc h=>?_) fun hc h=>?_
      ·refine r0 ?_
       refine hj2 () _ _ _ h ?_;exact(Zf hsc)
      ·refine cd h (fun hc h=>?_) fun hc h=>?_
       ·refine r0 ?_
        refine hj2 () _ _ _ h ?_;exact(Zf hsc)
       ·refine r0 ?_
        refine hj2 () _ _ _ h ?_;exact(Zf hsc)
   ·refine cd h (fun hc h=>?_) fun hc h=>?_
    ·refine r0 ?_
     refine hj1 () _ _ _ h ?_;exact(Zf hsc)
    ·refine cd h (fun hc h=>?_) fun hc h=>?_
     ·refine r0 ?_
      refine hj1 () _ _ _ h ?_;exact(Zf hsc)
     ·refine r0 ?_
      refine hj1 () _ _ _ h ?_;exact(Zf hsc)
 ·refine cd h (fun hc h=>?_) fun hc h=>?_
  ·refine r0 ?_
   refine hj0 () _ _ _ h ?_;exact(Zf hsc)
  ·refine cd h (fun hc h=>?_) fun hc h=>?_
   ·refine r0 ?_
    refine hj0 () _ _ _ h ?_;exact(Zf hsc)
   ·refine r0 ?_
    refine hj0 () _ _ _ h ?_;exact(Zf hsc)
theorem Nh(a0:LZ)(r:Bool)(h:MG a0=some r):Pure Tryd.prog gl 38 [.agg [.int .i64 a0.kind,.str a0.name,.sl false 1 16 (rows Me a0.words),.sl false 4 72 (rows LZ.cells a0.subs)]] (.bool r):=by
 intro st
 unfold MG at h
 have fx:=trivial
 refine fb 11 [.tmp 2] [0,1,2,7,8,9] Tryd.func38 fun hsc=>?_
 exact rt
theorem UH(a0:Bs)(r:Bool)(h:termName a0=some r):Pure Tryd.prog gl 22 [.str a0] (.bool r):=by
 intro st
 unfold termName at h
 have fx:=trivial
 refine fb 55 [.tmp 2] [0,2,3,4,9,10,11,14,15,16,19,20,21,22,24,25,26,34,35,38,39,40,41,42,43,46,47,50,51,53] Tryd.func22 fun hsc=>?_
 obtain⟨fx,h⟩:=ck fx h
 obtain⟨fx,h⟩:=ck fx h
 refine cd h (fun hc h=>?_) fun hc h=>?_
 ·exact rt
 ·obtain⟨fx,h⟩:=ck fx h
  refine rn ?_
  refine rng (body:=Uz a0) (kk:=UA) (n:=a0.length) (s0:=())
   (fun(gs0:Unit) (k0:Nat) (s0:Unit)=>[(0,.str a0),(24,.int .i64 (↑a0.length:Int)),(25,.int .i64 (↑k0:Int))])
   (fun(gs0:Unit) (k0:Nat) (s0:Unit)=>st)
   (fun(gt0:Unit) (t0:Unit)=>[])
   (fun(gt0:Unit) (t0:Unit)=>st)
   () fx fx.2 h (Zf hsc)
   (fun gs0 k0 s0 b0 fx h hx0=>?_) (fun gs0 s0=>?_) (fun gt0 t0 fr1 st1 h hb=>?_)
  ·unfold Uz at h
   refine ct ?_
   refine cd h (fun hc h=>?_) fun hc h=>?_
   ·refine ra ?_
    cases h
    refine OG ?_;have h:=congrArg some (hx0 _ rfl)
    exact rt
   ·refine rn ?_
    cases h
    exact Um () (Zf hsc)
  ·refine cf ?_
   refine Ud ?_;simp only[go_sem,fx]
   exact⟨(),(Zf hsc)⟩
  ·try simp only[go_sem,fx]
   unfold UA at h
   refine Ql hb ?_
   exact rt
theorem Yd:∀(n:Nat) (a0:LZ) (a1:Int) (MB:Int) (MN:Bool) (r:Mi×Int) (h:Nb n a0 a1 MB MN=some r),∀(st:St) (o0 o1 o2:Nat) (hnd: [o0,o1,o2].Nodup) (QM:Am.look st o0=some (.arr 0 1 0 [[.int .i64 MB]])) (Xm:Am.look st o1=some (.arr 0 1 0 [[.bool MN]])) (d3A:Am.look st o2=some (.arr 0 1 0 [[.fn 52 [] [.ptr o0 0 0 0,.ptr o1 0 0 0,.ptr o2 0 0 0]]])),Am.Spec Tryd.prog gl 52 [.agg [.int .i64 a0.kind,.str a0.name,.sl false 1 16 (rows Me a0.words),.sl false 4 72 (rows LZ.cells a0.subs)],.int .i64 a1,.ptr o0 0 0 0,.ptr o1 0 0 0,.ptr o2 0 0 0] st (fun d st'=>d= .agg [.int .i64 r.1.code,.int .i64 r.1.index]∧st'=puts st [(o0,(.arr 0 1 0 [[.int .i64 r.2]])),(o1,(.arr 0 1 0 [[.bool MN]])),(o2,(.arr 0 1 0 [[.fn 52 [] [.ptr o0 0 0 0,.ptr o1 0 0 0,.ptr o2 0 0 0]]]))]):=by
 intro n
 induction n with
 |zero=>intro a0 a1 MB MN r h;cases h
 |succ n ih=>
  intro a0 a1 MB MN r h st o0 o1 o2 hnd QM Xm d3A
  unfold Nb at h
  have ho0:=MZ QM
  have ho1:=MZ Xm
  have ho2:=MZ d3A
  have fx:=fa (fa (fa (idf ho0) (idf ho1)) (idf ho2)) (nd3 hnd)
  refine fb 133 [.cell 7 30] [0,1,2,3,4,5,7,8,9,10,11,12,14,16,17,25,26,27,37,38,40,49,56,67,68,69,76,77,80,81,82,86,87,88,89,90,96,97,98,99,103,104,105,106,111,116,117,118,119,129] Tryd.func52 fun hsc=>?_
  refine Tf (s':=(Nf st [(o0,(.arr 0 1 0 [[.int .i64 MB]])),(o1,(.arr 0 1 0 [[.bool MN]])),(o2,(.arr 0 1 0 [[.fn 52 [] [.ptr o0 0 0 0,.ptr o1 0 0 0,.ptr o2 0 0 0]]]))])) (MS (by simp[QM,Xm,d3A])) ?_
  refine cd h (fun hc h=>?_) fun hc h=>?_
  ·refine rn ?_
   obtain⟨v1,hv1,h⟩:=QJ h
   refine(Ow _ _ _ hv1 _ _ (by simp) (Pu.trans rfl)).mono ?_
   rintro d1 st1 ⟨rfl,rfl⟩
   refine rr ?_
   exact fuo (.agg [.int .i64 v1.code,.int .i64 v1.index]) (.same _) h hsc
  ·refine cl h (ZL _) fun v2 h=>?_
   refine rn ?_
   refine Sw (OM (Nb n) MB a0 a1 MN) r (fun(gj0:Unit) (j0:Int)=>[(1,.int .i64 a1),(4,.ptr o2 0 0 0),(5,.ptr st.length 0 0 0),(7,.ptr (st.length+1) 0 0 0),(9,.fn 53 [] [.ptr (st.length+2) 0 0 0]),(10,.int .i64 j0)]) (fun(gj0:Unit) (j0:Int)=>(Nf st [(o0,(.arr 0 1 0 [[.int .i64 (wr .i64 (MB+1))]])),(o1,(.arr 0 1 0 [[.bool MN]])),(o2,(.arr 0 1 0 [[.fn 52 [] [.ptr o0 0 0 0,.ptr o1 0 0 0,.ptr o2 0 0 0]]]))])++[some (.arr 0 4 0 [[.int .i64 a0.kind,.str a0.name,.sl false 1 16 (rows Me a0.words),.sl false 4 72 (rows LZ.cells a0.subs)]]),some (.arr 0 2 0 [[.int .i64 0,.int .i64 0]]),some (.arr 0 1 0 [[.int .i64 MB]])]) (fun gj0 j0 fr1 st1 h hb=>?_) (fun hj0=>?_)
   ·try simp only[go_sem,fx]
    unfold OM at h
    refine Ql hb ?_
    refine cd h (fun hc h=>?_) fun hc h=>?_
    ·refine rn ?_
     obtain⟨v3,hv3,h⟩:=QJ h
     refine(Ow _ _ _ hv3 _ _ (by simp) (Pu.trans rfl)).mono ?_
     rintro d1 st1 ⟨rfl,rfl⟩
     refine rr ?_
     exact fuo (.agg [.int .i64 v3.code,.int .i64 v3.index]) (.same _) h hsc
    ·refine rn ?_
     refine Sw (Oc (Nb n) a0 j0 MB a1 MN) r (fun(gj1:Unit) (j1:Bool)=>[(1,.int .i64 a1),(4,.ptr o2 0 0 0),(5,.ptr st.length 0 0 0),(7,.ptr (st.length+1) 0 0 0),(9,.fn 53 [] [.ptr (st.length+2) 0 0 0]),(10,.int .i64 j0),(11,.bool j1)]) (fun(gj1:Unit) (j1:Bool)=>(Nf st [(o0,(.arr 0 1 0 [[.int .i64 (wr .i64 (MB+1))]])),(o1,(.arr 0 1 0 [[.bool MN]])),(o2,(.arr 0 1 0 [[.fn 52 [] [.ptr o0 0 0 0,.ptr o1 0 0 0,.ptr o2 0 0 0]]]))])++[some (.arr 0 4 0 [[.int .i64 a0.kind,.str a0.name,.sl false 1 16 (rows Me a0.words),.sl false 4 72 (rows LZ.cells a0.subs)]]),some (.arr 0 2 0 [[.int .i64 0,.int .i64 0]]),some (.arr 0 1 0 [[.int .i64 MB]])]) (fun gj1 j1 fr1 st1 h hb=>?_) (fun hj1=>?_)
     ·try simp only[go_sem,fx]
      unfold Oc at h
      refine Ql hb ?_
      refine cd h (fun hc h=>?_) fun hc h=>?_
      ·refine rn ?_
       obtain⟨v4,hv4,h⟩:=QJ h
       refine(Ow _ _ _ hv4 _ _ (by simp) (Pu.trans rfl)).mono ?_
       rintro d1 st1 ⟨rfl,rfl⟩
       refine rr ?_
       exact fuo (.agg [.int .i64 v4.code,.int .i64 v4.index]) (.same _) h hsc
      ·refine rn ?_
       obtain⟨v5,hv5,h⟩:=QJ h
       refine SZ (fun hG=>(Nh _ _ (d3Z hv5 (by simpa using hG)))) ?_
       refine rn ?_
       obtain⟨v6,hv6,h⟩:=QJ h
       refine SZ (fun hG=>(UH _ _ (d3Z hv6 (by simpa using hG)))) ?_
       refine cd h (fun hc h=>?_) fun hc h=>?_
       ·refine rn ?_
        obtain⟨v7,hv7,h⟩:=QJ h
        refine(Ow _ _ _ hv7 _ _ (by simp) (Pu.trans rfl)).mono ?_
        rintro d1 st1 ⟨rfl,rfl⟩
        refine rr ?_
        exact fuo (.agg [.int .i64 v7.code,.int .i64 v7.index]) (.same _) h hsc
       ·refine cd h (fun hc h=>?_) fun hc h=>?_
        ·refine rn ?_
         obtain⟨v8,hv8,h⟩:=QJ h
         refine(Ow _ _ _ hv8 _ _ (by simp) (Pu.trans rfl)).mono ?_
         rintro d1 st1 ⟨rfl,rfl⟩
         refine rr ?_
         exact fuo (.agg [.int .i64 v8.code,.int .i64 v8.index]) (.same _) h hsc
        ·refine aln 103 fun hl2=>?_
         refine rng (body:=QY a0 MB) (kk:=QZ (Nb n) a0 a1 MN MB) (n:=a0.words.length) (s0:=())
          (fun(gs2:Unit) (k2:Nat) (s2:Unit)=>[(1,.int .i64 a1),(4,.ptr o2 0 0 0),(5,.ptr st.length 0 0 0),(7,.ptr (st.length+1) 0 0 0),(9,.fn 53 [] [.ptr (st.length+2) 0 0 0]),(103,.sl false 1 16 (rows Me a0.words)),(104,.int .i64 (↑a0.words.length:Int)),(105,.int .i64 (↑k2:Int))])
          (fun(gs2:Unit) (k2:Nat) (s2:Unit)=>(Nf st [(o0,(.arr 0 1 0 [[.int .i64 (wr .i64 (MB+1))]])),(o1,(.arr 0 1 0 [[.bool MN]])),(o2,(.arr 0 1 0 [[.fn 52 [] [.ptr o0 0 0 0,.ptr o1 0 0 0,.ptr o2 0 0 0]]]))])++[some (.arr 0 4 0 [[.int .i64 a0.kind,.str a0.name,.sl false 1 16 (rows Me a0.words),.sl false 4 72 (rows LZ.cells a0.subs)]]),some (.arr 0 2 0 [[.int .i64 0,.int .i64 0]]),some (.arr 0 1 0 [[.int .i64 MB]])])
          (fun(gt2:Unit) (t2:Unit)=>[(1,.int .i64 a1),(4,.ptr o2 0 0 0),(5,.ptr st.length 0 0 0),(7,.ptr (st.length+1) 0 0 0)])
          (fun(gt2:Unit) (t2:Unit)=>(Nf st [(o0,(.arr 0 1 0 [[.int .i64 (wr .i64 (MB+1))]])),(o1,(.arr 0 1 0 [[.bool MN]])),(o2,(.arr 0 1 0 [[.fn 52 [] [.ptr o0 0 0 0,.ptr o1 0 0 0,.ptr o2 0 0 0]]]))])++[some (.arr 0 4 0 [[.int .i64 a0.kind,.str a0.name,.sl false 1 16 (rows Me a0.words),.sl false 4 72 (rows LZ.cells a0.subs)]]),some (.arr 0 2 0 [[.int .i64 0,.int .i64 0]])])
          () fx hl2 h (bu hsc)
          (fun gs2 k2 s2 b2 fx h hx2=>?_) (fun gs2 s2=>?_) (fun gt2 t2 fr1 st1 h hb=>?_)
         ·unfold QY at h
          refine ct ?_
          refine cl h (UH _) fun v9 h=>?_
          refine cd h (fun hc h=>?_) fun hc h=>?_
          ·refine rn ?_
           obtain⟨v10,hv10,h⟩:=QJ h
           refine(Ow _ _ _ hv10 _ _ (by simp) (Pu.trans rfl)).mono ?_
           rintro d1 st1 ⟨rfl,rfl⟩
           refine ra ?_
           cases h
           refine OG ?_;have h:=congrArg some (hx2 _ rfl)
           refine rr ?_
           exact fuo (.agg [.int .i64 v10.code,.int .i64 v10.index]) (.same _) h hsc
          ·refine rn ?_
           cases h
           exact Um () (bu hsc)
         ·refine cf ?_
          refine Ud ?_;simp only[go_sem,fx]
          exact⟨(),(bu hsc)⟩
         ·try simp only[go_sem,fx]
          unfold QZ at h
          refine Ql hb ?_
          refine aln 116 fun hl3=>?_
          refine rng (body:=Ra (Nb n) a0 a1 MN) (kk:=Rb) (n:=a0.subs.length) (s0:=(wr .i64 (MB+1)))
           (fun(gs3:Unit) (k3:Nat) (s3:Int)=>[(1,.int .i64 a1),(4,.ptr o2 0 0 0),(7,.ptr (st.length+1) 0 0 0),(116,.sl false 4 72 (rows LZ.cells a0.subs)),(117,.int .i64 (↑a0.subs.length:Int)),(118,.int .i64 (↑k3:Int))])
           (fun(gs3:Unit) (k3:Nat) (s3:Int)=>(Nf st [(o0,(.arr 0 1 0 [[.int .i64 s3]])),(o1,(.arr 0 1 0 [[.bool MN]])),(o2,(.arr 0 1 0 [[.fn 52 [] [.ptr o0 0 0 0,.ptr o1 0 0 0,.ptr o2 0 0 0]]]))])++[none,some (.arr 0 2 0 [[.int .i64 0,.int .i64 0]])])
           (fun(gt3:Unit) (t3:Int)=>[(7,.ptr (st.length+1) 0 0 0)])
           (fun(gt3:Unit) (t3:Int)=>(Nf st [(o0,(.arr 0 1 0 [[.int .i64 t3]])),(o1,(.arr 0 1 0 [[.bool MN]])),(o2,(.arr 0 1 0 [[.fn 52 [] [.ptr o0 0 0 0,.ptr o1 0 0 0,.ptr o2 0 0 0]]]))])++[none,some (.arr 0 2 0 [[.int .i64 0,.int .i64 0]])])
           () fx hl3 h (bu hsc)
           (fun gs3 k3 s3 b3 fx h hx3=>?_) (fun gs3 s3=>?_) (fun gt3 t3 fr1 st1 h hb=>?_)
          ·unfold Ra at h
           refine ct ?_
           refine rn ?_
           obtain⟨v12,hv12,h⟩:=QJ h
           refine(ih _ _ _ _ _ hv12 _ _ _ _ hnd (by simp only[go_sem,fx]) (by simp only[go_sem,fx]) (by simp only[go_sem,fx])).mono ?_
           rintro d1 st1 ⟨rfl,rfl⟩
           refine cd h (fun hc h=>?_) fun hc h=>?_
           ·refine ra ?_
            cases h
            refine OG ?_;have h:=congrArg some (hx3 _ rfl)
            refine rr ?_
            exact fuo (.agg [.int .i64 v12.1.code,.int .i64 v12.1.index]) (.same _) h hsc
           ·refine rn ?_
            cases h
            exact Um () (bu hsc)
          ·refine cf ?_
           refine Ud ?_;simp only[go_sem,fx]
           exact⟨(),(bu hsc)⟩
          ·try simp only[go_sem,fx]
           unfold Rb at h
           refine Ql hb ?_
           refine rr ?_
           exact fuo (.agg [.int .i64 0,.int .i64 0]) (.same _) h hsc
     ·refine cd h (fun hc h=>?_) fun hc h=>?_
      ·refine r0 ?_
       refine hj1 () _ _ _ h ?_;exact(bu hsc)
      ·refine cd h (fun hc h=>?_) fun hc h=>?_
       ·refine r0 ?_
        refine hj1 () _ _ _ h ?_;exact(bu hsc)
       ·refine r0 ?_
        refine hj1 () _ _ _ h ?_;exact(bu hsc)
   ·refine cd h (fun hc h=>?_) fun hc h=>?_
    ·refine r0 ?_
     refine hj0 () _ _ _ h ?_;exact(bu hsc)
    ·refine r0 ?_
     refine hj0 () _ _ _ h ?_;exact(bu hsc)
theorem Zz(n:Nat)(a0:LZ)(a1:Bool)(r:Mi)(h:TG n a0 a1=some r):Pure Tryd.prog gl 41 [.agg [.int .i64 a0.kind,.str a0.name,.sl false 1 16 (rows Me a0.words),.sl false 4 72 (rows LZ.cells a0.subs)],.bool a1] (.agg [.int .i64 r.code,.int .i64 r.index]):=by
 intro st
 unfold TG at h
 have fx:=trivial
 refine fb 11 [.cell 4 30] [0,1,2,3,4,5,6] Tryd.func41 fun hsc=>?_
 refine rn ?_
 obtain⟨v1,hv1,h⟩:=QJ h
 refine(Yd n _ _ _ _ _ hv1 _ _ _ _ (by simp) (Xv.trans rfl) (Xv.trans rfl) (Xv.trans rfl)).mono ?_
 rintro d1 st1 ⟨rfl,rfl⟩
 exact rt
theorem OZ(n:Nat)(a0:LZ)(r:Mi)(h:Nw n a0=some r):Pure Tryd.prog gl 18 [.agg [.int .i64 a0.kind,.str a0.name,.sl false 1 16 (rows Me a0.words),.sl false 4 72 (rows LZ.cells a0.subs)]] (.agg [.int .i64 r.code,.int .i64 r.index]):=by
 intro st
 unfold Nw at h
 have fx:=trivial
 refine fb 5 [.cell 2 30] [0,1,2] Tryd.func18 fun hsc=>?_
 refine cl h (Zz n _ _) fun v1 h=>?_
 exact rt
theorem Qv(a0:Mb)(r:(List Bs))(h:Ni a0=some r):Pure Tryd.prog gl 19 [.agg [.int .i64 a0.form.kind,.str a0.form.name,.sl false 1 16 (rows Me a0.form.words),.sl false 4 72 (rows LZ.cells a0.form.subs),.sl false 1 16 (rows Me a0.words),.sl false 1 16 (rows Me a0.Mj),.sl false 1 16 (rows Me a0.parts)]] (.sl false 1 16 (rows Me r)):=by
 intro st
 unfold Ni at h
 have fx:=trivial
 refine fb 11 [.tmp 2] [0,1,2] Tryd.func19 fun hsc=>?_
 refine cl h (XD _) fun v2 h=>?_
 exact rt
theorem Mv(a0:Int)(a1:Int)(r:Mi)(h:Mn a0 a1=some r):Pure Tryd.prog gl 20 [.int .i64 a0,.int .i64 a1] (.agg [.int .i64 r.code,.int .i64 r.index]):=by
 intro st
 unfold Mn at h
 have fx:=trivial
 refine fb 8 [.cell 4 30] [0,1,4] Tryd.func20 fun hsc=>?_
 exact rt
theorem Tv(a0:(List Bs))(a1:Bs)(r:Int)(h:Oj a0 a1=some r):Pure Tryd.prog gl 45 [.sl false 1 16 (rows Me a0),.str a1] (.int .i64 r):=by
 intro st
 unfold Oj at h
 have fx:=trivial
 refine fb 19 [.tmp 4] [0,1,4,5,7,8,9,16] Tryd.func45 fun hsc=>?_
 refine aln 0 fun hl0=>?_
 refine rng (body:=NG a1 a0) (kk:=NH) (n:=a0.length) (s0:=())
  (fun(gs0:Unit) (k0:Nat) (s0:Unit)=>[(0,.sl false 1 16 (rows Me a0)),(1,.str a1),(7,.int .i64 (↑a0.length:Int)),(8,.int .i64 (↑k0:Int))])
  (fun(gs0:Unit) (k0:Nat) (s0:Unit)=>st)
  (fun(gt0:Unit) (t0:Unit)=>[])
  (fun(gt0:Unit) (t0:Unit)=>st)
  () fx hl0 h (Zf hsc)
  (fun gs0 k0 s0 b0 fx h hx0=>?_) (fun gs0 s0=>?_) (fun gt0 t0 fr1 st1 h hb=>?_)
 ·unfold NG at h
  refine ct ?_
  refine cd h (fun hc h=>?_) fun hc h=>?_
  ·refine ra ?_
   cases h
   refine OG ?_;have h:=congrArg some (hx0 _ rfl)
   exact rt
  ·refine rn ?_
   cases h
   exact Um () (Zf hsc)
 ·refine cf ?_
  refine Ud ?_;simp only[go_sem,fx]
  exact⟨(),(Zf hsc)⟩
 ·try simp only[go_sem,fx]
  unfold NH at h
  refine Ql hb ?_
  exact rt
theorem Mh(a0:(List Bs))(a1:Bs)(r:Bool)(h:Mf a0 a1=some r):Pure Tryd.prog gl 23 [.sl false 1 16 (rows Me a0),.str a1] (.bool r):=by
 intro st
 unfold Mf at h
 have fx:=trivial
 refine fb 9 [.tmp 4] [0,1,4] Tryd.func23 fun hsc=>?_
 refine cl h (Tv _ _) fun v1 h=>?_
 exact rt
theorem VP:∀(n:Nat) (a0:LZ) (a1:(List Bs)) (l1:(List Bs)) (r:(List Bs)) (h:MO n a0 a1 l1=some r),∀(st:St) (o0 o1 o2 q1:Nat) (hnd: [o0,o1,o2].Nodup) (QM:Am.look st o0=some (.arr 0 1 0 [[.ref false o1 q1 0 l1.length]])) (Xm:Am.look st o1=some (.arr q1 1 16 (rows Me l1))) (d3A:Am.look st o2=some (.arr 0 1 0 [[.fn 42 [] [.ptr o0 0 0 0,.ptr o2 0 0 0]]])),Am.Spec Tryd.prog gl 42 [.agg [.int .i64 a0.kind,.str a0.name,.sl false 1 16 (rows Me a0.words),.sl false 4 72 (rows LZ.cells a0.subs)],.sl false 1 16 (rows Me a1),.ptr o0 0 0 0,.ptr o2 0 0 0] st (fun d st'=>∃zo1:Nat,d= .tup []∧st'=puts st [(o0,(.arr 0 1 0 [[.ref false o1 zo1 0 r.length]])),(o1,(.arr zo1 1 16 (rows Me r))),(o2,(.arr 0 1 0 [[.fn 42 [] [.ptr o0 0 0 0,.ptr o2 0 0 0]]]))]):=by
 intro n
 induction n with
 |zero=>intro a0 a1 l1 r h;cases h
 |succ n ih=>
  intro a0 a1 l1 r h st o0 o1 o2 q1 hnd QM Xm d3A
  unfold MO at h
  have ho0:=MZ QM
  have ho1:=MZ Xm
  have ho2:=MZ d3A
  have fx:=fa (fa (fa (idf ho0) (idf ho1)) (idf ho2)) (nd3 hnd)
  refine fb 50 [] [0,1,2,3,4,7,9,11,12,13,14,20,27,39,40,41,42] Tryd.func42 fun hsc=>?_
  refine Tf (s':=(Nf st [(o0,(.arr 0 1 0 [[.ref false o1 q1 0 l1.length]])),(o1,(.arr q1 1 16 (rows Me l1))),(o2,(.arr 0 1 0 [[.fn 42 [] [.ptr o0 0 0 0,.ptr o2 0 0 0]]]))])) (MS (by simp[QM,Xm,d3A])) ?_
  refine aln 11 fun hl0=>?_
  refine rng (body:=Pg a1 a0) (kk:=Pk (MO n) a0 a1) (n:=a0.words.length) (s0:=l1)
   (fun(gs0:Nat) (k0:Nat) (s0:(List Bs))=>[(1,.sl false 1 16 (rows Me a1)),(2,.ptr o0 0 0 0),(3,.ptr o2 0 0 0),(4,.ptr st.length 0 0 0),(11,.sl false 1 16 (rows Me a0.words)),(12,.int .i64 (↑a0.words.length:Int)),(13,.int .i64 (↑k0:Int))])
   (fun(gs0:Nat) (k0:Nat) (s0:(List Bs))=>(Nf st [(o0,(.arr 0 1 0 [[.ref false o1 gs0 0 s0.length]])),(o1,(.arr gs0 1 16 (rows Me s0))),(o2,(.arr 0 1 0 [[.fn 42 [] [.ptr o0 0 0 0,.ptr o2 0 0 0]]]))])++[some (.arr 0 4 0 [[.int .i64 a0.kind,.str a0.name,.sl false 1 16 (rows Me a0.words),.sl false 4 72 (rows LZ.cells a0.subs)]])])
   (fun(gt0:Nat) (t0:(List Bs))=>[(1,.sl false 1 16 (rows Me a1)),(3,.ptr o2 0 0 0),(4,.ptr st.length 0 0 0)])
   (fun(gt0:Nat) (t0:(List Bs))=>(Nf st [(o0,(.arr 0 1 0 [[.ref false o1 gt0 0 t0.length]])),(o1,(.arr gt0 1 16 (rows Me t0))),(o2,(.arr 0 1 0 [[.fn 42 [] [.ptr o0 0 0 0,.ptr o2 0 0 0]]]))])++[some (.arr 0 4 0 [[.int .i64 a0.kind,.str a0.name,.sl false 1 16 (rows Me a0.words),.sl false 4 72 (rows LZ.cells a0.subs)]])])
   q1 fx hl0 h (bu hsc)
   (fun gs0 k0 s0 b0 fx h hx0=>?_) (fun gs0 s0=>?_) (fun gt0 t0 fr1 st1 h hb=>?_)
  ·unfold Pg at h
   refine ct ?_
   refine cl h (Mh _ _) fun v8 h=>?_
   refine cd h (fun hc h=>?_) fun hc h=>?_
   ·obtain⟨c10,i3q,h⟩:=Yp h
    have fy:=(show rows Me s0++[[.str (get a0.words k0)]]=rows Me c10 from by rw[i3q];first|exact ND (E:=Me) s0 [(get a0.words k0)]|simp only[go_sem,rows,List.map_append,List.map_cons,List.map_nil])
    have fy:=fa fy (show s0.length+1=c10.length from by rw[i3q];simp)
    obtain⟨fx,h⟩:=ck fx h
    refine r1 ?_
    refine rn ?_
    cases h
    exact Um (gs0+1) (bu hsc)
   ·refine rn ?_
    cases h
    exact Um gs0 (bu hsc)
  ·refine cf ?_
   refine Ud ?_;simp only[go_sem,fx]
   exact⟨gs0,(bu hsc)⟩
  ·try simp only[go_sem,fx]
   unfold Pk at h
   refine Ql hb ?_
   refine cl h (Nh _) fun v15 h=>?_
   refine rn ?_
   refine Sw (Nz (MO n) a0 t0) r (fun(gj1:Unit) (j1:(List Bs))=>[(1,.sl false 1 16 (rows Me j1)),(3,.ptr o2 0 0 0),(4,.ptr st.length 0 0 0)]) (fun(gj1:Unit) (j1:(List Bs))=>(Nf st [(o0,(.arr 0 1 0 [[.ref false o1 gt0 0 t0.length]])),(o1,(.arr gt0 1 16 (rows Me t0))),(o2,(.arr 0 1 0 [[.fn 42 [] [.ptr o0 0 0 0,.ptr o2 0 0 0]]]))])++[some (.arr 0 4 0 [[.int .i64 a0.kind,.str a0.name,.sl false 1 16 (rows Me a0.words),.sl false 4 72 (rows LZ.cells a0.subs)]])]) (fun gj1 j1 fr1 st1 h hb=>?_) (fun hj1=>?_)
   ·try simp only[go_sem,fx]
    unfold Nz at h
    refine Ql hb ?_
    refine aln 39 fun hl2=>?_
    refine rng (body:=Ph (MO n) a0 j1) (kk:=Pj) (n:=a0.subs.length) (s0:=t0)
     (fun(gs2:Nat) (k2:Nat) (s2:(List Bs))=>[(1,.sl false 1 16 (rows Me j1)),(3,.ptr o2 0 0 0),(39,.sl false 4 72 (rows LZ.cells a0.subs)),(40,.int .i64 (↑a0.subs.length:Int)),(41,.int .i64 (↑k2:Int))])
     (fun(gs2:Nat) (k2:Nat) (s2:(List Bs))=>(Nf st [(o0,(.arr 0 1 0 [[.ref false o1 gs2 0 s2.length]])),(o1,(.arr gs2 1 16 (rows Me s2))),(o2,(.arr 0 1 0 [[.fn 42 [] [.ptr o0 0 0 0,.ptr o2 0 0 0]]]))]))
     (fun(gt2:Nat) (t2:(List Bs))=>[])
     (fun(gt2:Nat) (t2:(List Bs))=>(Nf st [(o0,(.arr 0 1 0 [[.ref false o1 gt2 0 t2.length]])),(o1,(.arr gt2 1 16 (rows Me t2))),(o2,(.arr 0 1 0 [[.fn 42 [] [.ptr o0 0 0 0,.ptr o2 0 0 0]]]))]))
     gt0 fx hl2 h (bu0 hsc)
     (fun gs2 k2 s2 b2 fx h hx2=>?_) (fun gs2 s2=>?_) (fun gt2 t2 fr1 st1 h hb=>?_)
    ·unfold Ph at h
     refine ct ?_
     refine rn ?_
     obtain⟨v26,hv26,h⟩:=QJ h
     refine(ih _ _ _ _ hv26 _ _ _ _ gs2 hnd (by simp only[go_sem,fx]) (by simp only[go_sem,fx]) (by simp only[go_sem,fx])).mono ?_
     rintro d1 st1 ⟨g27,rfl,rfl⟩
     refine rn ?_
     cases h
     exact Um g27 (bu0 hsc)
    ·refine cf ?_
     refine Ud ?_;simp only[go_sem,fx]
     exact⟨gs2,(d7O hsc)⟩
    ·try simp only[go_sem,fx]
     unfold Pj at h
     refine d4c hb ?_
     refine rr ?_
     exact fus (.tup []) (.same _) h hsc (hr:=by rintro rfl;exact⟨gt2,rfl,rfl⟩)
   ·refine cd h (fun hc h=>?_) fun hc h=>?_
    ·refine rs ?_
     obtain⟨fx,h⟩:=ck fx h
     obtain⟨c19,i5T,h⟩:=Yp h
     have fy:=(show rows Me a1++[[.str a0.name]]=rows Me c19 from by rw[i5T];first|exact ND (E:=Me) a1 [a0.name]|simp only[go_sem,rows,List.map_append,List.map_cons,List.map_nil])
     have fy:=fa fy (show a1.length+1=c19.length from by rw[i5T];simp)
     obtain⟨fx,h⟩:=ck fx h
     refine dwy [] 2 ?_
     refine hj1 () _ _ _ h ?_;exact(bu hsc (hf:=⟨.ref _ _ _ _ _ _ _ _ _ (Oh.trans rfl) (SN (by first|decide|simp)) (by decide) (ZJ _) (by simp only[go_sem]),.s,.s,trivial⟩))
    ·refine r0 ?_
     refine hj1 () _ _ _ h ?_;exact(bu hsc)
end Go.Proofs.YtdjnbjnlnjhllaaDoor
