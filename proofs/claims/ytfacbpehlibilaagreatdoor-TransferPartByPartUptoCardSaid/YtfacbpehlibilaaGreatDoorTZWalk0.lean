import Derived.Test.YtfacbpehlibilaaGreatDoorTZMirrors
set_option linter.unusedVariables false
set_option linter.unusedSimpArgs false
set_option maxHeartbeats 2000000
set_option maxRecDepth 100000
namespace Go.Proofs.YtfacbpehlibilaaGreatDoor
open Go Go.Am
theorem tF(a0:u7)(a1:u7)(r:Int)(h:qc a0 a1=some r):Pure Tryz.prog gl 67 [.agg [.int .i64 a0.at_,.int .i64 a0.rule],.agg [.int .i64 a1.at_,.int .i64 a1.rule]] (.int .i64 r):=by
 intro st
 unfold qc at h
 have fx:=trivial
 refine fb 10 [.tmp 4] [0,1,2,3,4] Tryz.func67 fun hsc=>?_
 exact rt
theorem G0(a0:Bs)(a1:(List Bs))(r:u5)(h:E9 a0 a1=some r):Pure Tryz.prog gl 23 [.str a0,.sl false 1 16 (rows w7 a1)] (.agg [.int .i64 r.kind,.str r.name,.sl false 1 16 (rows w7 r.words),.sl false 4 72 (rows u5.cells r.subs)]):=by
 intro st
 unfold E9 at h
 have fx:=trivial
 refine fb 8 [.cell 4 31] [0,1,4] Tryz.func23 fun hsc=>?_
 refine rr ?_
 exact fo (.agg [.int .i64 2,.str a0,.sl false 1 16 (rows w7 a1),.sl false 4 72 (rows u5.cells [])]) (.agg _ _ (.cons _ _ _ _ .s (.cons _ _ _ _ .s (.cons _ _ _ _ .s (.cons _ _ _ _ (.A9 _ _ _ (by decide)) .nil))))) h hsc
theorem V5(a0:Int)(a1:u5)(a2:u5)(r:u5)(h:L2 a0 a1 a2=some r):Pure Tryz.prog gl 20 [.int .i64 a0,.agg [.int .i64 a1.kind,.str a1.name,.sl false 1 16 (rows w7 a1.words),.sl false 4 72 (rows u5.cells a1.subs)],.agg [.int .i64 a2.kind,.str a2.name,.sl false 1 16 (rows w7 a2.words),.sl false 4 72 (rows u5.cells a2.subs)]] (.agg [.int .i64 r.kind,.str r.name,.sl false 1 16 (rows w7 r.words),.sl false 4 72 (rows u5.cells r.subs)]):=by
 intro st
 unfold L2 at h
 have fx:=trivial
 refine fb 12 [.cell 6 31] [0,1,2,4,5,6] Tryz.func20 fun hsc=>?_
 refine rr ?_
 exact fo (.agg [.int .i64 a0,.str [],.sl false 1 16 (rows w7 []),.sl false 4 72 (rows u5.cells [a1,a2])]) (.agg _ _ (.cons _ _ _ _ .s (.cons _ _ _ _ .s (.cons _ _ _ _ (.A9 _ _ _ (by decide)) (.cons _ _ _ _ (.ref _ _ _ _ _ _ _ _ _ (oD.trans rfl) DP (by decide) (by simp[Imm,D.imm]) (by simp only[go_sem,rows,List.map_cons,List.map_nil])) .nil))))) h hsc
theorem G6(a0:Int)(a1:Int)(r:B1)(h:C9 a0 a1=some r):Pure Tryz.prog gl 26 [.int .i64 a0,.int .i64 a1] (.agg [.int .i64 r.code,.int .i64 r.index]):=by
 intro st
 unfold C9 at h
 have fx:=trivial
 refine fb 8 [.cell 4 25] [0,1,4] Tryz.func26 fun hsc=>?_
 exact rt
theorem U0(a0:Int)(B7:Int)(r:B1)(h:T7 a0 B7=some r):∀(st:St) (o0:Nat) (hnd: [o0].Nodup) (M9:Am.look st o0=some (.arr 0 1 0 [[.int .i64 B7]])),Am.Spec Tryz.prog gl 82 [.int .i64 a0,.ptr o0 0 0 0] st (fun d st'=>d= .agg [.int .i64 r.code,.int .i64 r.index]∧st'=puts st []):=by
 intro st o0 hnd M9
 unfold T7 at h
 have ho0:=B3 M9
 have fx:=idf ho0
 refine fb 7 [.cell 3 25] [0,1,3] Tryz.func82 fun hsc=>?_
 refine bD (s':=(B8 st [(o0,(.arr 0 1 0 [[.int .i64 B7]]))])) (C7 (by simp[M9])) ?_
 refine rr ?_
 exact fuo (.agg [.int .i64 a0,.int .i64 B7]) (.same _) h hsc (hr:=by rintro rfl;exact⟨rfl,C7 (by simp[M9])⟩)
theorem uj(a0:Int)(r:Int)(h:iF a0=some r):Pure Tryz.prog gl 83 [.int .i64 a0] (.int .i64 r):=by
 intro st
 unfold iF at h
 have fx:=trivial
 refine fb 16 [.tmp 2] [0,2,3,4,8,12] Tryz.func83 fun hsc=>?_
 refine rn ?_
 refine eC (bH a0) r (fun(gj0:Unit) (j0:Bool)=>[(3,.int .i64 a0),(4,.bool j0)]) (fun(gj0:Unit) (j0:Bool)=>st) (fun gj0 j0 fr1 st1 h hb=>?_) (fun hj0=>?_)
 ·try simp only[go_sem,fx]
  unfold bH at h
  refine Q9 hb ?_
  refine cd h (fun hc h=>?_) fun hc h=>?_
  ·exact rt
  ·refine rn ?_
   refine eC (bI a0) r (fun(gj1:Unit) (j1:Bool)=>[(3,.int .i64 a0),(8,.bool j1)]) (fun(gj1:Unit) (j1:Bool)=>st) (fun gj1 j1 fr1 st1 h hb=>?_) (fun hj1=>?_)
   ·try simp only[go_sem,fx]
    unfold bI at h
    refine Q9 hb ?_
    refine cd h (fun hc h=>?_) fun hc h=>?_
    ·exact rt
    ·refine rn ?_
     refine eC (bJ) r (fun(gj2:Unit) (j2:Bool)=>[(12,.bool j2)]) (fun(gj2:Unit) (j2:Bool)=>st) (fun gj2 j2 fr1 st1 h hb=>?_) (fun hj2=>?_)
     ·try simp only[go_sem,fx]
      unfold bJ at h
      refine Q9 hb ?_
      refine cd h (fun hc h=>?_) fun hc h=>?_
      ·exact rt
      ·exact rt
     ·refine cd h (fun hc h=>?_) fun hc h=>?_
      ·refine r0 ?_
       refine hj2 () _ _ _ h ?_;exact(nM hsc)
      ·refine cd h (fun hc h=>?_) fun hc h=>?_
       ·refine r0 ?_
        refine hj2 () _ _ _ h ?_;exact(nM hsc)
       ·refine r0 ?_
        refine hj2 () _ _ _ h ?_;exact(nM hsc)
   ·refine cd h (fun hc h=>?_) fun hc h=>?_
    ·refine r0 ?_
     refine hj1 () _ _ _ h ?_;exact(nM hsc)
    ·refine cd h (fun hc h=>?_) fun hc h=>?_
     ·refine r0 ?_
      refine hj1 () _ _ _ h ?_;exact(nM hsc)
     ·refine r0 ?_
      refine hj1 () _ _ _ h ?_;exact(nM hsc)
 ·refine cd h (fun hc h=>?_) fun hc h=>?_
  ·refine r0 ?_
   refine hj0 () _ _ _ h ?_;exact(nM hsc)
  ·refine cd h (fun hc h=>?_) fun hc h=>?_
   ·refine r0 ?_
    refine hj0 () _ _ _ h ?_;exact(nM hsc)
   ·refine r0 ?_
    refine hj0 () _ _ _ h ?_;exact(nM hsc)
theorem E0(a0:u5)(r:Bool)(h:C5 a0=some r):Pure Tryz.prog gl 55 [.agg [.int .i64 a0.kind,.str a0.name,.sl false 1 16 (rows w7 a0.words),.sl false 4 72 (rows u5.cells a0.subs)]] (.bool r):=by
 intro st
 unfold C5 at h
 have fx:=trivial
 refine fb 11 [.tmp 2] [0,1,2,7,8,9] Tryz.func55 fun hsc=>?_
 exact rt
theorem iI(a0:Bs)(r:Bool)(h:termName a0=some r):Pure Tryz.prog gl 48 [.str a0] (.bool r):=by
 intro st
 unfold termName at h
 have fx:=trivial
 refine fb 55 [.tmp 2] [0,2,3,4,9,10,11,14,15,16,19,20,21,22,24,25,26,34,35,38,39,40,41,42,43,46,47,50,51,53] Tryz.func48 fun hsc=>?_
 obtain⟨fx,h⟩:=ck fx h
 obtain⟨fx,h⟩:=ck fx h
 refine cd h (fun hc h=>?_) fun hc h=>?_
 ·exact rt
 ·obtain⟨fx,h⟩:=ck fx h
  refine rn ?_
  refine rng (body:=jY a0) (kk:=jZ) (n:=a0.length) (s0:=())
   (fun(gs0:Unit) (k0:Nat) (s0:Unit)=>[(0,.str a0),(24,.int .i64 (↑a0.length:Int)),(25,.int .i64 (↑k0:Int))])
   (fun(gs0:Unit) (k0:Nat) (s0:Unit)=>st)
   (fun(gt0:Unit) (t0:Unit)=>[])
   (fun(gt0:Unit) (t0:Unit)=>st)
   () fx fx.2 h (nM hsc)
   (fun gs0 k0 s0 b0 fx h hx0=>?_) (fun gs0 s0=>?_) (fun gt0 t0 fr1 st1 h hb=>?_)
  ·unfold jY at h
   refine ct ?_
   refine cd h (fun hc h=>?_) fun hc h=>?_
   ·refine ra ?_
    cases h
    refine L0 ?_;have h:=congrArg some (hx0 _ rfl)
    exact rt
   ·refine rn ?_
    cases h
    exact eE () (nM hsc)
  ·refine cf ?_
   refine fA ?_;simp only[go_sem,fx]
   exact⟨(),(nM hsc)⟩
  ·try simp only[go_sem,fx]
   unfold jZ at h
   refine Q9 hb ?_
   exact rt
theorem qm:∀(n:Nat) (a0:u5) (a1:Int) (B7:Int) (V4:Bool) (r:B1×Int) (h:J5 n a0 a1 B7 V4=some r),∀(st:St) (o0 o1 o2:Nat) (hnd: [o0,o1,o2].Nodup) (M9:Am.look st o0=some (.arr 0 1 0 [[.int .i64 B7]])) (Z6:Am.look st o1=some (.arr 0 1 0 [[.bool V4]])) (bY:Am.look st o2=some (.arr 0 1 0 [[.fn 81 [] [.ptr o0 0 0 0,.ptr o1 0 0 0,.ptr o2 0 0 0]]])),Am.Spec Tryz.prog gl 81 [.agg [.int .i64 a0.kind,.str a0.name,.sl false 1 16 (rows w7 a0.words),.sl false 4 72 (rows u5.cells a0.subs)],.int .i64 a1,.ptr o0 0 0 0,.ptr o1 0 0 0,.ptr o2 0 0 0] st (fun d st'=>d= .agg [.int .i64 r.1.code,.int .i64 r.1.index]∧st'=puts st [(o0,(.arr 0 1 0 [[.int .i64 r.2]])),(o1,(.arr 0 1 0 [[.bool V4]])),(o2,(.arr 0 1 0 [[.fn 81 [] [.ptr o0 0 0 0,.ptr o1 0 0 0,.ptr o2 0 0 0]]]))]):=by
 intro n
 induction n with
 |zero=>intro a0 a1 B7 V4 r h;cases h
 |succ n ih=>
  intro a0 a1 B7 V4 r h st o0 o1 o2 hnd M9 Z6 bY
  unfold J5 at h
  have ho0:=B3 M9
  have ho1:=B3 Z6
  have ho2:=B3 bY
  have fx:=fa (fa (fa (idf ho0) (idf ho1)) (idf ho2)) (nd3 hnd)
  refine fb 133 [.cell 7 25] [0,1,2,3,4,5,7,8,9,10,11,12,14,16,17,25,26,27,37,38,40,49,56,67,68,69,76,77,80,81,82,86,87,88,89,90,96,97,98,99,103,104,105,106,111,116,117,118,119,129] Tryz.func81 fun hsc=>?_
  refine bD (s':=(B8 st [(o0,(.arr 0 1 0 [[.int .i64 B7]])),(o1,(.arr 0 1 0 [[.bool V4]])),(o2,(.arr 0 1 0 [[.fn 81 [] [.ptr o0 0 0 0,.ptr o1 0 0 0,.ptr o2 0 0 0]]]))])) (C7 (by simp[M9,Z6,bY])) ?_
  refine cd h (fun hc h=>?_) fun hc h=>?_
  ·refine rn ?_
   obtain⟨v1,hv1,h⟩:=P8 h
   refine(U0 _ _ _ hv1 _ _ (by simp) (D2.trans rfl)).mono ?_
   rintro d1 st1 ⟨rfl,rfl⟩
   refine rr ?_
   exact fuo (.agg [.int .i64 v1.code,.int .i64 v1.index]) (.same _) h hsc
  ·refine cl h (uj _) fun v2 h=>?_
   refine rn ?_
   refine eC (W0 (J5 n) B7 a0 a1 V4) r (fun(gj0:Unit) (j0:Int)=>[(1,.int .i64 a1),(4,.ptr o2 0 0 0),(5,.ptr st.length 0 0 0),(7,.ptr (st.length+1) 0 0 0),(9,.fn 82 [] [.ptr (st.length+2) 0 0 0]),(10,.int .i64 j0)]) (fun(gj0:Unit) (j0:Int)=>(B8 st [(o0,(.arr 0 1 0 [[.int .i64 (wr .i64 (B7+1))]])),(o1,(.arr 0 1 0 [[.bool V4]])),(o2,(.arr 0 1 0 [[.fn 81 [] [.ptr o0 0 0 0,.ptr o1 0 0 0,.ptr o2 0 0 0]]]))])++[some (.arr 0 4 0 [[.int .i64 a0.kind,.str a0.name,.sl false 1 16 (rows w7 a0.words),.sl false 4 72 (rows u5.cells a0.subs)]]),some (.arr 0 2 0 [[.int .i64 0,.int .i64 0]]),some (.arr 0 1 0 [[.int .i64 B7]])]) (fun gj0 j0 fr1 st1 h hb=>?_) (fun hj0=>?_)
   ·try simp only[go_sem,fx]
    unfold W0 at h
    refine Q9 hb ?_
    refine cd h (fun hc h=>?_) fun hc h=>?_
    ·refine rn ?_
     obtain⟨v3,hv3,h⟩:=P8 h
     refine(U0 _ _ _ hv3 _ _ (by simp) (D2.trans rfl)).mono ?_
     rintro d1 st1 ⟨rfl,rfl⟩
     refine rr ?_
     exact fuo (.agg [.int .i64 v3.code,.int .i64 v3.index]) (.same _) h hsc
    ·refine rn ?_
     refine eC (R7 (J5 n) a0 j0 B7 a1 V4) r (fun(gj1:Unit) (j1:Bool)=>[(1,.int .i64 a1),(4,.ptr o2 0 0 0),(5,.ptr st.length 0 0 0),(7,.ptr (st.length+1) 0 0 0),(9,.fn 82 [] [.ptr (st.length+2) 0 0 0]),(10,.int .i64 j0),(11,.bool j1)]) (fun(gj1:Unit) (j1:Bool)=>(B8 st [(o0,(.arr 0 1 0 [[.int .i64 (wr .i64 (B7+1))]])),(o1,(.arr 0 1 0 [[.bool V4]])),(o2,(.arr 0 1 0 [[.fn 81 [] [.ptr o0 0 0 0,.ptr o1 0 0 0,.ptr o2 0 0 0]]]))])++[some (.arr 0 4 0 [[.int .i64 a0.kind,.str a0.name,.sl false 1 16 (rows w7 a0.words),.sl false 4 72 (rows u5.cells a0.subs)]]),some (.arr 0 2 0 [[.int .i64 0,.int .i64 0]]),some (.arr 0 1 0 [[.int .i64 B7]])]) (fun gj1 j1 fr1 st1 h hb=>?_) (fun hj1=>?_)
     ·try simp only[go_sem,fx]
      unfold R7 at h
      refine Q9 hb ?_
      refine cd h (fun hc h=>?_) fun hc h=>?_
      ·refine rn ?_
       obtain⟨v4,hv4,h⟩:=P8 h
       refine(U0 _ _ _ hv4 _ _ (by simp) (D2.trans rfl)).mono ?_
       rintro d1 st1 ⟨rfl,rfl⟩
       refine rr ?_
       exact fuo (.agg [.int .i64 v4.code,.int .i64 v4.index]) (.same _) h hsc
      ·refine rn ?_
       obtain⟨v5,hv5,h⟩:=P8 h
       refine aV (fun hG=>(E0 _ _ (qj hv5 (by simpa using hG)))) ?_
       refine rn ?_
       obtain⟨v6,hv6,h⟩:=P8 h
       refine aV (fun hG=>(iI _ _ (qj hv6 (by simpa using hG)))) ?_
       refine cd h (fun hc h=>?_) fun hc h=>?_
       ·refine rn ?_
        obtain⟨v7,hv7,h⟩:=P8 h
        refine(U0 _ _ _ hv7 _ _ (by simp) (D2.trans rfl)).mono ?_
        rintro d1 st1 ⟨rfl,rfl⟩
        refine rr ?_
        exact fuo (.agg [.int .i64 v7.code,.int .i64 v7.index]) (.same _) h hsc
       ·refine cd h (fun hc h=>?_) fun hc h=>?_
        ·refine rn ?_
         obtain⟨v8,hv8,h⟩:=P8 h
         refine(U0 _ _ _ hv8 _ _ (by simp) (D2.trans rfl)).mono ?_
         rintro d1 st1 ⟨rfl,rfl⟩
         refine rr ?_
         exact fuo (.agg [.int .i64 v8.code,.int .i64 v8.index]) (.same _) h hsc
        ·refine aln 103 fun hl2=>?_
         refine rng (body:=dh a0 B7) (kk:=dj (J5 n) a0 a1 V4 B7) (n:=a0.words.length) (s0:=())
          (fun(gs2:Unit) (k2:Nat) (s2:Unit)=>[(1,.int .i64 a1),(4,.ptr o2 0 0 0),(5,.ptr st.length 0 0 0),(7,.ptr (st.length+1) 0 0 0),(9,.fn 82 [] [.ptr (st.length+2) 0 0 0]),(103,.sl false 1 16 (rows w7 a0.words)),(104,.int .i64 (↑a0.words.length:Int)),(105,.int .i64 (↑k2:Int))])
          (fun(gs2:Unit) (k2:Nat) (s2:Unit)=>(B8 st [(o0,(.arr 0 1 0 [[.int .i64 (wr .i64 (B7+1))]])),(o1,(.arr 0 1 0 [[.bool V4]])),(o2,(.arr 0 1 0 [[.fn 81 [] [.ptr o0 0 0 0,.ptr o1 0 0 0,.ptr o2 0 0 0]]]))])++[some (.arr 0 4 0 [[.int .i64 a0.kind,.str a0.name,.sl false 1 16 (rows w7 a0.words),.sl false 4 72 (rows u5.cells a0.subs)]]),some (.arr 0 2 0 [[.int .i64 0,.int .i64 0]]),some (.arr 0 1 0 [[.int .i64 B7]])])
          (fun(gt2:Unit) (t2:Unit)=>[(1,.int .i64 a1),(4,.ptr o2 0 0 0),(5,.ptr st.length 0 0 0),(7,.ptr (st.length+1) 0 0 0)])
          (fun(gt2:Unit) (t2:Unit)=>(B8 st [(o0,(.arr 0 1 0 [[.int .i64 (wr .i64 (B7+1))]])),(o1,(.arr 0 1 0 [[.bool V4]])),(o2,(.arr 0 1 0 [[.fn 81 [] [.ptr o0 0 0 0,.ptr o1 0 0 0,.ptr o2 0 0 0]]]))])++[some (.arr 0 4 0 [[.int .i64 a0.kind,.str a0.name,.sl false 1 16 (rows w7 a0.words),.sl false 4 72 (rows u5.cells a0.subs)]]),some (.arr 0 2 0 [[.int .i64 0,.int .i64 0]])])
          () fx hl2 h (bu hsc)
          (fun gs2 k2 s2 b2 fx h hx2=>?_) (fun gs2 s2=>?_) (fun gt2 t2 fr1 st1 h hb=>?_)
         ·unfold dh at h
          refine ct ?_
          refine cl h (iI _) fun v9 h=>?_
          refine cd h (fun hc h=>?_) fun hc h=>?_
          ·refine rn ?_
           obtain⟨v10,hv10,h⟩:=P8 h
           refine(U0 _ _ _ hv10 _ _ (by simp) (D2.trans rfl)).mono ?_
           rintro d1 st1 ⟨rfl,rfl⟩
           refine ra ?_
           cases h
           refine L0 ?_;have h:=congrArg some (hx2 _ rfl)
           refine rr ?_
           exact fuo (.agg [.int .i64 v10.code,.int .i64 v10.index]) (.same _) h hsc
          ·refine rn ?_
           cases h
           exact eE () (bu hsc)
         ·refine cf ?_
          refine fA ?_;simp only[go_sem,fx]
          exact⟨(),(bu hsc)⟩
         ·try simp only[go_sem,fx]
          unfold dj at h
          refine Q9 hb ?_
          refine aln 116 fun hl3=>?_
          refine rng (body:=dn (J5 n) a0 a1 V4) (kk:=dr) (n:=a0.subs.length) (s0:=(wr .i64 (B7+1)))
           (fun(gs3:Unit) (k3:Nat) (s3:Int)=>[(1,.int .i64 a1),(4,.ptr o2 0 0 0),(7,.ptr (st.length+1) 0 0 0),(116,.sl false 4 72 (rows u5.cells a0.subs)),(117,.int .i64 (↑a0.subs.length:Int)),(118,.int .i64 (↑k3:Int))])
           (fun(gs3:Unit) (k3:Nat) (s3:Int)=>(B8 st [(o0,(.arr 0 1 0 [[.int .i64 s3]])),(o1,(.arr 0 1 0 [[.bool V4]])),(o2,(.arr 0 1 0 [[.fn 81 [] [.ptr o0 0 0 0,.ptr o1 0 0 0,.ptr o2 0 0 0]]]))])++[none,some (.arr 0 2 0 [[.int .i64 0,.int .i64 0]])])
           (fun(gt3:Unit) (t3:Int)=>[(7,.ptr (st.length+1) 0 0 0)])
           (fun(gt3:Unit) (t3:Int)=>(B8 st [(o0,(.arr 0 1 0 [[.int .i64 t3]])),(o1,(.arr 0 1 0 [[.bool V4]])),(o2,(.arr 0 1 0 [[.fn 81 [] [.ptr o0 0 0 0,.ptr o1 0 0 0,.ptr o2 0 0 0]]]))])++[none,some (.arr 0 2 0 [[.int .i64 0,.int .i64 0]])])
           () fx hl3 h (bu hsc)
           (fun gs3 k3 s3 b3 fx h hx3=>?_) (fun gs3 s3=>?_) (fun gt3 t3 fr1 st1 h hb=>?_)
          ·unfold dn at h
           refine ct ?_
           refine rn ?_
           obtain⟨v12,hv12,h⟩:=P8 h
           refine(ih _ _ _ _ _ hv12 _ _ _ _ hnd (by simp only[go_sem,fx]) (by simp only[go_sem,fx]) (by simp only[go_sem,fx])).mono ?_
           rintro d1 st1 ⟨rfl,rfl⟩
           refine cd h (fun hc h=>?_) fun hc h=>?_
           ·refine ra ?_
            cases h
            refine L0 ?_;have h:=congrArg some (hx3 _ rfl)
            refine rr ?_
            exact fuo (.agg [.int .i64 v12.1.code,.int .i64 v12.1.index]) (.same _) h hsc
           ·refine rn ?_
            cases h
            exact eE () (bu hsc)
          ·refine cf ?_
           refine fA ?_;simp only[go_sem,fx]
           exact⟨(),(bu hsc)⟩
          ·try simp only[go_sem,fx]
           unfold dr at h
           refine Q9 hb ?_
           refine rr ?_
           exact fuo (.agg [.int .i64 0,.int .i64 0]) (.same _) h hsc
     ·refine cd h (fun hc h=>?_) fun hc h=>?_
      ·refine r0 ?_
       refine hj1 () _ _ _ h ?_;exact(bu hsc)
      ·refine cd h (fun hc h=>?_) fun hc h=>?_
       ·refine r0 ?_
        refine hj1 () _ _ _ h ?_;exact(bu hsc)
       ·refine r0 ?_
        refine hj1 () _ _ _ h ?_;exact(bu hsc)
   ·refine cd h (fun hc h=>?_) fun hc h=>?_
    ·refine r0 ?_
     refine hj0 () _ _ _ h ?_;exact(bu hsc)
    ·refine r0 ?_
     refine hj0 () _ _ _ h ?_;exact(bu hsc)
theorem tG(n:Nat)(a0:u5)(a1:Bool)(r:B1)(h:iX n a0 a1=some r):Pure Tryz.prog gl 54 [.agg [.int .i64 a0.kind,.str a0.name,.sl false 1 16 (rows w7 a0.words),.sl false 4 72 (rows u5.cells a0.subs)],.bool a1] (.agg [.int .i64 r.code,.int .i64 r.index]):=by
 intro st
 unfold iX at h
 have fx:=trivial
 refine fb 11 [.cell 4 25] [0,1,2,3,4,5,6] Tryz.func54 fun hsc=>?_
 refine rn ?_
 obtain⟨v1,hv1,h⟩:=P8 h
 refine(qm n _ _ _ _ _ hv1 _ _ _ _ (by simp) (jm.trans rfl) (jm.trans rfl) (jm.trans rfl)).mono ?_
 rintro d1 st1 ⟨rfl,rfl⟩
 exact rt
theorem bU(n:Nat)(a0:u5)(r:B1)(h:Q6 n a0=some r):Pure Tryz.prog gl 29 [.agg [.int .i64 a0.kind,.str a0.name,.sl false 1 16 (rows w7 a0.words),.sl false 4 72 (rows u5.cells a0.subs)]] (.agg [.int .i64 r.code,.int .i64 r.index]):=by
 intro st
 unfold Q6 at h
 have fx:=trivial
 refine fb 5 [.cell 2 25] [0,1,2] Tryz.func29 fun hsc=>?_
 refine cl h (tG n _ _) fun v1 h=>?_
 exact rt
theorem gD(a0:w9)(r:(List Bs))(h:R3 a0=some r):Pure Tryz.prog gl 50 [.agg [.int .i64 a0.form.kind,.str a0.form.name,.sl false 1 16 (rows w7 a0.form.words),.sl false 4 72 (rows u5.cells a0.form.subs),.sl false 1 16 (rows w7 a0.words),.sl false 1 16 (rows w7 a0.C4),.sl false 1 16 (rows w7 a0.parts)]] (.sl false 1 16 (rows w7 r)):=by
 intro st
 unfold R3 at h
 have fx:=trivial
 refine fb 11 [.tmp 2] [0,1,2] Tryz.func50 fun hsc=>?_
 refine cl h (uO _) fun v2 h=>?_
 exact rt
theorem L8(a0:Int)(a1:Int)(r:B1)(h:J2 a0 a1=some r):Pure Tryz.prog gl 51 [.int .i64 a0,.int .i64 a1] (.agg [.int .i64 r.code,.int .i64 r.index]):=by
 intro st
 unfold J2 at h
 have fx:=trivial
 refine fb 8 [.cell 4 25] [0,1,4] Tryz.func51 fun hsc=>?_
 exact rt
theorem iO(a0:(List Bs))(a1:Bs)(r:Int)(h:S8 a0 a1=some r):Pure Tryz.prog gl 56 [.sl false 1 16 (rows w7 a0),.str a1] (.int .i64 r):=by
 intro st
 unfold S8 at h
 have fx:=trivial
 refine fb 19 [.tmp 4] [0,1,4,5,7,8,9,16] Tryz.func56 fun hsc=>?_
 refine aln 0 fun hl0=>?_
 refine rng (body:=O4 a1 a0) (kk:=O5) (n:=a0.length) (s0:=())
  (fun(gs0:Unit) (k0:Nat) (s0:Unit)=>[(0,.sl false 1 16 (rows w7 a0)),(1,.str a1),(7,.int .i64 (↑a0.length:Int)),(8,.int .i64 (↑k0:Int))])
  (fun(gs0:Unit) (k0:Nat) (s0:Unit)=>st)
  (fun(gt0:Unit) (t0:Unit)=>[])
  (fun(gt0:Unit) (t0:Unit)=>st)
  () fx hl0 h (nM hsc)
  (fun gs0 k0 s0 b0 fx h hx0=>?_) (fun gs0 s0=>?_) (fun gt0 t0 fr1 st1 h hb=>?_)
 ·unfold O4 at h
  refine ct ?_
  refine cd h (fun hc h=>?_) fun hc h=>?_
  ·refine ra ?_
   cases h
   refine L0 ?_;have h:=congrArg some (hx0 _ rfl)
   exact rt
  ·refine rn ?_
   cases h
   exact eE () (nM hsc)
 ·refine cf ?_
  refine fA ?_;simp only[go_sem,fx]
  exact⟨(),(nM hsc)⟩
 ·try simp only[go_sem,fx]
  unfold O5 at h
  refine Q9 hb ?_
  exact rt
theorem A8(a0:(List Bs))(a1:Bs)(r:Bool)(h:A0 a0 a1=some r):Pure Tryz.prog gl 31 [.sl false 1 16 (rows w7 a0),.str a1] (.bool r):=by
 intro st
 unfold A0 at h
 have fx:=trivial
 refine fb 9 [.tmp 4] [0,1,4] Tryz.func31 fun hsc=>?_
 refine cl h (iO _ _) fun v1 h=>?_
 exact rt
theorem lV:∀(n:Nat) (a0:u5) (a1:(List Bs)) (l1:(List Bs)) (r:(List Bs)) (h:E7 n a0 a1 l1=some r),∀(st:St) (o0 o1 o2 q1:Nat) (hnd: [o0,o1,o2].Nodup) (M9:Am.look st o0=some (.arr 0 1 0 [[.ref false o1 q1 0 l1.length]])) (Z6:Am.look st o1=some (.arr q1 1 16 (rows w7 l1))) (bY:Am.look st o2=some (.arr 0 1 0 [[.fn 78 [] [.ptr o0 0 0 0,.ptr o2 0 0 0]]])),Am.Spec Tryz.prog gl 78 [.agg [.int .i64 a0.kind,.str a0.name,.sl false 1 16 (rows w7 a0.words),.sl false 4 72 (rows u5.cells a0.subs)],.sl false 1 16 (rows w7 a1),.ptr o0 0 0 0,.ptr o2 0 0 0] st (fun d st'=>∃zo1:Nat,d= .tup []∧st'=puts st [(o0,(.arr 0 1 0 [[.ref false o1 zo1 0 r.length]])),(o1,(.arr zo1 1 16 (rows w7 r))),(o2,(.arr 0 1 0 [[.fn 78 [] [.ptr o0 0 0 0,.ptr o2 0 0 0]]]))]):=by
 intro n
 induction n with
 |zero=>intro a0 a1 l1 r h;cases h
 |succ n ih=>
  intro a0 a1 l1 r h st o0 o1 o2 q1 hnd M9 Z6 bY
  unfold E7 at h
  have ho0:=B3 M9
  have ho1:=B3 Z6
  have ho2:=B3 bY
  have fx:=fa (fa (fa (idf ho0) (idf ho1)) (idf ho2)) (nd3 hnd)
  refine fb 50 [] [0,1,2,3,4,7,9,11,12,13,14,20,27,39,40,41,42] Tryz.func78 fun hsc=>?_
  refine bD (s':=(B8 st [(o0,(.arr 0 1 0 [[.ref false o1 q1 0 l1.length]])),(o1,(.arr q1 1 16 (rows w7 l1))),(o2,(.arr 0 1 0 [[.fn 78 [] [.ptr o0 0 0 0,.ptr o2 0 0 0]]]))])) (C7 (by simp[M9,Z6,bY])) ?_
  refine aln 11 fun hl0=>?_
  refine rng (body:=S2 a1 a0) (kk:=S6 (E7 n) a0 a1) (n:=a0.words.length) (s0:=l1)
   (fun(gs0:Nat) (k0:Nat) (s0:(List Bs))=>[(1,.sl false 1 16 (rows w7 a1)),(2,.ptr o0 0 0 0),(3,.ptr o2 0 0 0),(4,.ptr st.length 0 0 0),(11,.sl false 1 16 (rows w7 a0.words)),(12,.int .i64 (↑a0.words.length:Int)),(13,.int .i64 (↑k0:Int))])
   (fun(gs0:Nat) (k0:Nat) (s0:(List Bs))=>(B8 st [(o0,(.arr 0 1 0 [[.ref false o1 gs0 0 s0.length]])),(o1,(.arr gs0 1 16 (rows w7 s0))),(o2,(.arr 0 1 0 [[.fn 78 [] [.ptr o0 0 0 0,.ptr o2 0 0 0]]]))])++[some (.arr 0 4 0 [[.int .i64 a0.kind,.str a0.name,.sl false 1 16 (rows w7 a0.words),.sl false 4 72 (rows u5.cells a0.subs)]])])
   (fun(gt0:Nat) (t0:(List Bs))=>[(1,.sl false 1 16 (rows w7 a1)),(3,.ptr o2 0 0 0),(4,.ptr st.length 0 0 0)])
   (fun(gt0:Nat) (t0:(List Bs))=>(B8 st [(o0,(.arr 0 1 0 [[.ref false o1 gt0 0 t0.length]])),(o1,(.arr gt0 1 16 (rows w7 t0))),(o2,(.arr 0 1 0 [[.fn 78 [] [.ptr o0 0 0 0,.ptr o2 0 0 0]]]))])++[some (.arr 0 4 0 [[.int .i64 a0.kind,.str a0.name,.sl false 1 16 (rows w7 a0.words),.sl false 4 72 (rows u5.cells a0.subs)]])])
   q1 fx hl0 h (bu hsc)
   (fun gs0 k0 s0 b0 fx h hx0=>?_) (fun gs0 s0=>?_) (fun gt0 t0 fr1 st1 h hb=>?_)
  ·unfold S2 at h
   refine ct ?_
   refine cl h (A8 _ _) fun v8 h=>?_
   refine cd h (fun hc h=>?_) fun hc h=>?_
   ·obtain⟨c10,He,h⟩:=gX h
    have fy:=(show rows w7 s0++[[.str (get a0.words k0)]]=rows w7 c10 from by rw[He];first|exact E1 (E:=w7) s0 [(get a0.words k0)]|simp only[go_sem,rows,List.map_append,List.map_cons,List.map_nil])
    have fy:=fa fy (show s0.length+1=c10.length from by rw[He];simp)
    obtain⟨fx,h⟩:=ck fx h
    refine r1 ?_
    refine rn ?_
    cases h
    exact eE (gs0+1) (bu hsc)
   ·refine rn ?_
    cases h
    exact eE gs0 (bu hsc)
  ·refine cf ?_
   refine fA ?_;simp only[go_sem,fx]
   exact⟨gs0,(bu hsc)⟩
  ·try simp only[go_sem,fx]
   unfold S6 at h
   refine Q9 hb ?_
   refine cl h (E0 _) fun v15 h=>?_
   refine rn ?_
   refine eC (G9 (E7 n) a0 t0) r (fun(gj1:Unit) (j1:(List Bs))=>[(1,.sl false 1 16 (rows w7 j1)),(3,.ptr o2 0 0 0),(4,.ptr st.length 0 0 0)]) (fun(gj1:Unit) (j1:(List Bs))=>(B8 st [(o0,(.arr 0 1 0 [[.ref false o1 gt0 0 t0.length]])),(o1,(.arr gt0 1 16 (rows w7 t0))),(o2,(.arr 0 1 0 [[.fn 78 [] [.ptr o0 0 0 0,.ptr o2 0 0 0]]]))])++[some (.arr 0 4 0 [[.int .i64 a0.kind,.str a0.name,.sl false 1 16 (rows w7 a0.words),.sl false 4 72 (rows u5.cells a0.subs)]])]) (fun gj1 j1 fr1 st1 h hb=>?_) (fun hj1=>?_)
   ·try simp only[go_sem,fx]
    unfold G9 at h
    refine Q9 hb ?_
    refine aln 39 fun hl2=>?_
    refine rng (body:=S4 (E7 n) a0 j1) (kk:=S5) (n:=a0.subs.length) (s0:=t0)
     (fun(gs2:Nat) (k2:Nat) (s2:(List Bs))=>[(1,.sl false 1 16 (rows w7 j1)),(3,.ptr o2 0 0 0),(39,.sl false 4 72 (rows u5.cells a0.subs)),(40,.int .i64 (↑a0.subs.length:Int)),(41,.int .i64 (↑k2:Int))])
     (fun(gs2:Nat) (k2:Nat) (s2:(List Bs))=>(B8 st [(o0,(.arr 0 1 0 [[.ref false o1 gs2 0 s2.length]])),(o1,(.arr gs2 1 16 (rows w7 s2))),(o2,(.arr 0 1 0 [[.fn 78 [] [.ptr o0 0 0 0,.ptr o2 0 0 0]]]))]))
     (fun(gt2:Nat) (t2:(List Bs))=>[])
     (fun(gt2:Nat) (t2:(List Bs))=>(B8 st [(o0,(.arr 0 1 0 [[.ref false o1 gt2 0 t2.length]])),(o1,(.arr gt2 1 16 (rows w7 t2))),(o2,(.arr 0 1 0 [[.fn 78 [] [.ptr o0 0 0 0,.ptr o2 0 0 0]]]))]))
     gt0 fx hl2 h (bu0 hsc)
     (fun gs2 k2 s2 b2 fx h hx2=>?_) (fun gs2 s2=>?_) (fun gt2 t2 fr1 st1 h hb=>?_)
    ·unfold S4 at h
     refine ct ?_
     refine rn ?_
     obtain⟨v26,hv26,h⟩:=P8 h
     refine(ih _ _ _ _ hv26 _ _ _ _ gs2 hnd (by simp only[go_sem,fx]) (by simp only[go_sem,fx]) (by simp only[go_sem,fx])).mono ?_
     rintro d1 st1 ⟨g27,rfl,rfl⟩
     refine rn ?_
     cases h
     exact eE g27 (bu0 hsc)
    ·refine cf ?_
     refine fA ?_;simp only[go_sem,fx]
     exact⟨gs2,(Fh hsc)⟩
    ·try simp only[go_sem,fx]
     unfold S5 at h
     refine qE hb ?_
     refine rr ?_
     exact fus (.tup []) (.same _) h hsc (hr:=by rintro rfl;exact⟨gt2,rfl,rfl⟩)
   ·refine cd h (fun hc h=>?_) fun hc h=>?_
    ·refine rs ?_
     obtain⟨fx,h⟩:=ck fx h
     obtain⟨c19,RZ,h⟩:=gX h
     have fy:=(show rows w7 a1++[[.str a0.name]]=rows w7 c19 from by rw[RZ];first|exact E1 (E:=w7) a1 [a0.name]|simp only[go_sem,rows,List.map_append,List.map_cons,List.map_nil])
     have fy:=fa fy (show a1.length+1=c19.length from by rw[RZ];simp)
     obtain⟨fx,h⟩:=ck fx h
     refine dwy [] 2 ?_
     refine hj1 () _ _ _ h ?_;exact(bu hsc (hf:=⟨.ref _ _ _ _ _ _ _ _ _ (D3.trans rfl) (fK (by first|decide|simp)) (by decide) (jS _) (by simp only[go_sem]),.s,.s,trivial⟩))
    ·refine r0 ?_
     refine hj1 () _ _ _ h ?_;exact(bu hsc)
end Go.Proofs.YtfacbpehlibilaaGreatDoor
