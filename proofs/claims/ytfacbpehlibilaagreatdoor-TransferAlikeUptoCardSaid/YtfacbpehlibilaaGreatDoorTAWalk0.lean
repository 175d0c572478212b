import Derived.Test.YtfacbpehlibilaaGreatDoorTAMirrors
set_option linter.unusedVariables false
set_option linter.unusedSimpArgs false
set_option maxHeartbeats 2000000
set_option maxRecDepth 100000
namespace Go.Proofs.YtfacbpehlibilaaGreatDoor
open Go Go.Am
theorem i0N(a0:Wp)(a1:Wp)(r:Int)(h:d8L a0 a1=some r):Pure Tryz.prog gl 67 [.agg [.int .i64 a0.at_,.int .i64 a0.rule],.agg [.int .i64 a1.at_,.int .i64 a1.rule]] (.int .i64 r):=by
 intro st
 unfold d8L at h
 have fx:=trivial
 refine fb 10 [.tmp 4] [0,1,2,3,4] Tryz.func67 fun hsc=>?_
 exact rt
theorem XS(a0:Bs)(a1:(List Bs))(r:Lr)(h:XH a0 a1=some r):Pure Tryz.prog gl 23 [.str a0,.sl false 1 16 (rows Wt a1)] (.agg [.int .i64 r.kind,.str r.name,.sl false 1 16 (rows Wt r.words),.sl false 4 72 (rows Lr.cells r.subs)]):=by
 intro st
 unfold XH at h
 have fx:=trivial
 refine fb 8 [.cell 4 31] [0,1,4] Tryz.func23 fun hsc=>?_
 refine rr ?_
 exact fo (.agg [.int .i64 2,.str a0,.sl false 1 16 (rows Wt a1),.sl false 4 72 (rows Lr.cells [])]) (.agg _ _ (.cons _ _ _ _ .s (.cons _ _ _ _ .s (.cons _ _ _ _ .s (.cons _ _ _ _ (.WB _ _ _ (by decide)) .nil))))) h hsc
theorem d2Z(a0:Int)(a1:Lr)(a2:Lr)(r:Lr)(h:d0W a0 a1 a2=some r):Pure Tryz.prog gl 20 [.int .i64 a0,.agg [.int .i64 a1.kind,.str a1.name,.sl false 1 16 (rows Wt a1.words),.sl false 4 72 (rows Lr.cells a1.subs)],.agg [.int .i64 a2.kind,.str a2.name,.sl false 1 16 (rows Wt a2.words),.sl false 4 72 (rows Lr.cells a2.subs)]] (.agg [.int .i64 r.kind,.str r.name,.sl false 1 16 (rows Wt r.words),.sl false 4 72 (rows Lr.cells r.subs)]):=by
 intro st
 unfold d0W at h
 have fx:=trivial
 refine fb 12 [.cell 6 31] [0,1,2,4,5,6] Tryz.func20 fun hsc=>?_
 refine rr ?_
 exact fo (.agg [.int .i64 a0,.str [],.sl false 1 16 (rows Wt []),.sl false 4 72 (rows Lr.cells [a1,a2])]) (.agg _ _ (.cons _ _ _ _ .s (.cons _ _ _ _ .s (.cons _ _ _ _ (.WB _ _ _ (by decide)) (.cons _ _ _ _ (.ref _ _ _ _ _ _ _ _ _ (i2t.trans rfl) p2p (by decide) (by simp[Imm,D.imm]) (by simp only[go_sem,rows,List.map_cons,List.map_nil])) .nil))))) h hsc
theorem Yt(a0:Int)(a1:Int)(r:WC)(h:Xr a0 a1=some r):Pure Tryz.prog gl 26 [.int .i64 a0,.int .i64 a1] (.agg [.int .i64 r.code,.int .i64 r.index]):=by
 intro st
 unfold Xr at h
 have fx:=trivial
 refine fb 8 [.cell 4 25] [0,1,4] Tryz.func26 fun hsc=>?_
 exact rt
theorem Zq(a0:Int)(WH:Int)(r:WC)(h:Zl a0 WH=some r):∀(st:St) (o0:Nat) (hnd: [o0].Nodup) (XZ:Am.look st o0=some (.arr 0 1 0 [[.int .i64 WH]])),Am.Spec Tryz.prog gl 82 [.int .i64 a0,.ptr o0 0 0 0] st (fun d st'=>d= .agg [.int .i64 r.code,.int .i64 r.index]∧st'=puts st []):=by
 intro st o0 hnd XZ
 unfold Zl at h
 have ho0:=WA XZ
 have fx:=idf ho0
 refine fb 7 [.cell 3 25] [0,1,3] Tryz.func82 fun hsc=>?_
 refine ZJ (s':=(WE st [(o0,(.arr 0 1 0 [[.int .i64 WH]]))])) (WJ (by simp[XZ])) ?_
 refine rr ?_
 exact fuo (.agg [.int .i64 a0,.int .i64 WH]) (.same _) h hsc (hr:=by rintro rfl;exact⟨rfl,WJ (by simp[XZ])⟩)
theorem i1m(a0:Int)(r:Int)(h:d3V a0=some r):Pure Tryz.prog gl 83 [.int .i64 a0] (.int .i64 r):=by
 intro st
 unfold d3V at h
 have fx:=trivial
 refine fb 16 [.tmp 2] [0,2,3,4,8,12] Tryz.func83 fun hsc=>?_
 refine rn ?_
 refine d2X (d1b a0) r (fun(gj0:Unit) (j0:Bool)=>[(3,.int .i64 a0),(4,.bool j0)]) (fun(gj0:Unit) (j0:Bool)=>st) (fun gj0 j0 fr1 st1 h hb=>?_) (fun hj0=>?_)
 ·try simp only[go_sem,fx]
  unfold d1b at h
  refine Zk hb ?_
  refine cd h (fun hc h=>?_) fun hc h=>?_
  ·exact rt
  ·refine rn ?_
   refine d2X (d1c a0) r (fun(gj1:Unit) (j1:Bool)=>[(3,.int .i64 a0),(8,.bool j1)]) (fun(gj1:Unit) (j1:Bool)=>st) (fun gj1 j1 fr1 st1 h hb=>?_) (fun hj1=>?_)
   ·try simp only[go_sem,fx]
    unfold d1c at h
    refine Zk hb ?_
    refine cd h (fun hc h=>?_) fun hc h=>?_
    ·exact rt
    ·refine rn ?_
     refine d2X (d1d) r (fun(gj2:Unit) (j2:Bool)=>[(12,.bool j2)]) (fun(gj2:Unit) (j2:Bool)=>st) (fun gj2 j2 fr1 st1 h hb=>?_) (fun hj2=>?_)
     ·try simp only[go_sem,fx]
      unfold d1d at h
      refine Zk hb ?_
      refine cd h (fun hc h=>?_) fun hc h=>?_
      ·exact rt
      ·exact rt
     ·refine cd h (fun hc h=>?_) fun hc h=>?_
      ·refine r0 ?_
       refine hj2 () _ _ _ h ?_;exact(d8H hsc)
      ·refine cd h (fun hc h=>?_) fun hc h=>?_
       ·refine r0 ?_
        refine hj2 () _ _ _ h ?_;exact(d8H hsc)
       ·refine r0 ?_
        refine hj2 () _ _ _ h ?_;exact(d8H hsc)
   ·refine cd h (fun hc h=>?_) fun hc h=>?_
    ·refine r0 ?_
     refine hj1 () _ _ _ h ?_;exact(d8H hsc)
    ·refine cd h (fun hc h=>?_) fun hc h=>?_
     ·refine r0 ?_
      refine hj1 () _ _ _ h ?_;exact(d8H hsc)
     ·refine r0 ?_
      refine hj1 () _ _ _ h ?_;exact(d8H hsc)
 ·refine cd h (fun hc h=>?_) fun hc h=>?_
  ·refine r0 ?_
   refine hj0 () _ _ _ h ?_;exact(d8H hsc)
  ·refine cd h (fun hc h=>?_) fun hc h=>?_
   ·refine r0 ?_
    refine hj0 () _ _ _ h ?_;exact(d8H hsc)
   ·refine r0 ?_
    refine hj0 () _ _ _ h ?_;exact(d8H hsc)
theorem WX(a0:Lr)(r:Bool)(h:WV a0=some r):Pure Tryz.prog gl 55 [.agg [.int .i64 a0.kind,.str a0.name,.sl false 1 16 (rows Wt a0.words),.sl false 4 72 (rows Lr.cells a0.subs)]] (.bool r):=by
 intro st
 unfold WV at h
 have fx:=trivial
 refine fb 11 [.tmp 2] [0,1,2,7,8,9] Tryz.func55 fun hsc=>?_
 exact rt
theorem d6X(a0:Bs)(r:Bool)(h:termName a0=some r):Pure Tryz.prog gl 48 [.str a0] (.bool r):=by
 intro st
 unfold termName at h
 have fx:=trivial
 refine fb 55 [.tmp 2] [0,2,3,4,9,10,11,14,15,16,19,20,21,22,24,25,26,34,35,38,39,40,41,42,43,46,47,50,51,53] Tryz.func48 fun hsc=>?_
 obtain⟨fx,h⟩:=ck fx h
 obtain⟨fx,h⟩:=ck fx h
 refine cd h (fun hc h=>?_) fun hc h=>?_
 ·exact rt
 ·obtain⟨fx,h⟩:=ck fx h
  refine rn ?_
  refine rng (body:=d5m a0) (kk:=d5n) (n:=a0.length) (s0:=())
   (fun(gs0:Unit) (k0:Nat) (s0:Unit)=>[(0,.str a0),(24,.int .i64 (↑a0.length:Int)),(25,.int .i64 (↑k0:Int))])
   (fun(gs0:Unit) (k0:Nat) (s0:Unit)=>st)
   (fun(gt0:Unit) (t0:Unit)=>[])
   (fun(gt0:Unit) (t0:Unit)=>st)
   () fx fx.2 h (d8H hsc)
   (fun gs0 k0 s0 b0 fx h hx0=>?_) (fun gs0 s0=>?_) (fun gt0 t0 fr1 st1 h hb=>?_)
  ·unfold d5m at h
   refine ct ?_
   refine cd h (fun hc h=>?_) fun hc h=>?_
   ·refine ra ?_
    cases h
    refine XY ?_;have h:=congrArg some (hx0 _ rfl)
    exact rt
   ·refine rn ?_
    cases h
    exact d2U () (d8H hsc)
  ·refine cf ?_
   refine d2V ?_;simp only[go_sem,fx]
   exact⟨(),(d8H hsc)⟩
  ·try simp only[go_sem,fx]
   unfold d5n at h
   refine Zk hb ?_
   exact rt
theorem d8V:∀(n:Nat) (a0:Lr) (a1:Int) (WH:Int) (Zz:Bool) (r:WC×Int) (h:XK n a0 a1 WH Zz=some r),∀(st:St) (o0 o1 o2:Nat) (hnd: [o0,o1,o2].Nodup) (XZ:Am.look st o0=some (.arr 0 1 0 [[.int .i64 WH]])) (ZG:Am.look st o1=some (.arr 0 1 0 [[.bool Zz]])) (d1V:Am.look st o2=some (.arr 0 1 0 [[.fn 81 [] [.ptr o0 0 0 0,.ptr o1 0 0 0,.ptr o2 0 0 0]]])),Am.Spec Tryz.prog gl 81 [.agg [.int .i64 a0.kind,.str a0.name,.sl false 1 16 (rows Wt a0.words),.sl false 4 72 (rows Lr.cells a0.subs)],.int .i64 a1,.ptr o0 0 0 0,.ptr o1 0 0 0,.ptr o2 0 0 0] st (fun d st'=>d= .agg [.int .i64 r.1.code,.int .i64 r.1.index]∧st'=puts st [(o0,(.arr 0 1 0 [[.int .i64 r.2]])),(o1,(.arr 0 1 0 [[.bool Zz]])),(o2,(.arr 0 1 0 [[.fn 81 [] [.ptr o0 0 0 0,.ptr o1 0 0 0,.ptr o2 0 0 0]]]))]):=by
 intro n
 induction n with
 |zero=>intro a0 a1 WH Zz r h;cases h
 |succ n ih=>
  intro a0 a1 WH Zz r h st o0 o1 o2 hnd XZ ZG d1V
  unfold XK at h
  have ho0:=WA XZ
  have ho1:=WA ZG
  have ho2:=WA d1V
  have fx:=fa (fa (fa (idf ho0) (idf ho1)) (idf ho2)) (nd3 hnd)
  refine fb 133 [.cell 7 25] [0,1,2,3,4,5,7,8,9,10,11,12,14,16,17,25,26,27,37,38,40,49,56,67,68,69,76,77,80,81,82,86,87,88,89,90,96,97,98,99,103,104,105,106,111,116,117,118,119,129] Tryz.func81 fun hsc=>?_
  refine ZJ (s':=(WE st [(o0,(.arr 0 1 0 [[.int .i64 WH]])),(o1,(.arr 0 1 0 [[.bool Zz]])),(o2,(.arr 0 1 0 [[.fn 81 [] [.ptr o0 0 0 0,.ptr o1 0 0 0,.ptr o2 0 0 0]]]))])) (WJ (by simp[XZ,ZG,d1V])) ?_
  refine cd h (fun hc h=>?_) fun hc h=>?_
  ·refine rn ?_
   obtain⟨v1,hv1,h⟩:=ZA h
   refine(Zq _ _ _ hv1 _ _ (by simp) (WR.trans rfl)).mono ?_
   rintro d1 st1 ⟨rfl,rfl⟩
   refine rr ?_
   exact fuo (.agg [.int .i64 v1.code,.int .i64 v1.index]) (.same _) h hsc
  ·refine cl h (i1m _) fun v2 h=>?_
   refine rn ?_
   refine d2X (ZE (XK n) WH a0 a1 Zz) r (fun(gj0:Unit) (j0:Int)=>[(1,.int .i64 a1),(4,.ptr o2 0 0 0),(5,.ptr st.length 0 0 0),(7,.ptr (st.length+1) 0 0 0),(9,.fn 82 [] [.ptr (st.length+2) 0 0 0]),(10,.int .i64 j0)]) (fun(gj0:Unit) (j0:Int)=>(WE st [(o0,(.arr 0 1 0 [[.int .i64 (wr .i64 (WH+1))]])),(o1,(.arr 0 1 0 [[.bool Zz]])),(o2,(.arr 0 1 0 [[.fn 81 [] [.ptr o0 0 0 0,.ptr o1 0 0 0,.ptr o2 0 0 0]]]))])++[some (.arr 0 4 0 [[.int .i64 a0.kind,.str a0.name,.sl false 1 16 (rows Wt a0.words),.sl false 4 72 (rows Lr.cells a0.subs)]]),some (.arr 0 2 0 [[.int .i64 0,.int .i64 0]]),some (.arr 0 1 0 [[.int .i64 WH]])]) (fun gj0 j0 fr1 st1 h hb=>?_) (fun hj0=>?_)
   ·try simp only[go_sem,fx]
    unfold ZE at h
    refine Zk hb ?_
    refine cd h (fun hc h=>?_) fun hc h=>?_
    ·refine rn ?_
     obtain⟨v3,hv3,h⟩:=ZA h
     refine(Zq _ _ _ hv3 _ _ (by simp) (WR.trans rfl)).mono ?_
     rintro d1 st1 ⟨rfl,rfl⟩
     refine rr ?_
     exact fuo (.agg [.int .i64 v3.code,.int .i64 v3.index]) (.same _) h hsc
    ·refine rn ?_
     refine d2X (YQ (XK n) a0 j0 WH a1 Zz) r (fun(gj1:Unit) (j1:Bool)=>[(1,.int .i64 a1),(4,.ptr o2 0 0 0),(5,.ptr st.length 0 0 0),(7,.ptr (st.length+1) 0 0 0),(9,.fn 82 [] [.ptr (st.length+2) 0 0 0]),(10,.int .i64 j0),(11,.bool j1)]) (fun(gj1:Unit) (j1:Bool)=>(WE st [(o0,(.arr 0 1 0 [[.int .i64 (wr .i64 (WH+1))]])),(o1,(.arr 0 1 0 [[.bool Zz]])),(o2,(.arr 0 1 0 [[.fn 81 [] [.ptr o0 0 0 0,.ptr o1 0 0 0,.ptr o2 0 0 0]]]))])++[some (.arr 0 4 0 [[.int .i64 a0.kind,.str a0.name,.sl false 1 16 (rows Wt a0.words),.sl false 4 72 (rows Lr.cells a0.subs)]]),some (.arr 0 2 0 [[.int .i64 0,.int .i64 0]]),some (.arr 0 1 0 [[.int .i64 WH]])]) (fun gj1 j1 fr1 st1 h hb=>?_) (fun hj1=>?_)
     ·try simp only[go_sem,fx]
      unfold YQ at h
      refine Zk hb ?_
      refine cd h (fun hc h=>?_) fun hc h=>?_
      ·refine rn ?_
       obtain⟨v4,hv4,h⟩:=ZA h
       refine(Zq _ _ _ hv4 _ _ (by simp) (WR.trans rfl)).mono ?_
       rintro d1 st1 ⟨rfl,rfl⟩
       refine rr ?_
       exact fuo (.agg [.int .i64 v4.code,.int .i64 v4.index]) (.same _) h hsc
      ·refine rn ?_
       obtain⟨v5,hv5,h⟩:=ZA h
       refine d2H (fun hG=>(WX _ _ (i5t hv5 (by simpa using hG)))) ?_
       refine rn ?_
       obtain⟨v6,hv6,h⟩:=ZA h
       refine d2H (fun hG=>(d6X _ _ (i5t hv6 (by simpa using hG)))) ?_
       refine cd h (fun hc h=>?_) fun hc h=>?_
       ·refine rn ?_
        obtain⟨v7,hv7,h⟩:=ZA h
        refine(Zq _ _ _ hv7 _ _ (by simp) (WR.trans rfl)).mono ?_
        rintro d1 st1 ⟨rfl,rfl⟩
        refine rr ?_
        exact fuo (.agg [.int .i64 v7.code,.int .i64 v7.index]) (.same _) h hsc
       ·refine cd h (fun hc h=>?_) fun hc h=>?_
        ·refine rn ?_
         obtain⟨v8,hv8,h⟩:=ZA h
         refine(Zq _ _ _ hv8 _ _ (by simp) (WR.trans rfl)).mono ?_
         rintro d1 st1 ⟨rfl,rfl⟩
         refine rr ?_
         exact fuo (.agg [.int .i64 v8.code,.int .i64 v8.index]) (.same _) h hsc
        ·refine aln 103 fun hl2=>?_
         refine rng (body:=d2f a0 WH) (kk:=d2g (XK n) a0 a1 Zz WH) (n:=a0.words.length) (s0:=())
          (fun(gs2:Unit) (k2:Nat) (s2:Unit)=>[(1,.int .i64 a1),(4,.ptr o2 0 0 0),(5,.ptr st.length 0 0 0),(7,.ptr (st.length+1) 0 0 0),(9,.fn 82 [] [.ptr (st.length+2) 0 0 0]),(103,.sl false 1 16 (rows Wt a0.words)),(104,.int .i64 (↑a0.words.length:Int)),(105,.int .i64 (↑k2:Int))])
          (fun(gs2:Unit) (k2:Nat) (s2:Unit)=>(WE st [(o0,(.arr 0 1 0 [[.int .i64 (wr .i64 (WH+1))]])),(o1,(.arr 0 1 0 [[.bool Zz]])),(o2,(.arr 0 1 0 [[.fn 81 [] [.ptr o0 0 0 0,.ptr o1 0 0 0,.ptr o2 0 0 0]]]))])++[some (.arr 0 4 0 [[.int .i64 a0.kind,.str a0.name,.sl false 1 16 (rows Wt a0.words),.sl false 4 72 (rows Lr.cells a0.subs)]]),some (.arr 0 2 0 [[.int .i64 0,.int .i64 0]]),some (.arr 0 1 0 [[.int .i64 WH]])])
          (fun(gt2:Unit) (t2:Unit)=>[(1,.int .i64 a1),(4,.ptr o2 0 0 0),(5,.ptr st.length 0 0 0),(7,.ptr (st.length+1) 0 0 0)])
          (fun(gt2:Unit) (t2:Unit)=>(WE st [(o0,(.arr 0 1 0 [[.int .i64 (wr .i64 (WH+1))]])),(o1,(.arr 0 1 0 [[.bool Zz]])),(o2,(.arr 0 1 0 [[.fn 81 [] [.ptr o0 0 0 0,.ptr o1 0 0 0,.ptr o2 0 0 0]]]))])++[some (.arr 0 4 0 [[.int .i64 a0.kind,.str a0.name,.sl false 1 16 (rows Wt a0.words),.sl false 4 72 (rows Lr.cells a0.subs)]]),some (.arr 0 2 0 [[.int .i64 0,.int .i64 0]])])
          () fx hl2 h (bu hsc)
          (fun gs2 k2 s2 b2 fx h hx2=>?_) (fun gs2 s2=>?_) (fun gt2 t2 fr1 st1 h hb=>?_)
         ·unfold d2f at h
          refine ct ?_
          refine cl h (d6X _) fun v9 h=>?_
          refine cd h (fun hc h=>?_) fun hc h=>?_
          ·refine rn ?_
           obtain⟨v10,hv10,h⟩:=ZA h
           refine(Zq _ _ _ hv10 _ _ (by simp) (WR.trans rfl)).mono ?_
           rintro d1 st1 ⟨rfl,rfl⟩
           refine ra ?_
           cases h
           refine XY ?_;have h:=congrArg some (hx2 _ rfl)
           refine rr ?_
           exact fuo (.agg [.int .i64 v10.code,.int .i64 v10.index]) (.same _) h hsc
          ·refine rn ?_
           cases h
           exact d2U () (bu hsc)
         ·refine cf ?_
          refine d2V ?_;simp only[go_sem,fx]
          exact⟨(),(bu hsc)⟩
         ·try simp only[go_sem,fx]
          unfold d2g at h
          refine Zk hb ?_
          refine aln 116 fun hl3=>?_
          refine rng (body:=d2h (XK n) a0 a1 Zz) (kk:=d2i) (n:=a0.subs.length) (s0:=(wr .i64 (WH+1)))
           (fun(gs3:Unit) (k3:Nat) (s3:Int)=>[(1,.int .i64 a1),(4,.ptr o2 0 0 0),(7,.ptr (st.length+1) 0 0 0),(116,.sl false 4 72 (rows Lr.cells a0.subs)),(117,.int .i64 (↑a0.subs.length:Int)),(118,.int .i64 (↑k3:Int))])
           (fun(gs3:Unit) (k3:Nat) (s3:Int)=>(WE st [(o0,(.arr 0 1 0 [[.int .i64 s3]])),(o1,(.arr 0 1 0 [[.bool Zz]])),(o2,(.arr 0 1 0 [[.fn 81 [] [.ptr o0 0 0 0,.ptr o1 0 0 0,.ptr o2 0 0 0]]]))])++[none,some (.arr 0 2 0 [[.int .i64 0,.int .i64 0]])])
           (fun(gt3:Unit) (t3:Int)=>[(7,.ptr (st.length+1) 0 0 0)])
           (fun(gt3:Unit) (t3:Int)=>(WE st [(o0,(.arr 0 1 0 [[.int .i64 t3]])),(o1,(.arr 0 1 0 [[.bool Zz]])),(o2,(.arr 0 1 0 [[.fn 81 [] [.ptr o0 0 0 0,.ptr o1 0 0 0,.ptr o2 0 0 0]]]))])++[none,some (.arr 0 2 0 [[.int .i64 0,.int .i64 0]])])
           () fx hl3 h (bu hsc)
           (fun gs3 k3 s3 b3 fx h hx3=>?_) (fun gs3 s3=>?_) (fun gt3 t3 fr1 st1 h hb=>?_)
          ·unfold d2h at h
           refine ct ?_
           refine rn ?_
           obtain⟨v12,hv12,h⟩:=ZA h
           refine(ih _ _ _ _ _ hv12 _ _ _ _ hnd (by simp only[go_sem,fx]) (by simp only[go_sem,fx]) (by simp only[go_sem,fx])).mono ?_
           rintro d1 st1 ⟨rfl,rfl⟩
           refine cd h (fun hc h=>?_) fun hc h=>?_
           ·refine ra ?_
            cases h
            refine XY ?_;have h:=congrArg some (hx3 _ rfl)
            refine rr ?_
            exact fuo (.agg [.int .i64 v12.1.code,.int .i64 v12.1.index]) (.same _) h hsc
           ·refine rn ?_
            cases h
            exact d2U () (bu hsc)
          ·refine cf ?_
           refine d2V ?_;simp only[go_sem,fx]
           exact⟨(),(bu hsc)⟩
          ·try simp only[go_sem,fx]
           unfold d2i at h
           refine Zk hb ?_
           refine rr ?_
           exact fuo (.agg [.int .i64 0,.int .i64 0]) (.same _) h hsc
     ·refine cd h (fun hc h=>?_) fun hc h=>?_
      ·refine r0 ?_
       refine hj1 () _ _ _ h ?_;exact(bu hsc)
      ·refine cd h (fun hc h=>?_) fun hc h=>?_
       ·refine r0 ?_
        refine hj1 () _ _ _ h ?_;exact(bu hsc)
       ·refine r0 ?_
        refine hj1 () _ _ _ h ?_;exact(bu hsc)
   ·refine cd h (fun hc h=>?_) fun hc h=>?_
    ·refine r0 ?_
     refine hj0 () _ _ _ h ?_;exact(bu hsc)
    ·refine r0 ?_
     refine hj0 () _ _ _ h ?_;exact(bu hsc)
theorem i0O(n:Nat)(a0:Lr)(a1:Bool)(r:WC)(h:d4r n a0 a1=some r):Pure Tryz.prog gl 54 [.agg [.int .i64 a0.kind,.str a0.name,.sl false 1 16 (rows Wt a0.words),.sl false 4 72 (rows Lr.cells a0.subs)],.bool a1] (.agg [.int .i64 r.code,.int .i64 r.index]):=by
 intro st
 unfold d4r at h
 have fx:=trivial
 refine fb 11 [.cell 4 25] [0,1,2,3,4,5,6] Tryz.func54 fun hsc=>?_
 refine rn ?_
 obtain⟨v1,hv1,h⟩:=ZA h
 refine(d8V n _ _ _ _ _ hv1 _ _ _ _ (by simp) (d4H.trans rfl) (d4H.trans rfl) (d4H.trans rfl)).mono ?_
 rintro d1 st1 ⟨rfl,rfl⟩
 exact rt
theorem d1q(n:Nat)(a0:Lr)(r:WC)(h:YM n a0=some r):Pure Tryz.prog gl 29 [.agg [.int .i64 a0.kind,.str a0.name,.sl false 1 16 (rows Wt a0.words),.sl false 4 72 (rows Lr.cells a0.subs)]] (.agg [.int .i64 r.code,.int .i64 r.index]):=by
 intro st
 unfold YM at h
 have fx:=trivial
 refine fb 5 [.cell 2 25] [0,1,2] Tryz.func29 fun hsc=>?_
 refine cl h (i0O n _ _) fun v1 h=>?_
 exact rt
theorem d3v(a0:Wu)(r:(List Bs))(h:YO a0=some r):Pure Tryz.prog gl 50 [.agg [.int .i64 a0.form.kind,.str a0.form.name,.sl false 1 16 (rows Wt a0.form.words),.sl false 4 72 (rows Lr.cells a0.form.subs),.sl false 1 16 (rows Wt a0.words),.sl false 1 16 (rows Wt a0.WO),.sl false 1 16 (rows Wt a0.parts)]] (.sl false 1 16 (rows Wt r)):=by
 intro st
 unfold YO at h
 have fx:=trivial
 refine fb 11 [.tmp 2] [0,1,2] Tryz.func50 fun hsc=>?_
 refine cl h (i1H _) fun v2 h=>?_
 exact rt
theorem Yd(a0:Int)(a1:Int)(r:WC)(h:XI a0 a1=some r):Pure Tryz.prog gl 51 [.int .i64 a0,.int .i64 a1] (.agg [.int .i64 r.code,.int .i64 r.index]):=by
 intro st
 unfold XI at h
 have fx:=trivial
 refine fb 8 [.cell 4 25] [0,1,4] Tryz.func51 fun hsc=>?_
 exact rt
theorem d4f(a0:(List Bs))(a1:Bs)(r:Int)(h:Zc a0 a1=some r):Pure Tryz.prog gl 56 [.sl false 1 16 (rows Wt a0),.str a1] (.int .i64 r):=by
 intro st
 unfold Zc at h
 have fx:=trivial
 refine fb 19 [.tmp 4] [0,1,4,5,7,8,9,16] Tryz.func56 fun hsc=>?_
 refine aln 0 fun hl0=>?_
 refine rng (body:=Yx a1 a0) (kk:=Yy) (n:=a0.length) (s0:=())
  (fun(gs0:Unit) (k0:Nat) (s0:Unit)=>[(0,.sl false 1 16 (rows Wt a0)),(1,.str a1),(7,.int .i64 (↑a0.length:Int)),(8,.int .i64 (↑k0:Int))])
  (fun(gs0:Unit) (k0:Nat) (s0:Unit)=>st)
  (fun(gt0:Unit) (t0:Unit)=>[])
  (fun(gt0:Unit) (t0:Unit)=>st)
  () fx hl0 h (d8H hsc)
  (fun gs0 k0 s0 b0 fx h hx0=>?_) (fun gs0 s0=>?_) (fun gt0 t0 fr1 st1 h hb=>?_)
 ·unfold Yx at h
  refine ct ?_
  refine cd h (fun hc h=>?_) fun hc h=>?_
  ·refine ra ?_
   cases h
   refine XY ?_;have h:=congrArg some (hx0 _ rfl)
   exact rt
  ·refine rn ?_
   cases h
   exact d2U () (d8H hsc)
 ·refine cf ?_
  refine d2V ?_;simp only[go_sem,fx]
  exact⟨(),(d8H hsc)⟩
 ·try simp only[go_sem,fx]
  unfold Yy at h
  refine Zk hb ?_
  exact rt
theorem Wx(a0:(List Bs))(a1:Bs)(r:Bool)(h:Ww a0 a1=some r):Pure Tryz.prog gl 31 [.sl false 1 16 (rows Wt a0),.str a1] (.bool r):=by
 intro st
 unfold Ww at h
 have fx:=trivial
 refine fb 9 [.tmp 4] [0,1,4] Tryz.func31 fun hsc=>?_
 refine cl h (d4f _ _) fun v1 h=>?_
 exact rt
theorem d6u:∀(n:Nat) (a0:Lr) (a1:(List Bs)) (l1:(List Bs)) (r:(List Bs)) (h:Xb n a0 a1 l1=some r),∀(st:St) (o0 o1 o2 q1:Nat) (hnd: [o0,o1,o2].Nodup) (XZ:Am.look st o0=some (.arr 0 1 0 [[.ref false o1 q1 0 l1.length]])) (ZG:Am.look st o1=some (.arr q1 1 16 (rows Wt l1))) (d1V:Am.look st o2=some (.arr 0 1 0 [[.fn 78 [] [.ptr o0 0 0 0,.ptr o2 0 0 0]]])),Am.Spec Tryz.prog gl 78 [.agg [.int .i64 a0.kind,.str a0.name,.sl false 1 16 (rows Wt a0.words),.sl false 4 72 (rows Lr.cells a0.subs)],.sl false 1 16 (rows Wt a1),.ptr o0 0 0 0,.ptr o2 0 0 0] st (fun d st'=>∃zo1:Nat,d= .tup []∧st'=puts st [(o0,(.arr 0 1 0 [[.ref false o1 zo1 0 r.length]])),(o1,(.arr zo1 1 16 (rows Wt r))),(o2,(.arr 0 1 0 [[.fn 78 [] [.ptr o0 0 0 0,.ptr o2 0 0 0]]]))]):=by
 intro n
 induction n with
 |zero=>intro a0 a1 l1 r h;cases h
 |succ n ih=>
  intro a0 a1 l1 r h st o0 o1 o2 q1 hnd XZ ZG d1V
  unfold Xb at h
  have ho0:=WA XZ
  have ho1:=WA ZG
  have ho2:=WA d1V
  have fx:=fa (fa (fa (idf ho0) (idf ho1)) (idf ho2)) (nd3 hnd)
  refine fb 50 [] [0,1,2,3,4,7,9,11,12,13,14,20,27,39,40,41,42] Tryz.func78 fun hsc=>?_
  refine ZJ (s':=(WE st [(o0,(.arr 0 1 0 [[.ref false o1 q1 0 l1.length]])),(o1,(.arr q1 1 16 (rows Wt l1))),(o2,(.arr 0 1 0 [[.fn 78 [] [.ptr o0 0 0 0,.ptr o2 0 0 0]]]))])) (WJ (by simp[XZ,ZG,d1V])) ?_
  refine aln 11 fun hl0=>?_
  refine rng (body:=YV a1 a0) (kk:=YZ (Xb n) a0 a1) (n:=a0.words.length) (s0:=l1)
   (fun(gs0:Nat) (k0:Nat) (s0:(List Bs))=>[(1,.sl false 1 16 (rows Wt a1)),(2,.ptr o0 0 0 0),(3,.ptr o2 0 0 0),(4,.ptr st.length 0 0 0),(11,.sl false 1 16 (rows Wt a0.words)),(12,.int .i64 (↑a0.words.length:Int)),(13,.int .i64 (↑k0:Int))])
   (fun(gs0:Nat) (k0:Nat) (s0:(List Bs))=>(WE st [(o0,(.arr 0 1 0 [[.ref false o1 gs0 0 s0.length]])),(o1,(.arr gs0 1 16 (rows Wt s0))),(o2,(.arr 0 1 0 [[.fn 78 [] [.ptr o0 0 0 0,.ptr o2 0 0 0]]]))])++[some (.arr 0 4 0 [[.int .i64 a0.kind,.str a0.name,.sl false 1 16 (rows Wt a0.words),.sl false 4 72 (rows Lr.cells a0.subs)]])])
   (fun(gt0:Nat) (t0:(List Bs))=>[(1,.sl false 1 16 (rows Wt a1)),(3,.ptr o2 0 0 0),(4,.ptr st.length 0 0 0)])
   (fun(gt0:Nat) (t0:(List Bs))=>(WE st [(o0,(.arr 0 1 0 [[.ref false o1 gt0 0 t0.length]])),(o1,(.arr gt0 1 16 (rows Wt t0))),(o2,(.arr 0 1 0 [[.fn 78 [] [.ptr o0 0 0 0,.ptr o2 0 0 0]]]))])++[some (.arr 0 4 0 [[.int .i64 a0.kind,.str a0.name,.sl false 1 16 (rows Wt a0.words),.sl false 4 72 (rows Lr.cells a0.subs)]])])
   q1 fx hl0 h (bu hsc)
   (fun gs0 k0 s0 b0 fx h hx0=>?_) (fun gs0 s0=>?_) (fun gt0 t0 fr1 st1 h hb=>?_)
  ·unfold YV at h
   refine ct ?_
   refine cl h (Wx _ _) fun v8 h=>?_
   refine cd h (fun hc h=>?_) fun hc h=>?_
   ·obtain⟨c10,p1F,h⟩:=d4o h
    have fy:=(show rows Wt s0++[[.str (get a0.words k0)]]=rows Wt c10 from by rw[p1F];first|exact Xi (E:=Wt) s0 [(get a0.words k0)]|simp only[go_sem,rows,List.map_append,List.map_cons,List.map_nil])
    have fy:=fa fy (show s0.length+1=c10.length from by rw[p1F];simp)
    obtain⟨fx,h⟩:=ck fx h
    refine r1 ?_
    refine rn ?_
    cases h
    exact d2U (gs0+1) (bu hsc)
   ·refine rn ?_
    cases h
    exact d2U gs0 (bu hsc)
  ·refine cf ?_
   refine d2V ?_;simp only[go_sem,fx]
   exact⟨gs0,(bu hsc)⟩
  ·try simp only[go_sem,fx]
   unfold YZ at h
   refine Zk hb ?_
   refine cl h (WX _) fun v15 h=>?_
   refine rn ?_
   refine d2X (Xw (Xb n) a0 t0) r (fun(gj1:Unit) (j1:(List Bs))=>[(1,.sl false 1 16 (rows Wt j1)),(3,.ptr o2 0 0 0),(4,.ptr st.length 0 0 0)]) (fun(gj1:Unit) (j1:(List Bs))=>(WE st [(o0,(.arr 0 1 0 [[.ref false o1 gt0 0 t0.length]])),(o1,(.arr gt0 1 16 (rows Wt t0))),(o2,(.arr 0 1 0 [[.fn 78 [] [.ptr o0 0 0 0,.ptr o2 0 0 0]]]))])++[some (.arr 0 4 0 [[.int .i64 a0.kind,.str a0.name,.sl false 1 16 (rows Wt a0.words),.sl false 4 72 (rows Lr.cells a0.subs)]])]) (fun gj1 j1 fr1 st1 h hb=>?_) (fun hj1=>?_)
   ·try simp only[go_sem,fx]
    unfold Xw at h
    refine Zk hb ?_
    refine aln 39 fun hl2=>?_
    refine rng (body:=YW (Xb n) a0 j1) (kk:=YX) (n:=a0.subs.length) (s0:=t0)
     (fun(gs2:Nat) (k2:Nat) (s2:(List Bs))=>[(1,.sl false 1 16 (rows Wt j1)),(3,.ptr o2 0 0 0),(39,.sl false 4 72 (rows Lr.cells a0.subs)),(40,.int .i64 (↑a0.subs.length:Int)),(41,.int .i64 (↑k2:Int))])
     (fun(gs2:Nat) (k2:Nat) (s2:(List Bs))=>(WE st [(o0,(.arr 0 1 0 [[.ref false o1 gs2 0 s2.length]])),(o1,(.arr gs2 1 16 (rows Wt s2))),(o2,(.arr 0 1 0 [[.fn 78 [] [.ptr o0 0 0 0,.ptr o2 0 0 0]]]))]))
     (fun(gt2:Nat) (t2:(List Bs))=>[])
     (fun(gt2:Nat) (t2:(List Bs))=>(WE st [(o0,(.arr 0 1 0 [[.ref false o1 gt2 0 t2.length]])),(o1,(.arr gt2 1 16 (rows Wt t2))),(o2,(.arr 0 1 0 [[.fn 78 [] [.ptr o0 0 0 0,.ptr o2 0 0 0]]]))]))
     gt0 fx hl2 h (bu0 hsc)
     (fun gs2 k2 s2 b2 fx h hx2=>?_) (fun gs2 s2=>?_) (fun gt2 t2 fr1 st1 h hb=>?_)
    ·unfold YW at h
     refine ct ?_
     refine rn ?_
     obtain⟨v26,hv26,h⟩:=ZA h
     refine(ih _ _ _ _ hv26 _ _ _ _ gs2 hnd (by simp only[go_sem,fx]) (by simp only[go_sem,fx]) (by simp only[go_sem,fx])).mono ?_
     rintro d1 st1 ⟨g27,rfl,rfl⟩
     refine rn ?_
     cases h
     exact d2U g27 (bu0 hsc)
    ·refine cf ?_
     refine d2V ?_;simp only[go_sem,fx]
     exact⟨gs2,(i9O hsc)⟩
    ·try simp only[go_sem,fx]
     unfold YX at h
     refine d9k hb ?_
     refine rr ?_
     exact fus (.tup []) (.same _) h hsc (hr:=by rintro rfl;exact⟨gt2,rfl,rfl⟩)
   ·refine cd h (fun hc h=>?_) fun hc h=>?_
    ·refine rs ?_
     obtain⟨fx,h⟩:=ck fx h
     obtain⟨c19,r1q,h⟩:=d4o h
     have fy:=(show rows Wt a1++[[.str a0.name]]=rows Wt c19 from by rw[r1q];first|exact Xi (E:=Wt) a1 [a0.name]|simp only[go_sem,rows,List.map_append,List.map_cons,List.map_nil])
     have fy:=fa fy (show a1.length+1=c19.length from by rw[r1q];simp)
     obtain⟨fx,h⟩:=ck fx h
     refine dwy [] 2 ?_
     refine hj1 () _ _ _ h ?_;exact(bu hsc (hf:=⟨.ref _ _ _ _ _ _ _ _ _ (WT.trans rfl) (d3c (by first|decide|simp)) (by decide) (d5x _) (by simp only[go_sem]),.s,.s,trivial⟩))
    ·refine r0 ?_
     refine hj1 () _ _ _ h ?_;exact(bu hsc)
end Go.Proofs.YtfacbpehlibilaaGreatDoor
