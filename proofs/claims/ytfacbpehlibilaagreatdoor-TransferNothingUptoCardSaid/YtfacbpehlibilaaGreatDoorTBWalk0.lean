import Derived.Test.YtfacbpehlibilaaGreatDoorTBMirrors
set_option linter.unusedVariables false
set_option linter.unusedSimpArgs false
set_option maxHeartbeats 2000000
set_option maxRecDepth 100000
namespace Go.Proofs.YtfacbpehlibilaaGreatDoor
open Go Go.Am
theorem d3F(a0:Oy)(a1:Oy)(r:Int)(h:d1V a0 a1=some r):Pure Tryz.prog gl 67 [.agg [.int .i64 a0.at_,.int .i64 a0.rule],.agg [.int .i64 a1.at_,.int .i64 a1.rule]] (.int .i64 r):=by
 intro st
 unfold d1V at h
 have fx:=trivial
 refine fb 10 [.tmp 4] [0,1,2,3,4] Tryz.func67 fun hsc=>?_
 exact rt
theorem Qe(a0:Bs)(a1:(List Bs))(r:Ox)(h:PS a0 a1=some r):Pure Tryz.prog gl 23 [.str a0,.sl false 1 16 (rows OC a1)] (.agg [.int .i64 r.kind,.str r.name,.sl false 1 16 (rows OC r.words),.sl false 4 72 (rows Ox.cells r.subs)]):=by
 intro st
 unfold PS at h
 have fx:=trivial
 refine fb 8 [.cell 4 31] [0,1,4] Tryz.func23 fun hsc=>?_
 refine rr ?_
 exact fo (.agg [.int .i64 2,.str a0,.sl false 1 16 (rows OC a1),.sl false 4 72 (rows Ox.cells [])]) (.agg _ _ (.cons _ _ _ _ .s (.cons _ _ _ _ .s (.cons _ _ _ _ .s (.cons _ _ _ _ (.OI _ _ _ (by decide)) .nil))))) h hsc
theorem VP(a0:Int)(a1:Ox)(a2:Ox)(r:Ox)(h:SN a0 a1 a2=some r):Pure Tryz.prog gl 20 [.int .i64 a0,.agg [.int .i64 a1.kind,.str a1.name,.sl false 1 16 (rows OC a1.words),.sl false 4 72 (rows Ox.cells a1.subs)],.agg [.int .i64 a2.kind,.str a2.name,.sl false 1 16 (rows OC a2.words),.sl false 4 72 (rows Ox.cells a2.subs)]] (.agg [.int .i64 r.kind,.str r.name,.sl false 1 16 (rows OC r.words),.sl false 4 72 (rows Ox.cells r.subs)]):=by
 intro st
 unfold SN at h
 have fx:=trivial
 refine fb 12 [.cell 6 31] [0,1,2,4,5,6] Tryz.func20 fun hsc=>?_
 refine rr ?_
 exact fo (.agg [.int .i64 a0,.str [],.sl false 1 16 (rows OC []),.sl false 4 72 (rows Ox.cells [a1,a2])]) (.agg _ _ (.cons _ _ _ _ .s (.cons _ _ _ _ .s (.cons _ _ _ _ (.OI _ _ _ (by decide)) (.cons _ _ _ _ (.ref _ _ _ _ _ _ _ _ _ (d1o.trans rfl) d9L (by decide) (by simp[Imm,D.imm]) (by simp only[go_sem,rows,List.map_cons,List.map_nil])) .nil))))) h hsc
theorem PC(a0:Int)(a1:Int)(r:OL)(h:PX a0 a1=some r):Pure Tryz.prog gl 26 [.int .i64 a0,.int .i64 a1] (.agg [.int .i64 r.code,.int .i64 r.index]):=by
 intro st
 unfold PX at h
 have fx:=trivial
 refine fb 8 [.cell 4 25] [0,1,4] Tryz.func26 fun hsc=>?_
 exact rt
theorem Rt(a0:Int)(OQ:Int)(r:OL)(h:Rq a0 OQ=some r):∀(st:St) (o0:Nat) (hnd: [o0].Nodup) (Qr:Am.look st o0=some (.arr 0 1 0 [[.int .i64 OQ]])),Am.Spec Tryz.prog gl 82 [.int .i64 a0,.ptr o0 0 0 0] st (fun d st'=>d= .agg [.int .i64 r.code,.int .i64 r.index]∧st'=puts st []):=by
 intro st o0 hnd Qr
 unfold Rq at h
 have ho0:=OM Qr
 have fx:=idf ho0
 refine fb 7 [.cell 3 25] [0,1,3] Tryz.func82 fun hsc=>?_
 refine SZ (s':=(OT st [(o0,(.arr 0 1 0 [[.int .i64 OQ]]))])) (OW (by simp[Qr])) ?_
 refine rr ?_
 exact fuo (.agg [.int .i64 a0,.int .i64 OQ]) (.same _) h hsc (hr:=by rintro rfl;exact⟨rfl,OW (by simp[Qr])⟩)
theorem d4e(a0:Int)(r:Int)(h:Xi a0=some r):Pure Tryz.prog gl 83 [.int .i64 a0] (.int .i64 r):=by
 intro st
 unfold Xi at h
 have fx:=trivial
 refine fb 16 [.tmp 2] [0,2,3,4,8,12] Tryz.func83 fun hsc=>?_
 refine rn ?_
 refine VN (Ti a0) r (fun(gj0:Unit) (j0:Bool)=>[(3,.int .i64 a0),(4,.bool j0)]) (fun(gj0:Unit) (j0:Bool)=>st) (fun gj0 j0 fr1 st1 h hb=>?_) (fun hj0=>?_)
 ·try simp only[go_sem,fx]
  unfold Ti at h
  refine Rj hb ?_
  refine cd h (fun hc h=>?_) fun hc h=>?_
  ·exact rt
  ·refine rn ?_
   refine VN (Tj a0) r (fun(gj1:Unit) (j1:Bool)=>[(3,.int .i64 a0),(8,.bool j1)]) (fun(gj1:Unit) (j1:Bool)=>st) (fun gj1 j1 fr1 st1 h hb=>?_) (fun hj1=>?_)
   ·try simp only[go_sem,fx]
    unfold Tj at h
    refine Rj hb ?_
    refine cd h (fun hc h=>?_) fun hc h=>?_
    ·exact rt
    ·refine rn ?_
     refine VN (Tl) r (fun(gj2:Unit) (j2:Bool)=>[(12,.bool j2)]) (fun(gj2:Unit) (j2:Bool)=>st) (fun gj2 j2 fr1 st1 h hb=>?_) (fun hj2=>?_)
     ·try simp only[go_sem,fx]
      unfold Tl at h
      refine Rj hb ?_
      refine cd h (fun hc h=>?_) fun hc h=>?_
      ·exact rt
      ·exact rt
     ·refine cd h (fun hc h=>?_) fun hc h=>?_
      ·refine r0 ?_
       refine hj2 () _ _ _ h ?_;exact(d1N hsc)
      ·refine cd h (fun hc h=>?_) fun hc h=>?_
       ·refine r0 ?_
        refine hj2 () _ _ _ h ?_;exact(d1N hsc)
       ·refine r0 ?_
        refine hj2 () _ _ _ h ?_;exact(d1N hsc)
   ·refine cd h (fun hc h=>?_) fun hc h=>?_
    ·refine r0 ?_
     refine hj1 () _ _ _ h ?_;exact(d1N hsc)
    ·refine cd h (fun hc h=>?_) fun hc h=>?_
     ·refine r0 ?_
      refine hj1 () _ _ _ h ?_;exact(d1N hsc)
     ·refine r0 ?_
      refine hj1 () _ _ _ h ?_;exact(d1N hsc)
 ·refine cd h (fun hc h=>?_) fun hc h=>?_
  ·refine r0 ?_
   refine hj0 () _ _ _ h ?_;exact(d1N hsc)
  ·refine cd h (fun hc h=>?_) fun hc h=>?_
   ·refine r0 ?_
    refine hj0 () _ _ _ h ?_;exact(d1N hsc)
   ·refine r0 ?_
    refine hj0 () _ _ _ h ?_;exact(d1N hsc)
theorem Pj(a0:Ox)(r:Bool)(h:Pc a0=some r):Pure Tryz.prog gl 55 [.agg [.int .i64 a0.kind,.str a0.name,.sl false 1 16 (rows OC a0.words),.sl false 4 72 (rows Ox.cells a0.subs)]] (.bool r):=by
 intro st
 unfold Pc at h
 have fx:=trivial
 refine fb 11 [.tmp 2] [0,1,2,7,8,9] Tryz.func55 fun hsc=>?_
 exact rt
theorem Xp(a0:Bs)(r:Bool)(h:termName a0=some r):Pure Tryz.prog gl 48 [.str a0] (.bool r):=by
 intro st
 unfold termName at h
 have fx:=trivial
 refine fb 55 [.tmp 2] [0,2,3,4,9,10,11,14,15,16,19,20,21,22,24,25,26,34,35,38,39,40,41,42,43,46,47,50,51,53] Tryz.func48 fun hsc=>?_
 obtain⟨fx,h⟩:=ck fx h
 obtain⟨fx,h⟩:=ck fx h
 refine cd h (fun hc h=>?_) fun hc h=>?_
 ·exact rt
 ·obtain⟨fx,h⟩:=ck fx h
  refine rn ?_
  refine rng (body:=YG a0) (kk:=YH) (n:=a0.length) (s0:=())
   (fun(gs0:Unit) (k0:Nat) (s0:Unit)=>[(0,.str a0),(24,.int .i64 (↑a0.length:Int)),(25,.int .i64 (↑k0:Int))])
   (fun(gs0:Unit) (k0:Nat) (s0:Unit)=>st)
   (fun(gt0:Unit) (t0:Unit)=>[])
   (fun(gt0:Unit) (t0:Unit)=>st)
   () fx fx.2 h (d1N hsc)
   (fun gs0 k0 s0 b0 fx h hx0=>?_) (fun gs0 s0=>?_) (fun gt0 t0 fr1 st1 h hb=>?_)
  ·unfold YG at h
   refine ct ?_
   refine cd h (fun hc h=>?_) fun hc h=>?_
   ·refine ra ?_
    cases h
    refine Qh ?_;have h:=congrArg some (hx0 _ rfl)
    exact rt
   ·refine rn ?_
    cases h
    exact Vh () (d1N hsc)
  ·refine cf ?_
   refine VK ?_;simp only[go_sem,fx]
   exact⟨(),(d1N hsc)⟩
  ·try simp only[go_sem,fx]
   unfold YH at h
   refine Rj hb ?_
   exact rt
theorem d2d:∀(n:Nat) (a0:Ox) (a1:Int) (OQ:Int) (RE:Bool) (r:OL×Int) (h:PV n a0 a1 OQ RE=some r),∀(st:St) (o0 o1 o2:Nat) (hnd: [o0,o1,o2].Nodup) (Qr:Am.look st o0=some (.arr 0 1 0 [[.int .i64 OQ]])) (Sd:Am.look st o1=some (.arr 0 1 0 [[.bool RE]])) (Tz:Am.look st o2=some (.arr 0 1 0 [[.fn 81 [] [.ptr o0 0 0 0,.ptr o1 0 0 0,.ptr o2 0 0 0]]])),Am.Spec Tryz.prog gl 81 [.agg [.int .i64 a0.kind,.str a0.name,.sl false 1 16 (rows OC a0.words),.sl false 4 72 (rows Ox.cells a0.subs)],.int .i64 a1,.ptr o0 0 0 0,.ptr o1 0 0 0,.ptr o2 0 0 0] st (fun d st'=>d= .agg [.int .i64 r.1.code,.int .i64 r.1.index]∧st'=puts st [(o0,(.arr 0 1 0 [[.int .i64 r.2]])),(o1,(.arr 0 1 0 [[.bool RE]])),(o2,(.arr 0 1 0 [[.fn 81 [] [.ptr o0 0 0 0,.ptr o1 0 0 0,.ptr o2 0 0 0]]]))]):=by
 intro n
 induction n with
 |zero=>intro a0 a1 OQ RE r h;cases h
 |succ n ih=>
  intro a0 a1 OQ RE r h st o0 o1 o2 hnd Qr Sd Tz
  unfold PV at h
  have ho0:=OM Qr
  have ho1:=OM Sd
  have ho2:=OM Tz
  have fx:=fa (fa (fa (idf ho0) (idf ho1)) (idf ho2)) (nd3 hnd)
  refine fb 133 [.cell 7 25] [0,1,2,3,4,5,7,8,9,10,11,12,14,16,17,25,26,27,37,38,40,49,56,67,68,69,76,77,80,81,82,86,87,88,89,90,96,97,98,99,103,104,105,106,111,116,117,118,119,129] Tryz.func81 fun hsc=>?_
  refine SZ (s':=(OT st [(o0,(.arr 0 1 0 [[.int .i64 OQ]])),(o1,(.arr 0 1 0 [[.bool RE]])),(o2,(.arr 0 1 0 [[.fn 81 [] [.ptr o0 0 0 0,.ptr o1 0 0 0,.ptr o2 0 0 0]]]))])) (OW (by simp[Qr,Sd,Tz])) ?_
  refine cd h (fun hc h=>?_) fun hc h=>?_
  ·refine rn ?_
   obtain⟨v1,hv1,h⟩:=Rs h
   refine(Rt _ _ _ hv1 _ _ (by simp) (OZ.trans rfl)).mono ?_
   rintro d1 st1 ⟨rfl,rfl⟩
   refine rr ?_
   exact fuo (.agg [.int .i64 v1.code,.int .i64 v1.index]) (.same _) h hsc
  ·refine cl h (d4e _) fun v2 h=>?_
   refine rn ?_
   refine VN (RK (PV n) OQ a0 a1 RE) r (fun(gj0:Unit) (j0:Int)=>[(1,.int .i64 a1),(4,.ptr o2 0 0 0),(5,.ptr st.length 0 0 0),(7,.ptr (st.length+1) 0 0 0),(9,.fn 82 [] [.ptr (st.length+2) 0 0 0]),(10,.int .i64 j0)]) (fun(gj0:Unit) (j0:Int)=>(OT st [(o0,(.arr 0 1 0 [[.int .i64 (wr .i64 (OQ+1))]])),(o1,(.arr 0 1 0 [[.bool RE]])),(o2,(.arr 0 1 0 [[.fn 81 [] [.ptr o0 0 0 0,.ptr o1 0 0 0,.ptr o2 0 0 0]]]))])++[some (.arr 0 4 0 [[.int .i64 a0.kind,.str a0.name,.sl false 1 16 (rows OC a0.words),.sl false 4 72 (rows Ox.cells a0.subs)]]),some (.arr 0 2 0 [[.int .i64 0,.int .i64 0]]),some (.arr 0 1 0 [[.int .i64 OQ]])]) (fun gj0 j0 fr1 st1 h hb=>?_) (fun hj0=>?_)
   ·try simp only[go_sem,fx]
    unfold RK at h
    refine Rj hb ?_
    refine cd h (fun hc h=>?_) fun hc h=>?_
    ·refine rn ?_
     obtain⟨v3,hv3,h⟩:=Rs h
     refine(Rt _ _ _ hv3 _ _ (by simp) (OZ.trans rfl)).mono ?_
     rintro d1 st1 ⟨rfl,rfl⟩
     refine rr ?_
     exact fuo (.agg [.int .i64 v3.code,.int .i64 v3.index]) (.same _) h hsc
    ·refine rn ?_
     refine VN (QY (PV n) a0 j0 OQ a1 RE) r (fun(gj1:Unit) (j1:Bool)=>[(1,.int .i64 a1),(4,.ptr o2 0 0 0),(5,.ptr st.length 0 0 0),(7,.ptr (st.length+1) 0 0 0),(9,.fn 82 [] [.ptr (st.length+2) 0 0 0]),(10,.int .i64 j0),(11,.bool j1)]) (fun(gj1:Unit) (j1:Bool)=>(OT st [(o0,(.arr 0 1 0 [[.int .i64 (wr .i64 (OQ+1))]])),(o1,(.arr 0 1 0 [[.bool RE]])),(o2,(.arr 0 1 0 [[.fn 81 [] [.ptr o0 0 0 0,.ptr o1 0 0 0,.ptr o2 0 0 0]]]))])++[some (.arr 0 4 0 [[.int .i64 a0.kind,.str a0.name,.sl false 1 16 (rows OC a0.words),.sl false 4 72 (rows Ox.cells a0.subs)]]),some (.arr 0 2 0 [[.int .i64 0,.int .i64 0]]),some (.arr 0 1 0 [[.int .i64 OQ]])]) (fun gj1 j1 fr1 st1 h hb=>?_) (fun hj1=>?_)
     ·try simp only[go_sem,fx]
      unfold QY at h
      refine Rj hb ?_
      refine cd h (fun hc h=>?_) fun hc h=>?_
      ·refine rn ?_
       obtain⟨v4,hv4,h⟩:=Rs h
       refine(Rt _ _ _ hv4 _ _ (by simp) (OZ.trans rfl)).mono ?_
       rintro d1 st1 ⟨rfl,rfl⟩
       refine rr ?_
       exact fuo (.agg [.int .i64 v4.code,.int .i64 v4.index]) (.same _) h hsc
      ·refine rn ?_
       obtain⟨v5,hv5,h⟩:=Rs h
       refine TD (fun hG=>(Pj _ _ (d5D hv5 (by simpa using hG)))) ?_
       refine rn ?_
       obtain⟨v6,hv6,h⟩:=Rs h
       refine TD (fun hG=>(Xp _ _ (d5D hv6 (by simpa using hG)))) ?_
       refine cd h (fun hc h=>?_) fun hc h=>?_
       ·refine rn ?_
        obtain⟨v7,hv7,h⟩:=Rs h
        refine(Rt _ _ _ hv7 _ _ (by simp) (OZ.trans rfl)).mono ?_
        rintro d1 st1 ⟨rfl,rfl⟩
        refine rr ?_
        exact fuo (.agg [.int .i64 v7.code,.int .i64 v7.index]) (.same _) h hsc
       ·refine cd h (fun hc h=>?_) fun hc h=>?_
        ·refine rn ?_
         obtain⟨v8,hv8,h⟩:=Rs h
         refine(Rt _ _ _ hv8 _ _ (by simp) (OZ.trans rfl)).mono ?_
         rintro d1 st1 ⟨rfl,rfl⟩
         refine rr ?_
         exact fuo (.agg [.int .i64 v8.code,.int .i64 v8.index]) (.same _) h hsc
        ·refine aln 103 fun hl2=>?_
         refine rng (body:=Ul a0 OQ) (kk:=Um (PV n) a0 a1 RE OQ) (n:=a0.words.length) (s0:=())
          (fun(gs2:Unit) (k2:Nat) (s2:Unit)=>[(1,.int .i64 a1),(4,.ptr o2 0 0 0),(5,.ptr st.length 0 0 0),(7,.ptr (st.length+1) 0 0 0),(9,.fn 82 [] [.ptr (st.length+2) 0 0 0]),(103,.sl false 1 16 (rows OC a0.words)),(104,.int .i64 (↑a0.words.length:Int)),(105,.int .i64 (↑k2:Int))])
          (fun(gs2:Unit) (k2:Nat) (s2:Unit)=>(OT st [(o0,(.arr 0 1 0 [[.int .i64 (wr .i64 (OQ+1))]])),(o1,(.arr 0 1 0 [[.bool RE]])),(o2,(.arr 0 1 0 [[.fn 81 [] [.ptr o0 0 0 0,.ptr o1 0 0 0,.ptr o2 0 0 0]]]))])++[some (.arr 0 4 0 [[.int .i64 a0.kind,.str a0.name,.sl false 1 16 (rows OC a0.words),.sl false 4 72 (rows Ox.cells a0.subs)]]),some (.arr 0 2 0 [[.int .i64 0,.int .i64 0]]),some (.arr 0 1 0 [[.int .i64 OQ]])])
          (fun(gt2:Unit) (t2:Unit)=>[(1,.int .i64 a1),(4,.ptr o2 0 0 0),(5,.ptr st.length 0 0 0),(7,.ptr (st.length+1) 0 0 0)])
          (fun(gt2:Unit) (t2:Unit)=>(OT st [(o0,(.arr 0 1 0 [[.int .i64 (wr .i64 (OQ+1))]])),(o1,(.arr 0 1 0 [[.bool RE]])),(o2,(.arr 0 1 0 [[.fn 81 [] [.ptr o0 0 0 0,.ptr o1 0 0 0,.ptr o2 0 0 0]]]))])++[some (.arr 0 4 0 [[.int .i64 a0.kind,.str a0.name,.sl false 1 16 (rows OC a0.words),.sl false 4 72 (rows Ox.cells a0.subs)]]),some (.arr 0 2 0 [[.int .i64 0,.int .i64 0]])])
          () fx hl2 h (bu hsc)
          (fun gs2 k2 s2 b2 fx h hx2=>?_) (fun gs2 s2=>?_) (fun gt2 t2 fr1 st1 h hb=>?_)
         ·unfold Ul at h
          refine ct ?_
          refine cl h (Xp _) fun v9 h=>?_
          refine cd h (fun hc h=>?_) fun hc h=>?_
          ·refine rn ?_
           obtain⟨v10,hv10,h⟩:=Rs h
           refine(Rt _ _ _ hv10 _ _ (by simp) (OZ.trans rfl)).mono ?_
           rintro d1 st1 ⟨rfl,rfl⟩
           refine ra ?_
           cases h
           refine Qh ?_;have h:=congrArg some (hx2 _ rfl)
           refine rr ?_
           exact fuo (.agg [.int .i64 v10.code,.int .i64 v10.index]) (.same _) h hsc
          ·refine rn ?_
           cases h
           exact Vh () (bu hsc)
         ·refine cf ?_
          refine VK ?_;simp only[go_sem,fx]
          exact⟨(),(bu hsc)⟩
         ·try simp only[go_sem,fx]
          unfold Um at h
          refine Rj hb ?_
          refine aln 116 fun hl3=>?_
          refine rng (body:=Un (PV n) a0 a1 RE) (kk:=Uo) (n:=a0.subs.length) (s0:=(wr .i64 (OQ+1)))
           (fun(gs3:Unit) (k3:Nat) (s3:Int)=>[(1,.int .i64 a1),(4,.ptr o2 0 0 0),(7,.ptr (st.length+1) 0 0 0),(116,.sl false 4 72 (rows Ox.cells a0.subs)),(117,.int .i64 (↑a0.subs.length:Int)),(118,.int .i64 (↑k3:Int))])
           (fun(gs3:Unit) (k3:Nat) (s3:Int)=>(OT st [(o0,(.arr 0 1 0 [[.int .i64 s3]])),(o1,(.arr 0 1 0 [[.bool RE]])),(o2,(.arr 0 1 0 [[.fn 81 [] [.ptr o0 0 0 0,.ptr o1 0 0 0,.ptr o2 0 0 0]]]))])++[none,some (.arr 0 2 0 [[.int .i64 0,.int .i64 0]])])
           (fun(gt3:Unit) (t3:Int)=>[(7,.ptr (st.length+1) 0 0 0)])
           (fun(gt3:Unit) (t3:Int)=>(OT st [(o0,(.arr 0 1 0 [[.int .i64 t3]])),(o1,(.arr 0 1 0 [[.bool RE]])),(o2,(.arr 0 1 0 [[.fn 81 [] [.ptr o0 0 0 0,.ptr o1 0 0 0,.ptr o2 0 0 0]]]))])++[none,some (.arr 0 2 0 [[.int .i64 0,.int .i64 0]])])
           () fx hl3 h (bu hsc)
           (fun gs3 k3 s3 b3 fx h hx3=>?_) (fun gs3 s3=>?_) (fun gt3 t3 fr1 st1 h hb=>?_)
          ·unfold Un at h
           refine ct ?_
           refine rn ?_
           obtain⟨v12,hv12,h⟩:=Rs h
           refine(ih _ _ _ _ _ hv12 _ _ _ _ hnd (by simp only[go_sem,fx]) (by simp only[go_sem,fx]) (by simp only[go_sem,fx])).mono ?_
           rintro d1 st1 ⟨rfl,rfl⟩
           refine cd h (fun hc h=>?_) fun hc h=>?_
           ·refine ra ?_
            cases h
            refine Qh ?_;have h:=congrArg some (hx3 _ rfl)
            refine rr ?_
            exact fuo (.agg [.int .i64 v12.1.code,.int .i64 v12.1.index]) (.same _) h hsc
           ·refine rn ?_
            cases h
            exact Vh () (bu hsc)
          ·refine cf ?_
           refine VK ?_;simp only[go_sem,fx]
           exact⟨(),(bu hsc)⟩
          ·try simp only[go_sem,fx]
           unfold Uo at h
           refine Rj hb ?_
           refine rr ?_
           exact fuo (.agg [.int .i64 0,.int .i64 0]) (.same _) h hsc
     ·refine cd h (fun hc h=>?_) fun hc h=>?_
      ·refine r0 ?_
       refine hj1 () _ _ _ h ?_;exact(bu hsc)
      ·refine cd h (fun hc h=>?_) fun hc h=>?_
       ·refine r0 ?_
        refine hj1 () _ _ _ h ?_;exact(bu hsc)
       ·refine r0 ?_
        refine hj1 () _ _ _ h ?_;exact(bu hsc)
   ·refine cd h (fun hc h=>?_) fun hc h=>?_
    ·refine r0 ?_
     refine hj0 () _ _ _ h ?_;exact(bu hsc)
    ·refine r0 ?_
     refine hj0 () _ _ _ h ?_;exact(bu hsc)
theorem d3G(n:Nat)(a0:Ox)(a1:Bool)(r:OL)(h:XI n a0 a1=some r):Pure Tryz.prog gl 54 [.agg [.int .i64 a0.kind,.str a0.name,.sl false 1 16 (rows OC a0.words),.sl false 4 72 (rows Ox.cells a0.subs)],.bool a1] (.agg [.int .i64 r.code,.int .i64 r.index]):=by
 intro st
 unfold XI at h
 have fx:=trivial
 refine fb 11 [.cell 4 25] [0,1,2,3,4,5,6] Tryz.func54 fun hsc=>?_
 refine rn ?_
 obtain⟨v1,hv1,h⟩:=Rs h
 refine(d2d n _ _ _ _ _ hv1 _ _ _ _ (by simp) (XV.trans rfl) (XV.trans rfl) (XV.trans rfl)).mono ?_
 rintro d1 st1 ⟨rfl,rfl⟩
 exact rt
theorem Tv(n:Nat)(a0:Ox)(r:OL)(h:QV n a0=some r):Pure Tryz.prog gl 29 [.agg [.int .i64 a0.kind,.str a0.name,.sl false 1 16 (rows OC a0.words),.sl false 4 72 (rows Ox.cells a0.subs)]] (.agg [.int .i64 r.code,.int .i64 r.index]):=by
 intro st
 unfold QV at h
 have fx:=trivial
 refine fb 5 [.cell 2 25] [0,1,2] Tryz.func29 fun hsc=>?_
 refine cl h (d3G n _ _) fun v1 h=>?_
 exact rt
theorem Wv(a0:OG)(r:(List Bs))(h:Ts a0=some r):Pure Tryz.prog gl 50 [.agg [.int .i64 a0.form.kind,.str a0.form.name,.sl false 1 16 (rows OC a0.form.words),.sl false 4 72 (rows Ox.cells a0.form.subs),.sl false 1 16 (rows OC a0.words),.sl false 1 16 (rows OC a0.PA),.sl false 1 16 (rows OC a0.parts)]] (.sl false 1 16 (rows OC r)):=by
 intro st
 unfold Ts at h
 have fx:=trivial
 refine fb 11 [.tmp 2] [0,1,2] Tryz.func50 fun hsc=>?_
 refine cl h (d4y _) fun v2 h=>?_
 exact rt
theorem Qm(a0:Int)(a1:Int)(r:OL)(h:Qs a0 a1=some r):Pure Tryz.prog gl 51 [.int .i64 a0,.int .i64 a1] (.agg [.int .i64 r.code,.int .i64 r.index]):=by
 intro st
 unfold Qs at h
 have fx:=trivial
 refine fb 8 [.cell 4 25] [0,1,4] Tryz.func51 fun hsc=>?_
 exact rt
theorem Xy(a0:(List Bs))(a1:Bs)(r:Int)(h:Rk a0 a1=some r):Pure Tryz.prog gl 56 [.sl false 1 16 (rows OC a0),.str a1] (.int .i64 r):=by
 intro st
 unfold Rk at h
 have fx:=trivial
 refine fb 19 [.tmp 4] [0,1,4,5,7,8,9,16] Tryz.func56 fun hsc=>?_
 refine aln 0 fun hl0=>?_
 refine rng (body:=QE a1 a0) (kk:=QF) (n:=a0.length) (s0:=())
  (fun(gs0:Unit) (k0:Nat) (s0:Unit)=>[(0,.sl false 1 16 (rows OC a0)),(1,.str a1),(7,.int .i64 (↑a0.length:Int)),(8,.int .i64 (↑k0:Int))])
  (fun(gs0:Unit) (k0:Nat) (s0:Unit)=>st)
  (fun(gt0:Unit) (t0:Unit)=>[])
  (fun(gt0:Unit) (t0:Unit)=>st)
  () fx hl0 h (d1N hsc)
  (fun gs0 k0 s0 b0 fx h hx0=>?_) (fun gs0 s0=>?_) (fun gt0 t0 fr1 st1 h hb=>?_)
 ·unfold QE at h
  refine ct ?_
  refine cd h (fun hc h=>?_) fun hc h=>?_
  ·refine ra ?_
   cases h
   refine Qh ?_;have h:=congrArg some (hx0 _ rfl)
   exact rt
  ·refine rn ?_
   cases h
   exact Vh () (d1N hsc)
 ·refine cf ?_
  refine VK ?_;simp only[go_sem,fx]
  exact⟨(),(d1N hsc)⟩
 ·try simp only[go_sem,fx]
  unfold QF at h
  refine Rj hb ?_
  exact rt
theorem OH(a0:(List Bs))(a1:Bs)(r:Bool)(h:OE a0 a1=some r):Pure Tryz.prog gl 31 [.sl false 1 16 (rows OC a0),.str a1] (.bool r):=by
 intro st
 unfold OE at h
 have fx:=trivial
 refine fb 9 [.tmp 4] [0,1,4] Tryz.func31 fun hsc=>?_
 refine cl h (Xy _ _) fun v1 h=>?_
 exact rt
theorem ZL:∀(n:Nat) (a0:Ox) (a1:(List Bs)) (l1:(List Bs)) (r:(List Bs)) (h:Po n a0 a1 l1=some r),∀(st:St) (o0 o1 o2 q1:Nat) (hnd: [o0,o1,o2].Nodup) (Qr:Am.look st o0=some (.arr 0 1 0 [[.ref false o1 q1 0 l1.length]])) (Sd:Am.look st o1=some (.arr q1 1 16 (rows OC l1))) (Tz:Am.look st o2=some (.arr 0 1 0 [[.fn 78 [] [.ptr o0 0 0 0,.ptr o2 0 0 0]]])),Am.Spec Tryz.prog gl 78 [.agg [.int .i64 a0.kind,.str a0.name,.sl false 1 16 (rows OC a0.words),.sl false 4 72 (rows Ox.cells a0.subs)],.sl false 1 16 (rows OC a1),.ptr o0 0 0 0,.ptr o2 0 0 0] st (fun d st'=>∃zo1:Nat,d= .tup []∧st'=puts st [(o0,(.arr 0 1 0 [[.ref false o1 zo1 0 r.length]])),(o1,(.arr zo1 1 16 (rows OC r))),(o2,(.arr 0 1 0 [[.fn 78 [] [.ptr o0 0 0 0,.ptr o2 0 0 0]]]))]):=by
 intro n
 induction n with
 |zero=>intro a0 a1 l1 r h;cases h
 |succ n ih=>
  intro a0 a1 l1 r h st o0 o1 o2 q1 hnd Qr Sd Tz
  unfold Po at h
  have ho0:=OM Qr
  have ho1:=OM Sd
  have ho2:=OM Tz
  have fx:=fa (fa (fa (idf ho0) (idf ho1)) (idf ho2)) (nd3 hnd)
  refine fb 50 [] [0,1,2,3,4,7,9,11,12,13,14,20,27,39,40,41,42] Tryz.func78 fun hsc=>?_
  refine SZ (s':=(OT st [(o0,(.arr 0 1 0 [[.ref false o1 q1 0 l1.length]])),(o1,(.arr q1 1 16 (rows OC l1))),(o2,(.arr 0 1 0 [[.fn 78 [] [.ptr o0 0 0 0,.ptr o2 0 0 0]]]))])) (OW (by simp[Qr,Sd,Tz])) ?_
  refine aln 11 fun hl0=>?_
  refine rng (body:=Rf a1 a0) (kk:=Ri (Po n) a0 a1) (n:=a0.words.length) (s0:=l1)
   (fun(gs0:Nat) (k0:Nat) (s0:(List Bs))=>[(1,.sl false 1 16 (rows OC a1)),(2,.ptr o0 0 0 0),(3,.ptr o2 0 0 0),(4,.ptr st.length 0 0 0),(11,.sl false 1 16 (rows OC a0.words)),(12,.int .i64 (↑a0.words.length:Int)),(13,.int .i64 (↑k0:Int))])
   (fun(gs0:Nat) (k0:Nat) (s0:(List Bs))=>(OT st [(o0,(.arr 0 1 0 [[.ref false o1 gs0 0 s0.length]])),(o1,(.arr gs0 1 16 (rows OC s0))),(o2,(.arr 0 1 0 [[.fn 78 [] [.ptr o0 0 0 0,.ptr o2 0 0 0]]]))])++[some (.arr 0 4 0 [[.int .i64 a0.kind,.str a0.name,.sl false 1 16 (rows OC a0.words),.sl false 4 72 (rows Ox.cells a0.subs)]])])
   (fun(gt0:Nat) (t0:(List Bs))=>[(1,.sl false 1 16 (rows OC a1)),(3,.ptr o2 0 0 0),(4,.ptr st.length 0 0 0)])
   (fun(gt0:Nat) (t0:(List Bs))=>(OT st [(o0,(.arr 0 1 0 [[.ref false o1 gt0 0 t0.length]])),(o1,(.arr gt0 1 16 (rows OC t0))),(o2,(.arr 0 1 0 [[.fn 78 [] [.ptr o0 0 0 0,.ptr o2 0 0 0]]]))])++[some (.arr 0 4 0 [[.int .i64 a0.kind,.str a0.name,.sl false 1 16 (rows OC a0.words),.sl false 4 72 (rows Ox.cells a0.subs)]])])
   q1 fx hl0 h (bu hsc)
   (fun gs0 k0 s0 b0 fx h hx0=>?_) (fun gs0 s0=>?_) (fun gt0 t0 fr1 st1 h hb=>?_)
  ·unfold Rf at h
   refine ct ?_
   refine cl h (OH _ _) fun v8 h=>?_
   refine cd h (fun hc h=>?_) fun hc h=>?_
   ·obtain⟨c10,i2f,h⟩:=Xg h
    have fy:=(show rows OC s0++[[.str (get a0.words k0)]]=rows OC c10 from by rw[i2f];first|exact Pp (E:=OC) s0 [(get a0.words k0)]|simp only[go_sem,rows,List.map_append,List.map_cons,List.map_nil])
    have fy:=fa fy (show s0.length+1=c10.length from by rw[i2f];simp)
    obtain⟨fx,h⟩:=ck fx h
    refine r1 ?_
    refine rn ?_
    cases h
    exact Vh (gs0+1) (bu hsc)
   ·refine rn ?_
    cases h
    exact Vh gs0 (bu hsc)
  ·refine cf ?_
   refine VK ?_;simp only[go_sem,fx]
   exact⟨gs0,(bu hsc)⟩
  ·try simp only[go_sem,fx]
   unfold Ri at h
   refine Rj hb ?_
   refine cl h (Pj _) fun v15 h=>?_
   refine rn ?_
   refine VN (PF (Po n) a0 t0) r (fun(gj1:Unit) (j1:(List Bs))=>[(1,.sl false 1 16 (rows OC j1)),(3,.ptr o2 0 0 0),(4,.ptr st.length 0 0 0)]) (fun(gj1:Unit) (j1:(List Bs))=>(OT st [(o0,(.arr 0 1 0 [[.ref false o1 gt0 0 t0.length]])),(o1,(.arr gt0 1 16 (rows OC t0))),(o2,(.arr 0 1 0 [[.fn 78 [] [.ptr o0 0 0 0,.ptr o2 0 0 0]]]))])++[some (.arr 0 4 0 [[.int .i64 a0.kind,.str a0.name,.sl false 1 16 (rows OC a0.words),.sl false 4 72 (rows Ox.cells a0.subs)]])]) (fun gj1 j1 fr1 st1 h hb=>?_) (fun hj1=>?_)
   ·try simp only[go_sem,fx]
    unfold PF at h
    refine Rj hb ?_
    refine aln 39 fun hl2=>?_
    refine rng (body:=Rg (Po n) a0 j1) (kk:=Rh) (n:=a0.subs.length) (s0:=t0)
     (fun(gs2:Nat) (k2:Nat) (s2:(List Bs))=>[(1,.sl false 1 16 (rows OC j1)),(3,.ptr o2 0 0 0),(39,.sl false 4 72 (rows Ox.cells a0.subs)),(40,.int .i64 (↑a0.subs.length:Int)),(41,.int .i64 (↑k2:Int))])
     (fun(gs2:Nat) (k2:Nat) (s2:(List Bs))=>(OT st [(o0,(.arr 0 1 0 [[.ref false o1 gs2 0 s2.length]])),(o1,(.arr gs2 1 16 (rows OC s2))),(o2,(.arr 0 1 0 [[.fn 78 [] [.ptr o0 0 0 0,.ptr o2 0 0 0]]]))]))
     (fun(gt2:Nat) (t2:(List Bs))=>[])
     (fun(gt2:Nat) (t2:(List Bs))=>(OT st [(o0,(.arr 0 1 0 [[.ref false o1 gt2 0 t2.length]])),(o1,(.arr gt2 1 16 (rows OC t2))),(o2,(.arr 0 1 0 [[.fn 78 [] [.ptr o0 0 0 0,.ptr o2 0 0 0]]]))]))
     gt0 fx hl2 h (bu0 hsc)
     (fun gs2 k2 s2 b2 fx h hx2=>?_) (fun gs2 s2=>?_) (fun gt2 t2 fr1 st1 h hb=>?_)
    ·unfold Rg at h
     refine ct ?_
     refine rn ?_
     obtain⟨v26,hv26,h⟩:=Rs h
     refine(ih _ _ _ _ hv26 _ _ _ _ gs2 hnd (by simp only[go_sem,fx]) (by simp only[go_sem,fx]) (by simp only[go_sem,fx])).mono ?_
     rintro d1 st1 ⟨g27,rfl,rfl⟩
     refine rn ?_
     cases h
     exact Vh g27 (bu0 hsc)
    ·refine cf ?_
     refine VK ?_;simp only[go_sem,fx]
     exact⟨gs2,(i0V hsc)⟩
    ·try simp only[go_sem,fx]
     unfold Rh at h
     refine d2q hb ?_
     refine rr ?_
     exact fus (.tup []) (.same _) h hsc (hr:=by rintro rfl;exact⟨gt2,rfl,rfl⟩)
   ·refine cd h (fun hc h=>?_) fun hc h=>?_
    ·refine rs ?_
     obtain⟨fx,h⟩:=ck fx h
     obtain⟨c19,p0G,h⟩:=Xg h
     have fy:=(show rows OC a1++[[.str a0.name]]=rows OC c19 from by rw[p0G];first|exact Pp (E:=OC) a1 [a0.name]|simp only[go_sem,rows,List.map_append,List.map_cons,List.map_nil])
     have fy:=fa fy (show a1.length+1=c19.length from by rw[p0G];simp)
     obtain⟨fx,h⟩:=ck fx h
     refine dwy [] 2 ?_
     refine hj1 () _ _ _ h ?_;exact(bu hsc (hf:=⟨.ref _ _ _ _ _ _ _ _ _ (Pa.trans rfl) (VU (by first|decide|simp)) (by decide) (YP _) (by simp only[go_sem]),.s,.s,trivial⟩))
    ·refine r0 ?_
     refine hj1 () _ _ _ h ?_;exact(bu hsc)
end Go.Proofs.YtfacbpehlibilaaGreatDoor
