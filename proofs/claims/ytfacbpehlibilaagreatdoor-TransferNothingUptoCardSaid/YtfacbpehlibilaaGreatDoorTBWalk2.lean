import Derived.Test.YtfacbpehlibilaaGreatDoorTBWalk1
set_option linter.unusedVariables false
set_option linter.unusedSimpArgs false
set_option maxHeartbeats 2000000
set_option maxRecDepth 100000
namespace Go.Proofs.YtfacbpehlibilaaGreatDoor
open Go Go.Am
theorem d1A(n:Nat)(a0:OG)(r:(List (Bs×(List Bs))))(h:Ya n a0=some r):∀st:St,Am.Spec Tryz.prog gl 57 [.agg [.int .i64 a0.form.kind,.str a0.form.name,.sl false 1 16 (rows OC a0.form.words),.sl false 4 72 (rows Ox.cells a0.form.subs),.sl false 1 16 (rows OC a0.words),.sl false 1 16 (rows OC a0.PA),.sl false 1 16 (rows OC a0.parts)]] st (fun d st'=>d= .mp (st.length+1)∧st'=st++[none,some (.mps false (mrw (slc 1 16 OC) r))]):=by
 intro st
 unfold Ya at h
 have fx:=trivial
 refine fb 12 [.tmp 2] [0,1,2,3,4] Tryz.func57 fun hsc=>?_
 refine rn ?_
 obtain⟨v1,hv1,h⟩:=Rs h
 refine((d0V n _ _ _ _ _ _ _ _ _ _ _ hv1 _ _ _ _ _ (by simp) (Wq.trans rfl) (XV.trans rfl) (XV.trans rfl) (XV.trans rfl)).up (.cons _ _ _ _ .s (.cons _ _ _ _ (.OI _ _ _ (by decide)) (.cons _ _ _ _ .s (.cons _ _ _ _ .s (.cons _ _ _ _ .s .nil))))) (by simp<;>omega)).mono ?_
 rintro d1 st1 ⟨rfl,rfl⟩
 refine rr ?_
 exact fnw [none,some (.mps false (mrw (slc 1 16 OC) []))] (.mp (st.length+1)) (.same _) h hsc
theorem ZN(OP:(Ox)→((List Bs))→(Int)→(Bs)→((List Bs))→((List Ox))→((List Bs))→((List Bs))→((List Bs))→(Int)→(Bs)→((List Bs))→((List Ox))→((List (Bs×(List Bs))))→((List Bs))→Option (Bool))(QW:∀(a0:Ox) (a1:(List Bs)) (OQ:Int) (Qo:Bs) (Qp:(List Bs)) (Ph:(List Ox)) (Qi:(List Bs)) (Qn:(List Bs)) (Qq:(List Bs)) (Ub:Int) (Uc:Bs) (Ud:(List Bs)) (Qa:(List Ox)) (m2:(List (Bs×(List Bs)))) (RY:(List Bs)) (r:Bool) (h:OP a0 a1 OQ Qo Qp Ph Qi Qn Qq Ub Uc Ud Qa m2 RY=some r),∀(st:St) (o0 o1 o2 o3 o4:Nat) (hnd: [o0,o1,o2,o3,o4].Nodup) (Qr:Am.look st o0=some (.arr 0 11 0 [[.int .i64 OQ,.str Qo,.sl false 1 16 (rows OC Qp),.sl false 4 72 (rows Ox.cells Ph),.sl false 1 16 (rows OC Qi),.sl false 1 16 (rows OC Qn),.sl false 1 16 (rows OC Qq),.int .i64 Ub,.str Uc,.sl false 1 16 (rows OC Ud),.sl false 4 72 (rows Ox.cells Qa)]])) (Sd:Am.look st o1=some (.arr 0 1 0 [[.mp o2]])) (Tz:Am.look st o2=some (.mps false (mrw (slc 1 16 OC) m2))) (Yd:Am.look st o3=some (.arr 0 1 0 [[.sl false 1 16 (rows OC RY)]])) (d0W:Am.look st o4=some (.arr 0 1 0 [[.fn 58 [] [.ptr o0 0 0 0,.ptr o1 0 0 0,.ptr o3 0 0 0,.ptr o4 0 0 0]]])),Am.Spec Tryz.prog gl 58 [.agg [.int .i64 a0.kind,.str a0.name,.sl false 1 16 (rows OC a0.words),.sl false 4 72 (rows Ox.cells a0.subs)],.sl false 1 16 (rows OC a1),.ptr o0 0 0 0,.ptr o1 0 0 0,.ptr o3 0 0 0,.ptr o4 0 0 0] st (fun d st'=>d= .bool r∧st'=puts st []))(a0:Ox)(RE:Int)(d3I:Bs)(d3J:(List Bs))(d3K:(List Ox))(d3L:(List Bs))(d3M:(List Bs))(d3N:(List Bs))(d3O:Int)(d3P:Bs)(d3Q:(List Bs))(Xx:(List Ox))(m3:(List (Bs×(List Bs))))(RF:(List Bs))(Sv:(List Bs))(r:Bool)(h:VZ OP a0 RE d3I d3J d3K d3L d3M d3N d3O d3P d3Q Xx m3 RF Sv=some r):∀(st:St) (o0 o1 o2 o3 o4 o5:Nat) (hnd: [o0,o1,o2,o3,o4,o5].Nodup) (Qr:Am.look st o0=some (.arr 0 1 0 [[.fn 58 [] [.ptr o1 0 0 0,.ptr o2 0 0 0,.ptr o4 0 0 0,.ptr o0 0 0 0]]])) (Sd:Am.look st o1=some (.arr 0 11 0 [[.int .i64 RE,.str d3I,.sl false 1 16 (rows OC d3J),.sl false 4 72 (rows Ox.cells d3K),.sl false 1 16 (rows OC d3L),.sl false 1 16 (rows OC d3M),.sl false 1 16 (rows OC d3N),.int .i64 d3O,.str d3P,.sl false 1 16 (rows OC d3Q),.sl false 4 72 (rows Ox.cells Xx)]])) (Tz:Am.look st o2=some (.arr 0 1 0 [[.mp o3]])) (Yd:Am.look st o3=some (.mps false (mrw (slc 1 16 OC) m3))) (d0W:Am.look st o4=some (.arr 0 1 0 [[.sl false 1 16 (rows OC RF)]])) (d5C:Am.look st o5=some (.arr 0 1 0 [[.sl false 1 16 (rows OC Sv)]])),Am.Spec Tryz.prog gl 61 [.agg [.int .i64 a0.kind,.str a0.name,.sl false 1 16 (rows OC a0.words),.sl false 4 72 (rows Ox.cells a0.subs)],.ptr o0 0 0 0,.ptr o5 0 0 0] st (fun d st'=>d= .bool r∧st'=puts st []):=by
 intro st o0 o1 o2 o3 o4 o5 hnd Qr Sd Tz Yd d0W d5C
 unfold VZ at h
 have ho0:=OM Qr
 have ho1:=OM Sd
 have ho2:=OM Tz
 have ho3:=OM Yd
 have ho4:=OM d0W
 have ho5:=OM d5C
 have fx:=fa (fa (fa (fa (fa (fa (idf ho0) (idf ho1)) (idf ho2)) (idf ho3)) (idf ho4)) (idf ho5)) (nd6 hnd)
 refine fb 9 [.tmp 4] [0,1,2,3,4] Tryz.func61 fun hsc=>?_
 refine SZ (s':=(OT st [(o0,(.arr 0 1 0 [[.fn 58 [] [.ptr o1 0 0 0,.ptr o2 0 0 0,.ptr o4 0 0 0,.ptr o0 0 0 0]]])),(o1,(.arr 0 11 0 [[.int .i64 RE,.str d3I,.sl false 1 16 (rows OC d3J),.sl false 4 72 (rows Ox.cells d3K),.sl false 1 16 (rows OC d3L),.sl false 1 16 (rows OC d3M),.sl false 1 16 (rows OC d3N),.int .i64 d3O,.str d3P,.sl false 1 16 (rows OC d3Q),.sl false 4 72 (rows Ox.cells Xx)]])),(o2,(.arr 0 1 0 [[.mp o3]])),(o3,(.mps false (mrw (slc 1 16 OC) m3))),(o4,(.arr 0 1 0 [[.sl false 1 16 (rows OC RF)]])),(o5,(.arr 0 1 0 [[.sl false 1 16 (rows OC Sv)]]))])) (OW (by simp[Qr,Sd,Tz,Yd,d0W,d5C])) ?_
 refine rn ?_
 obtain⟨v1,hv1,h⟩:=Rs h
 refine(QW _ _ _ _ _ _ _ _ _ _ _ _ _ _ _ _ hv1 _ o1 o2 o3 o4 o0 (by simp[fx]<;>omega) (by simp only[go_sem,fx]) (by simp only[go_sem,fx]) (by simp only[go_sem,fx]) (by simp only[go_sem,fx]) (by simp only[go_sem,fx])).mono ?_
 rintro d1 st1 ⟨rfl,rfl⟩
 refine rr ?_
 exact fuo (.bool v1) (.same _) h hsc (hr:=by rintro rfl;exact⟨rfl,OW (by simp[Qr,Sd,Tz,Yd,d0W,d5C])⟩)
theorem VL(OP:(Ox)→((List Bs))→(Int)→(Bs)→((List Bs))→((List Ox))→((List Bs))→((List Bs))→((List Bs))→(Int)→(Bs)→((List Bs))→((List Ox))→((List (Bs×(List Bs))))→((List Bs))→Option (Bool))(QW:∀(a0:Ox) (a1:(List Bs)) (OQ:Int) (Qo:Bs) (Qp:(List Bs)) (Ph:(List Ox)) (Qi:(List Bs)) (Qn:(List Bs)) (Qq:(List Bs)) (Ub:Int) (Uc:Bs) (Ud:(List Bs)) (Qa:(List Ox)) (m2:(List (Bs×(List Bs)))) (RY:(List Bs)) (r:Bool) (h:OP a0 a1 OQ Qo Qp Ph Qi Qn Qq Ub Uc Ud Qa m2 RY=some r),∀(st:St) (o0 o1 o2 o3 o4:Nat) (hnd: [o0,o1,o2,o3,o4].Nodup) (Qr:Am.look st o0=some (.arr 0 11 0 [[.int .i64 OQ,.str Qo,.sl false 1 16 (rows OC Qp),.sl false 4 72 (rows Ox.cells Ph),.sl false 1 16 (rows OC Qi),.sl false 1 16 (rows OC Qn),.sl false 1 16 (rows OC Qq),.int .i64 Ub,.str Uc,.sl false 1 16 (rows OC Ud),.sl false 4 72 (rows Ox.cells Qa)]])) (Sd:Am.look st o1=some (.arr 0 1 0 [[.mp o2]])) (Tz:Am.look st o2=some (.mps false (mrw (slc 1 16 OC) m2))) (Yd:Am.look st o3=some (.arr 0 1 0 [[.sl false 1 16 (rows OC RY)]])) (d0W:Am.look st o4=some (.arr 0 1 0 [[.fn 58 [] [.ptr o0 0 0 0,.ptr o1 0 0 0,.ptr o3 0 0 0,.ptr o4 0 0 0]]])),Am.Spec Tryz.prog gl 58 [.agg [.int .i64 a0.kind,.str a0.name,.sl false 1 16 (rows OC a0.words),.sl false 4 72 (rows Ox.cells a0.subs)],.sl false 1 16 (rows OC a1),.ptr o0 0 0 0,.ptr o1 0 0 0,.ptr o3 0 0 0,.ptr o4 0 0 0] st (fun d st'=>d= .bool r∧st'=puts st []))(a0:(List Ox))(RE:Int)(d3I:Bs)(d3J:(List Bs))(d3K:(List Ox))(d3L:(List Bs))(d3M:(List Bs))(d3N:(List Bs))(d3O:Int)(d3P:Bs)(d3Q:(List Bs))(Xx:(List Ox))(m3:(List (Bs×(List Bs))))(RF:(List Bs))(Sv:(List Bs))(r:Int)(h:QZ OP a0 RE d3I d3J d3K d3L d3M d3N d3O d3P d3Q Xx m3 RF Sv=some r):∀(st:St) (o0 o1 o2 o3 o4 o5:Nat) (hnd: [o0,o1,o2,o3,o4,o5].Nodup) (Qr:Am.look st o0=some (.arr 0 1 0 [[.fn 58 [] [.ptr o1 0 0 0,.ptr o2 0 0 0,.ptr o4 0 0 0,.ptr o0 0 0 0]]])) (Sd:Am.look st o1=some (.arr 0 11 0 [[.int .i64 RE,.str d3I,.sl false 1 16 (rows OC d3J),.sl false 4 72 (rows Ox.cells d3K),.sl false 1 16 (rows OC d3L),.sl false 1 16 (rows OC d3M),.sl false 1 16 (rows OC d3N),.int .i64 d3O,.str d3P,.sl false 1 16 (rows OC d3Q),.sl false 4 72 (rows Ox.cells Xx)]])) (Tz:Am.look st o2=some (.arr 0 1 0 [[.mp o3]])) (Yd:Am.look st o3=some (.mps false (mrw (slc 1 16 OC) m3))) (d0W:Am.look st o4=some (.arr 0 1 0 [[.sl false 1 16 (rows OC RF)]])) (d5C:Am.look st o5=some (.arr 0 1 0 [[.sl false 1 16 (rows OC Sv)]])),Am.Spec Tryz.prog gl 87 [.sl false 4 72 (rows Ox.cells a0),.fn 61 [] [.ptr o0 0 0 0,.ptr o5 0 0 0]] st (fun d st'=>d= .int .i64 r∧st'=puts st []):=by
 intro st o0 o1 o2 o3 o4 o5 hnd Qr Sd Tz Yd d0W d5C
 unfold QZ at h
 have ho0:=OM Qr
 have ho1:=OM Sd
 have ho2:=OM Tz
 have ho3:=OM Yd
 have ho4:=OM d0W
 have ho5:=OM d5C
 have fx:=fa (fa (fa (fa (fa (fa (idf ho0) (idf ho1)) (idf ho2)) (idf ho3)) (idf ho4)) (idf ho5)) (nd6 hnd)
 refine fb 19 [.tmp 4] [0,1,4,5,7,8,9,16] Tryz.func87 fun hsc=>?_
 refine SZ (s':=(OT st [(o0,(.arr 0 1 0 [[.fn 58 [] [.ptr o1 0 0 0,.ptr o2 0 0 0,.ptr o4 0 0 0,.ptr o0 0 0 0]]])),(o1,(.arr 0 11 0 [[.int .i64 RE,.str d3I,.sl false 1 16 (rows OC d3J),.sl false 4 72 (rows Ox.cells d3K),.sl false 1 16 (rows OC d3L),.sl false 1 16 (rows OC d3M),.sl false 1 16 (rows OC d3N),.int .i64 d3O,.str d3P,.sl false 1 16 (rows OC d3Q),.sl false 4 72 (rows Ox.cells Xx)]])),(o2,(.arr 0 1 0 [[.mp o3]])),(o3,(.mps false (mrw (slc 1 16 OC) m3))),(o4,(.arr 0 1 0 [[.sl false 1 16 (rows OC RF)]])),(o5,(.arr 0 1 0 [[.sl false 1 16 (rows OC Sv)]]))])) (OW (by simp[Qr,Sd,Tz,Yd,d0W,d5C])) ?_
 refine aln 0 fun hl0=>?_
 refine rng (body:=QA OP a0 RE d3I d3J d3K d3L d3M d3N d3O d3P d3Q Xx m3 RF Sv) (kk:=QB) (n:=a0.length) (s0:=())
  (fun(gs0:Unit) (k0:Nat) (s0:Unit)=>[(0,.sl false 4 72 (rows Ox.cells a0)),(1,.fn 61 [] [.ptr o0 0 0 0,.ptr o5 0 0 0]),(7,.int .i64 (↑a0.length:Int)),(8,.int .i64 (↑k0:Int))])
  (fun(gs0:Unit) (k0:Nat) (s0:Unit)=>(OT st [(o0,(.arr 0 1 0 [[.fn 58 [] [.ptr o1 0 0 0,.ptr o2 0 0 0,.ptr o4 0 0 0,.ptr o0 0 0 0]]])),(o1,(.arr 0 11 0 [[.int .i64 RE,.str d3I,.sl false 1 16 (rows OC d3J),.sl false 4 72 (rows Ox.cells d3K),.sl false 1 16 (rows OC d3L),.sl false 1 16 (rows OC d3M),.sl false 1 16 (rows OC d3N),.int .i64 d3O,.str d3P,.sl false 1 16 (rows OC d3Q),.sl false 4 72 (rows Ox.cells Xx)]])),(o2,(.arr 0 1 0 [[.mp o3]])),(o3,(.mps false (mrw (slc 1 16 OC) m3))),(o4,(.arr 0 1 0 [[.sl false 1 16 (rows OC RF)]])),(o5,(.arr 0 1 0 [[.sl false 1 16 (rows OC Sv)]]))]))
  (fun(gt0:Unit) (t0:Unit)=>[])
  (fun(gt0:Unit) (t0:Unit)=>(OT st [(o0,(.arr 0 1 0 [[.fn 58 [] [.ptr o1 0 0 0,.ptr o2 0 0 0,.ptr o4 0 0 0,.ptr o0 0 0 0]]])),(o1,(.arr 0 11 0 [[.int .i64 RE,.str d3I,.sl false 1 16 (rows OC d3J),.sl false 4 72 (rows Ox.cells d3K),.sl false 1 16 (rows OC d3L),.sl false 1 16 (rows OC d3M),.sl false 1 16 (rows OC d3N),.int .i64 d3O,.str d3P,.sl false 1 16 (rows OC d3Q),.sl false 4 72 (rows Ox.cells Xx)]])),(o2,(.arr 0 1 0 [[.mp o3]])),(o3,(.mps false (mrw (slc 1 16 OC) m3))),(o4,(.arr 0 1 0 [[.sl false 1 16 (rows OC RF)]])),(o5,(.arr 0 1 0 [[.sl false 1 16 (rows OC Sv)]]))]))
  () fx hl0 h (i0V hsc)
  (fun gs0 k0 s0 b0 fx h hx0=>?_) (fun gs0 s0=>?_) (fun gt0 t0 fr1 st1 h hb=>?_)
 ·unfold QA at h
  refine ct ?_
  refine rn ?_
  obtain⟨v1,hv1,h⟩:=Rs h
  refine(ZN OP QW _ _ _ _ _ _ _ _ _ _ _ _ _ _ _ _ hv1 _ _ _ _ _ _ _ hnd (by simp only[go_sem,fx]) (by simp only[go_sem,fx]) (by simp only[go_sem,fx]) (by simp only[go_sem,fx]) (by simp only[go_sem,fx]) (by simp only[go_sem,fx])).mono ?_
  rintro d1 st1 ⟨rfl,rfl⟩
  refine cd h (fun hc h=>?_) fun hc h=>?_
  ·refine ra ?_
   cases h
   refine Qh ?_;have h:=congrArg some (hx0 _ rfl)
   refine rr ?_
   exact fus (.int .i64 (↑k0:Int)) (.same _) h hsc (hr:=by rintro rfl;exact⟨rfl,OW (by simp[Qr,Sd,Tz,Yd,d0W,d5C])⟩)
  ·refine rn ?_
   cases h
   exact Vh () (i0V hsc)
 ·refine cf ?_
  refine VK ?_;simp only[go_sem,fx]
  exact⟨(),(i0V hsc)⟩
 ·try simp only[go_sem,fx]
  unfold QB at h
  refine Rj hb ?_
  refine rr ?_
  exact fus (.int .i64 (-1)) (.same _) h hsc (hr:=by rintro rfl;exact⟨rfl,OW (by simp[Qr,Sd,Tz,Yd,d0W,d5C])⟩)
theorem UM(OP:(Ox)→((List Bs))→(Int)→(Bs)→((List Bs))→((List Ox))→((List Bs))→((List Bs))→((List Bs))→(Int)→(Bs)→((List Bs))→((List Ox))→((List (Bs×(List Bs))))→((List Bs))→Option (Bool))(QW:∀(a0:Ox) (a1:(List Bs)) (OQ:Int) (Qo:Bs) (Qp:(List Bs)) (Ph:(List Ox)) (Qi:(List Bs)) (Qn:(List Bs)) (Qq:(List Bs)) (Ub:Int) (Uc:Bs) (Ud:(List Bs)) (Qa:(List Ox)) (m2:(List (Bs×(List Bs)))) (RY:(List Bs)) (r:Bool) (h:OP a0 a1 OQ Qo Qp Ph Qi Qn Qq Ub Uc Ud Qa m2 RY=some r),∀(st:St) (o0 o1 o2 o3 o4:Nat) (hnd: [o0,o1,o2,o3,o4].Nodup) (Qr:Am.look st o0=some (.arr 0 11 0 [[.int .i64 OQ,.str Qo,.sl false 1 16 (rows OC Qp),.sl false 4 72 (rows Ox.cells Ph),.sl false 1 16 (rows OC Qi),.sl false 1 16 (rows OC Qn),.sl false 1 16 (rows OC Qq),.int .i64 Ub,.str Uc,.sl false 1 16 (rows OC Ud),.sl false 4 72 (rows Ox.cells Qa)]])) (Sd:Am.look st o1=some (.arr 0 1 0 [[.mp o2]])) (Tz:Am.look st o2=some (.mps false (mrw (slc 1 16 OC) m2))) (Yd:Am.look st o3=some (.arr 0 1 0 [[.sl false 1 16 (rows OC RY)]])) (d0W:Am.look st o4=some (.arr 0 1 0 [[.fn 58 [] [.ptr o0 0 0 0,.ptr o1 0 0 0,.ptr o3 0 0 0,.ptr o4 0 0 0]]])),Am.Spec Tryz.prog gl 58 [.agg [.int .i64 a0.kind,.str a0.name,.sl false 1 16 (rows OC a0.words),.sl false 4 72 (rows Ox.cells a0.subs)],.sl false 1 16 (rows OC a1),.ptr o0 0 0 0,.ptr o1 0 0 0,.ptr o3 0 0 0,.ptr o4 0 0 0] st (fun d st'=>d= .bool r∧st'=puts st []))(a0:(List Ox))(RE:Int)(d3I:Bs)(d3J:(List Bs))(d3K:(List Ox))(d3L:(List Bs))(d3M:(List Bs))(d3N:(List Bs))(d3O:Int)(d3P:Bs)(d3Q:(List Bs))(Xx:(List Ox))(m3:(List (Bs×(List Bs))))(RF:(List Bs))(Sv:(List Bs))(r:Bool)(h:QC OP a0 RE d3I d3J d3K d3L d3M d3N d3O d3P d3Q Xx m3 RF Sv=some r):∀(st:St) (o0 o1 o2 o3 o4 o5:Nat) (hnd: [o0,o1,o2,o3,o4,o5].Nodup) (Qr:Am.look st o0=some (.arr 0 1 0 [[.fn 58 [] [.ptr o1 0 0 0,.ptr o2 0 0 0,.ptr o4 0 0 0,.ptr o0 0 0 0]]])) (Sd:Am.look st o1=some (.arr 0 11 0 [[.int .i64 RE,.str d3I,.sl false 1 16 (rows OC d3J),.sl false 4 72 (rows Ox.cells d3K),.sl false 1 16 (rows OC d3L),.sl false 1 16 (rows OC d3M),.sl false 1 16 (rows OC d3N),.int .i64 d3O,.str d3P,.sl false 1 16 (rows OC d3Q),.sl false 4 72 (rows Ox.cells Xx)]])) (Tz:Am.look st o2=some (.arr 0 1 0 [[.mp o3]])) (Yd:Am.look st o3=some (.mps false (mrw (slc 1 16 OC) m3))) (d0W:Am.look st o4=some (.arr 0 1 0 [[.sl false 1 16 (rows OC RF)]])) (d5C:Am.look st o5=some (.arr 0 1 0 [[.sl false 1 16 (rows OC Sv)]])),Am.Spec Tryz.prog gl 60 [.sl false 4 72 (rows Ox.cells a0),.fn 61 [] [.ptr o0 0 0 0,.ptr o5 0 0 0]] st (fun d st'=>d= .bool r∧st'=puts st []):=by
 intro st o0 o1 o2 o3 o4 o5 hnd Qr Sd Tz Yd d0W d5C
 unfold QC at h
 have ho0:=OM Qr
 have ho1:=OM Sd
 have ho2:=OM Tz
 have ho3:=OM Yd
 have ho4:=OM d0W
 have ho5:=OM d5C
 have fx:=fa (fa (fa (fa (fa (fa (idf ho0) (idf ho1)) (idf ho2)) (idf ho3)) (idf ho4)) (idf ho5)) (nd6 hnd)
 refine fb 9 [.tmp 4] [0,1,4] Tryz.func60 fun hsc=>?_
 refine SZ (s':=(OT st [(o0,(.arr 0 1 0 [[.fn 58 [] [.ptr o1 0 0 0,.ptr o2 0 0 0,.ptr o4 0 0 0,.ptr o0 0 0 0]]])),(o1,(.arr 0 11 0 [[.int .i64 RE,.str d3I,.sl false 1 16 (rows OC d3J),.sl false 4 72 (rows Ox.cells d3K),.sl false 1 16 (rows OC d3L),.sl false 1 16 (rows OC d3M),.sl false 1 16 (rows OC d3N),.int .i64 d3O,.str d3P,.sl false 1 16 (rows OC d3Q),.sl false 4 72 (rows Ox.cells Xx)]])),(o2,(.arr 0 1 0 [[.mp o3]])),(o3,(.mps false (mrw (slc 1 16 OC) m3))),(o4,(.arr 0 1 0 [[.sl false 1 16 (rows OC RF)]])),(o5,(.arr 0 1 0 [[.sl false 1 16 (rows OC Sv)]]))])) (OW (by simp[Qr,Sd,Tz,Yd,d0W,d5C])) ?_
 refine rn ?_
 obtain⟨v1,hv1,h⟩:=Rs h
 refine(VL OP QW _ _ _ _ _ _ _ _ _ _ _ _ _ _ _ _ hv1 _ _ _ _ _ _ _ hnd (by simp only[go_sem,fx]) (by simp only[go_sem,fx]) (by simp only[go_sem,fx]) (by simp only[go_sem,fx]) (by simp only[go_sem,fx]) (by simp only[go_sem,fx])).mono ?_
 rintro d1 st1 ⟨rfl,rfl⟩
 refine rr ?_
 exact fus (.bool (decide (0≤v1))) (.same _) h hsc (hr:=by rintro rfl;exact⟨rfl,OW (by simp[Qr,Sd,Tz,Yd,d0W,d5C])⟩)
theorem d0k:∀(n:Nat) (a0:Ox) (a1:(List Bs)) (OQ:Int) (Qo:Bs) (Qp:(List Bs)) (Ph:(List Ox)) (Qi:(List Bs)) (Qn:(List Bs)) (Qq:(List Bs)) (Ub:Int) (Uc:Bs) (Ud:(List Bs)) (Qa:(List Ox)) (m2:(List (Bs×(List Bs)))) (RY:(List Bs)) (r:Bool) (h:PU n a0 a1 OQ Qo Qp Ph Qi Qn Qq Ub Uc Ud Qa m2 RY=some r),∀(st:St) (o0 o1 o2 o3 o4:Nat) (hnd: [o0,o1,o2,o3,o4].Nodup) (Qr:Am.look st o0=some (.arr 0 11 0 [[.int .i64 OQ,.str Qo,.sl false 1 16 (rows OC Qp),.sl false 4 72 (rows Ox.cells Ph),.sl false 1 16 (rows OC Qi),.sl false 1 16 (rows OC Qn),.sl false 1 16 (rows OC Qq),.int .i64 Ub,.str Uc,.sl false 1 16 (rows OC Ud),.sl false 4 72 (rows Ox.cells Qa)]])) (Sd:Am.look st o1=some (.arr 0 1 0 [[.mp o2]])) (Tz:Am.look st o2=some (.mps false (mrw (slc 1 16 OC) m2))) (Yd:Am.look st o3=some (.arr 0 1 0 [[.sl false 1 16 (rows OC RY)]])) (d0W:Am.look st o4=some (.arr 0 1 0 [[.fn 58 [] [.ptr o0 0 0 0,.ptr o1 0 0 0,.ptr o3 0 0 0,.ptr o4 0 0 0]]])),Am.Spec Tryz.prog gl 58 [.agg [.int .i64 a0.kind,.str a0.name,.sl false 1 16 (rows OC a0.words),.sl false 4 72 (rows Ox.cells a0.subs)],.sl false 1 16 (rows OC a1),.ptr o0 0 0 0,.ptr o1 0 0 0,.ptr o3 0 0 0,.ptr o4 0 0 0] st (fun d st'=>d= .bool r∧st'=puts st []):=by
 intro n
 induction n with
 |zero=>intro a0 a1 OQ Qo Qp Ph Qi Qn Qq Ub Uc Ud Qa m2 RY r h;cases h
 |succ n ih=>
  intro a0 a1 OQ Qo Qp Ph Qi Qn Qq Ub Uc Ud Qa m2 RY r h st o0 o1 o2 o3 o4 hnd Qr Sd Tz Yd d0W
  unfold PU at h
  have ho0:=OM Qr
  have ho1:=OM Sd
  have ho2:=OM Tz
  have ho3:=OM Yd
  have ho4:=OM d0W
  have fx:=fa (fa (fa (fa (fa (idf ho0) (idf ho1)) (idf ho2)) (idf ho3)) (idf ho4)) (nd5 hnd)
  refine fb 60 [.tmp 8] [0,1,2,3,4,5,6,7,8,10,12,16,20,21,22,23,29,32,33,34,35,42,43,44,45,46,49] Tryz.func58 fun hsc=>?_
  refine SZ (s':=(OT st [(o0,(.arr 0 11 0 [[.int .i64 OQ,.str Qo,.sl false 1 16 (rows OC Qp),.sl false 4 72 (rows Ox.cells Ph),.sl false 1 16 (rows OC Qi),.sl false 1 16 (rows OC Qn),.sl false 1 16 (rows OC Qq),.int .i64 Ub,.str Uc,.sl false 1 16 (rows OC Ud),.sl false 4 72 (rows Ox.cells Qa)]])),(o1,(.arr 0 1 0 [[.mp o2]])),(o2,(.mps false (mrw (slc 1 16 OC) m2))),(o3,(.arr 0 1 0 [[.sl false 1 16 (rows OC RY)]])),(o4,(.arr 0 1 0 [[.fn 58 [] [.ptr o0 0 0 0,.ptr o1 0 0 0,.ptr o3 0 0 0,.ptr o4 0 0 0]]]))])) (OW (by simp[Qr,Sd,Tz,Yd,d0W])) ?_
  refine cl h (Rb _ _) fun v1 h=>?_
  refine rn ?_
  refine VN (SY (PU n) RY a0 a1 OQ Qo Qp Ph Qi Qn Qq Ub Uc Ud Qa m2) r (fun(gj0:Unit) (j0:Unit)=>[(4,.ptr o3 0 0 0),(5,.ptr o4 0 0 0),(6,.ptr st.length 0 0 0),(7,.ptr (st.length+1) 0 0 0)]) (fun(gj0:Unit) (j0:Unit)=>(OT st [(o0,(.arr 0 11 0 [[.int .i64 OQ,.str Qo,.sl false 1 16 (rows OC Qp),.sl false 4 72 (rows Ox.cells Ph),.sl false 1 16 (rows OC Qi),.sl false 1 16 (rows OC Qn),.sl false 1 16 (rows OC Qq),.int .i64 Ub,.str Uc,.sl false 1 16 (rows OC Ud),.sl false 4 72 (rows Ox.cells Qa)]])),(o1,(.arr 0 1 0 [[.mp o2]])),(o2,(.mps false (mrw (slc 1 16 OC) m2))),(o3,(.arr 0 1 0 [[.sl false 1 16 (rows OC RY)]])),(o4,(.arr 0 1 0 [[.fn 58 [] [.ptr o0 0 0 0,.ptr o1 0 0 0,.ptr o3 0 0 0,.ptr o4 0 0 0]]]))])++[some (.arr 0 4 0 [[.int .i64 a0.kind,.str a0.name,.sl false 1 16 (rows OC a0.words),.sl false 4 72 (rows Ox.cells a0.subs)]]),some (.arr 0 1 0 [[.sl false 1 16 (rows OC a1)]])]) (fun gj0 j0 fr1 st1 h hb=>?_) (fun hj0=>?_)
  ·try simp only[go_sem,fx]
   unfold SY at h
   refine Rj hb ?_
   refine aln 32 fun hl2=>?_
   refine rng (body:=Uv RY a0 a1) (kk:=Uw (PU n) a0 a1 OQ Qo Qp Ph Qi Qn Qq Ub Uc Ud Qa m2 RY) (n:=a0.words.length) (s0:=())
    (fun(gs2:Unit) (k2:Nat) (s2:Unit)=>[(4,.ptr o3 0 0 0),(5,.ptr o4 0 0 0),(6,.ptr st.length 0 0 0),(7,.ptr (st.length+1) 0 0 0),(32,.sl false 1 16 (rows OC a0.words)),(33,.int .i64 (↑a0.words.length:Int)),(34,.int .i64 (↑k2:Int))])
    (fun(gs2:Unit) (k2:Nat) (s2:Unit)=>(OT st [(o0,(.arr 0 11 0 [[.int .i64 OQ,.str Qo,.sl false 1 16 (rows OC Qp),.sl false 4 72 (rows Ox.cells Ph),.sl false 1 16 (rows OC Qi),.sl false 1 16 (rows OC Qn),.sl false 1 16 (rows OC Qq),.int .i64 Ub,.str Uc,.sl false 1 16 (rows OC Ud),.sl false 4 72 (rows Ox.cells Qa)]])),(o1,(.arr 0 1 0 [[.mp o2]])),(o2,(.mps false (mrw (slc 1 16 OC) m2))),(o3,(.arr 0 1 0 [[.sl false 1 16 (rows OC RY)]])),(o4,(.arr 0 1 0 [[.fn 58 [] [.ptr o0 0 0 0,.ptr o1 0 0 0,.ptr o3 0 0 0,.ptr o4 0 0 0]]]))])++[some (.arr 0 4 0 [[.int .i64 a0.kind,.str a0.name,.sl false 1 16 (rows OC a0.words),.sl false 4 72 (rows Ox.cells a0.subs)]]),some (.arr 0 1 0 [[.sl false 1 16 (rows OC a1)]])])
    (fun(gt2:Unit) (t2:Unit)=>[(5,.ptr o4 0 0 0),(6,.ptr st.length 0 0 0),(7,.ptr (st.length+1) 0 0 0)])
    (fun(gt2:Unit) (t2:Unit)=>(OT st [(o0,(.arr 0 11 0 [[.int .i64 OQ,.str Qo,.sl false 1 16 (rows OC Qp),.sl false 4 72 (rows Ox.cells Ph),.sl false 1 16 (rows OC Qi),.sl false 1 16 (rows OC Qn),.sl false 1 16 (rows OC Qq),.int .i64 Ub,.str Uc,.sl false 1 16 (rows OC Ud),.sl false 4 72 (rows Ox.cells Qa)]])),(o1,(.arr 0 1 0 [[.mp o2]])),(o2,(.mps false (mrw (slc 1 16 OC) m2))),(o3,(.arr 0 1 0 [[.sl false 1 16 (rows OC RY)]])),(o4,(.arr 0 1 0 [[.fn 58 [] [.ptr o0 0 0 0,.ptr o1 0 0 0,.ptr o3 0 0 0,.ptr o4 0 0 0]]]))])++[some (.arr 0 4 0 [[.int .i64 a0.kind,.str a0.name,.sl false 1 16 (rows OC a0.words),.sl false 4 72 (rows Ox.cells a0.subs)]]),some (.arr 0 1 0 [[.sl false 1 16 (rows OC a1)]])])
    () fx hl2 h (bu hsc)
    (fun gs2 k2 s2 b2 fx h hx2=>?_) (fun gs2 s2=>?_) (fun gt2 t2 fr1 st1 h hb=>?_)
   ·unfold Uv at h
    refine ct ?_
    refine cl h (OH _ _) fun v5 h=>?_
    refine rn ?_
    obtain⟨v6,hv6,h⟩:=Rs h
    refine TD (fun hG=>(OH _ _ _ (d5D hv6 (by simpa using hG)))) ?_
    refine cd h (fun hc h=>?_) fun hc h=>?_
    ·refine ra ?_
     cases h
     refine Qh ?_;have h:=congrArg some (hx2 _ rfl)
     refine rr ?_
     exact fuo (.bool true) (.same _) h hsc (hr:=by rintro rfl;exact⟨rfl,OW (by simp[Qr,Sd,Tz,Yd,d0W])⟩)
    ·refine rn ?_
     cases h
     exact Vh () (bu hsc)
   ·refine cf ?_
    refine VK ?_;simp only[go_sem,fx]
    exact⟨(),(bu hsc)⟩
   ·try simp only[go_sem,fx]
    unfold Uw at h
    refine Rj hb ?_
    refine cl h (Pj _) fun v7 h=>?_
    refine rn ?_
    refine VN (SX (PU n) a0 OQ Qo Qp Ph Qi Qn Qq Ub Uc Ud Qa m2 RY) r (fun(gj3:Unit) (j3:(List Bs))=>[(5,.ptr o4 0 0 0),(6,.ptr st.length 0 0 0),(7,.ptr (st.length+1) 0 0 0)]) (fun(gj3:Unit) (j3:(List Bs))=>(OT st [(o0,(.arr 0 11 0 [[.int .i64 OQ,.str Qo,.sl false 1 16 (rows OC Qp),.sl false 4 72 (rows Ox.cells Ph),.sl false 1 16 (rows OC Qi),.sl false 1 16 (rows OC Qn),.sl false 1 16 (rows OC Qq),.int .i64 Ub,.str Uc,.sl false 1 16 (rows OC Ud),.sl false 4 72 (rows Ox.cells Qa)]])),(o1,(.arr 0 1 0 [[.mp o2]])),(o2,(.mps false (mrw (slc 1 16 OC) m2))),(o3,(.arr 0 1 0 [[.sl false 1 16 (rows OC RY)]])),(o4,(.arr 0 1 0 [[.fn 58 [] [.ptr o0 0 0 0,.ptr o1 0 0 0,.ptr o3 0 0 0,.ptr o4 0 0 0]]]))])++[some (.arr 0 4 0 [[.int .i64 a0.kind,.str a0.name,.sl false 1 16 (rows OC a0.words),.sl false 4 72 (rows Ox.cells a0.subs)]]),some (.arr 0 1 0 [[.sl false 1 16 (rows OC j3)]])]) (fun gj3 j3 fr1 st1 h hb=>?_) (fun hj3=>?_)
    ·try simp only[go_sem,fx]
     unfold SX at h
     refine Rj hb ?_
     refine rn ?_
     obtain⟨v15,hv15,h⟩:=Rs h
     refine(UM (PU n) ih _ _ _ _ _ _ _ _ _ _ _ _ _ _ _ _ hv15 _ o4 o0 o1 o2 o3 (st.length+1) (by simp[fx]<;>omega) (by simp only[go_sem,fx]) (by simp only[go_sem,fx]) (by simp only[go_sem,fx]) (by simp only[go_sem,fx]) (by simp only[go_sem,fx]) (OZ.trans rfl)).mono ?_
     rintro d1 st1 ⟨rfl,rfl⟩
     refine rr ?_
     exact fuo (.bool v15) (.same _) h hsc (hr:=by rintro rfl;exact⟨rfl,OW (by simp[Qr,Sd,Tz,Yd,d0W])⟩)
    ·refine cd h (fun hc h=>?_) fun hc h=>?_
     ·(repeat apply sq_)
      refine RO 1 16 ?_
      try simp only[List.append_assoc,List.cons_append,List.nil_append]
      refine Rj (F:=[(5,.ptr o4 0 0 0),(6,.ptr st.length 0 0 0),(7,.ptr (st.length+1) 0 0 0),(49,.bool v7)]) (T:=(OT st [(o0,(.arr 0 11 0 [[.int .i64 OQ,.str Qo,.sl false 1 16 (rows OC Qp),.sl false 4 72 (rows Ox.cells Ph),.sl false 1 16 (rows OC Qi),.sl false 1 16 (rows OC Qn),.sl false 1 16 (rows OC Qq),.int .i64 Ub,.str Uc,.sl false 1 16 (rows OC Ud),.sl false 4 72 (rows Ox.cells Qa)]])),(o1,(.arr 0 1 0 [[.mp o2]])),(o2,(.mps false (mrw (slc 1 16 OC) m2))),(o3,(.arr 0 1 0 [[.sl false 1 16 (rows OC RY)]])),(o4,(.arr 0 1 0 [[.fn 58 [] [.ptr o0 0 0 0,.ptr o1 0 0 0,.ptr o3 0 0 0,.ptr o4 0 0 0]]]))])++[some (.arr 0 4 0 [[.int .i64 a0.kind,.str a0.name,.sl false 1 16 (rows OC a0.words),.sl false 4 72 (rows Ox.cells a0.subs)]]),some (.arr 0 1 0 [[.sl false 1 16 (rows OC a1)]]),some (.arr 0 1 16 (rows OC []))]) (Vi (by simp) (QX hsc (by simp<;>omega)) (.lv (.lv (.lv (.nil _)))) (by simp<;>omega) ⟨.s,.s,.s,.s,trivial⟩ (by simp<;>omega)) ?_
      refine rs ?_
      refine dw [1,3] 2 ?_
      obtain⟨v8,hv8,h⟩:=Rs h
      refine WO [(st.length+2)] (fun st2 h2=>(Qc _ _ _ hv8 st2 (st.length+2) 0 (by simp) ((h2 _ (by simp)).trans (OZ.trans rfl)))) (by simp) (by simp only[List.mem_cons,List.not_mem_nil,or_false,forall_eq_or_imp,forall_eq];exact⟨by first|omega|(simp<;>omega),_,(OZ.trans rfl),Ob.noConfusion⟩) (by simp) ?_
      obtain⟨c10,i2f,h⟩:=Xg h
      have fy:=(show rows OC v8++[[.str a0.name]]=rows OC c10 from by rw[i2f];first|exact Pp (E:=OC) v8 [a0.name]|simp only[go_sem,rows,List.map_append,List.map_cons,List.map_nil])
      have fy:=fa fy (show v8.length+1=c10.length from by rw[i2f];simp)
      obtain⟨fx,h⟩:=ck fx h
      try simp only[go_sem,fx,fy]
      try refine⟨by first|omega|(simp<;>omega),?_⟩
      refine hj3 () _ _ _ h ?_;exact(bu hsc (hu:=(.lv (.live _ _ _ _ (.arr _ _ _ _ _ (.cons _ _ _ _ (.cons _ _ _ _ (.ref _ _ _ _ _ _ _ _ _ (Pa.trans rfl) (VU (by first|decide|simp)) (by decide) (YP _) (by simp only[go_sem])) .nil) (.same _))) (.nil _)))))
     ·refine r0 ?_
      refine hj3 () _ _ _ h ?_;exact(bu hsc)
  ·refine cd h (fun hc h=>?_) fun hc h=>?_
   ·refine aln 20 fun hl1=>?_
    refine rng (body:=Ux a1 a0 m2) (kk:=Uy (PU n) RY a0 a1 OQ Qo Qp Ph Qi Qn Qq Ub Uc Ud Qa m2) (n:=((assoc a0.name m2).getD default).length) (s0:=())
     (fun(gs1:Unit) (k1:Nat) (s1:Unit)=>[(4,.ptr o3 0 0 0),(5,.ptr o4 0 0 0),(6,.ptr st.length 0 0 0),(7,.ptr (st.length+1) 0 0 0),(20,.sl false 1 16 (rows OC ((assoc a0.name m2).getD default))),(21,.int .i64 (↑(((assoc a0.name m2).getD default).length):Int)),(22,.int .i64 (↑k1:Int))])
     (fun(gs1:Unit) (k1:Nat) (s1:Unit)=>(OT st [(o0,(.arr 0 11 0 [[.int .i64 OQ,.str Qo,.sl false 1 16 (rows OC Qp),.sl false 4 72 (rows Ox.cells Ph),.sl false 1 16 (rows OC Qi),.sl false 1 16 (rows OC Qn),.sl false 1 16 (rows OC Qq),.int .i64 Ub,.str Uc,.sl false 1 16 (rows OC Ud),.sl false 4 72 (rows Ox.cells Qa)]])),(o1,(.arr 0 1 0 [[.mp o2]])),(o2,(.mps false (mrw (slc 1 16 OC) m2))),(o3,(.arr 0 1 0 [[.sl false 1 16 (rows OC RY)]])),(o4,(.arr 0 1 0 [[.fn 58 [] [.ptr o0 0 0 0,.ptr o1 0 0 0,.ptr o3 0 0 0,.ptr o4 0 0 0]]]))])++[some (.arr 0 4 0 [[.int .i64 a0.kind,.str a0.name,.sl false 1 16 (rows OC a0.words),.sl false 4 72 (rows Ox.cells a0.subs)]]),some (.arr 0 1 0 [[.sl false 1 16 (rows OC a1)]])])
     (fun(gt1:Unit) (t1:Unit)=>[(4,.ptr o3 0 0 0),(5,.ptr o4 0 0 0),(6,.ptr st.length 0 0 0),(7,.ptr (st.length+1) 0 0 0)])
     (fun(gt1:Unit) (t1:Unit)=>(OT st [(o0,(.arr 0 11 0 [[.int .i64 OQ,.str Qo,.sl false 1 16 (rows OC Qp),.sl false 4 72 (rows Ox.cells Ph),.sl false 1 16 (rows OC Qi),.sl false 1 16 (rows OC Qn),.sl false 1 16 (rows OC Qq),.int .i64 Ub,.str Uc,.sl false 1 16 (rows OC Ud),.sl false 4 72 (rows Ox.cells Qa)]])),(o1,(.arr 0 1 0 [[.mp o2]])),(o2,(.mps false (mrw (slc 1 16 OC) m2))),(o3,(.arr 0 1 0 [[.sl false 1 16 (rows OC RY)]])),(o4,(.arr 0 1 0 [[.fn 58 [] [.ptr o0 0 0 0,.ptr o1 0 0 0,.ptr o3 0 0 0,.ptr o4 0 0 0]]]))])++[some (.arr 0 4 0 [[.int .i64 a0.kind,.str a0.name,.sl false 1 16 (rows OC a0.words),.sl false 4 72 (rows Ox.cells a0.subs)]]),some (.arr 0 1 0 [[.sl false 1 16 (rows OC a1)]])])
     () fx hl1 h (bu hsc)
     (fun gs1 k1 s1 b1 fx h hx1=>?_) (fun gs1 s1=>?_) (fun gt1 t1 fr1 st1 h hb=>?_)
    ·unfold Ux at h
     refine ct ?_
     refine cl h (OH _ _) fun v2 h=>?_
     refine cd h (fun hc h=>?_) fun hc h=>?_
     ·refine ra ?_
      cases h
      refine Qh ?_;have h:=congrArg some (hx1 _ rfl)
      refine rr ?_
      exact fuo (.bool true) (.same _) h hsc (hr:=by rintro rfl;exact⟨rfl,OW (by simp[Qr,Sd,Tz,Yd,d0W])⟩)
     ·refine rn ?_
      cases h
      exact Vh () (bu hsc)
    ·refine cf ?_
     refine VK ?_;simp only[go_sem,fx]
     exact⟨(),(bu hsc)⟩
    ·try simp only[go_sem,fx]
     unfold Uy at h
     refine hj0 () _ _ _ h ?_;exact(hb.trans (bu hsc))
   ·refine r0 ?_
    refine hj0 () _ _ _ h ?_;exact(bu hsc)
end Go.Proofs.YtfacbpehlibilaaGreatDoor
