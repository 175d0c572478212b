import Derived.Test.YtahjhbkhcaphgaaGreatDoorFTWalk0
set_option linter.unusedVariables false
set_option linter.unusedSimpArgs false
set_option maxHeartbeats 2000000
set_option maxRecDepth 100000
namespace Go.Proofs.YtahjhbkhcaphgaaGreatDoor
open Go Go.Am
theorem Y0(a0:Bs)(a1:Bs)(r:Bool)(h:B5 a0 a1=some r):Pure Tryz.prog gl 46 [.str a0,.str a1] (.bool r):=by
 intro st
 unfold B5 at h
 have fx:=trivial
 refine fb 18 [.tmp 4] [0,1,4,11,12,13,14,15,16] Tryz.func46 fun hsc=>?_
 obtain⟨fx,h⟩:=ck fx h
 exact rt
theorem bZ(a0:Bs)(a1:Bs)(r:Bs)(h:E4 a0 a1=some r):Pure Tryz.prog gl 45 [.str a0,.str a1] (.str r):=by
 intro st
 unfold E4 at h
 have fx:=trivial
 refine fb 13 [.tmp 4] [0,1,4,7] Tryz.func45 fun hsc=>?_
 refine cl h (Y0 _ _) fun v1 h=>?_
 refine cd h (fun hc h=>?_) fun hc h=>?_
 ·obtain⟨fx,h⟩:=ck fx h
  exact rt
 ·exact rt
theorem ju(a0:Bs)(a1:Bs)(r:Bs)(h:L9 a0 a1=some r):Pure Tryz.prog gl 25 [.str a0,.str a1] (.str r):=by
 intro st
 unfold L9 at h
 have fx:=trivial
 refine fb 8 [.tmp 4] [0,1,4] Tryz.func25 fun hsc=>?_
 refine cl h (bZ _ _) fun v1 h=>?_
 exact rt
theorem kc(a0:Bs)(a1:Bs)(r:Bool)(h:O7 a0 a1=some r):Pure Tryz.prog gl 26 [.str a0,.str a1] (.bool r):=by
 intro st
 unfold O7 at h
 have fx:=trivial
 refine fb 8 [.tmp 4] [0,1,4] Tryz.func26 fun hsc=>?_
 refine cl h (Y0 _ _) fun v1 h=>?_
 exact rt
theorem I8(B0:Bs)(F3:Int)(P7:Int)(S4:Int)(G5:Int)(r:Int)(h:D7 B0 F3 P7 S4 G5=some r):∀(st:St) (o0:Nat) (hnd: [o0].Nodup) (R8:Am.look st o0=some (.arr 0 5 0 [[.str B0,.int .i64 F3,.int .i64 P7,.int .i64 S4,.int .i64 G5]])),Am.Spec Tryz.prog gl 69 [.ptr o0 0 0 0] st (fun d st'=>d= .int .u8 r∧st'=puts st []):=by
 intro st o0 hnd R8
 unfold D7 at h
 have ho0:=F2 R8
 have fx:=idf ho0
 refine fb 22 [.tmp 2] [0,2,12] Tryz.func69 fun hsc=>?_
 refine aO (s':=(E8 st [(o0,(.arr 0 5 0 [[.str B0,.int .i64 F3,.int .i64 P7,.int .i64 S4,.int .i64 G5]]))])) (C5 (by simp[R8])) ?_
 refine rn ?_
 refine dw [] 0 ?_
 refine cd h (fun hc h=>?_) fun hc h=>?_
 ·refine rs ?_
  obtain⟨fx,h⟩:=ck fx h
  refine dw [] 0 ?_
  refine rr ?_
  exact fus (.int .u8 (B3 B0 F3)) (.same _) h hsc (hr:=by rintro rfl;exact⟨rfl,C5 (by simp[R8])⟩)
 ·refine rr ?_
  exact fus (.int .u8 0) (.same _) h hsc (hr:=by rintro rfl;exact⟨rfl,C5 (by simp[R8])⟩)
theorem F6(a1:Int)(a2:Int)(B0:Bs)(F3:Int)(P7:Int)(S4:Int)(G5:Int)(r:Int×Int)(h:C4 a1 a2 B0 F3 P7 S4 G5=some r):∀(st:St) (o0:Nat) (hnd: [o0].Nodup) (R8:Am.look st o0=some (.arr 0 5 0 [[.str B0,.int .i64 F3,.int .i64 P7,.int .i64 S4,.int .i64 G5]])),Am.Spec Tryz.prog gl 48 [.ptr o0 0 0 0,.int .i64 a1,.int .i64 a2] st (fun d st'=>d= .tup []∧st'=puts st [(o0,(.arr 0 5 0 [[.str B0,.int .i64 F3,.int .i64 r.1,.int .i64 r.2,.int .i64 G5]]))]):=by
 intro st o0 hnd R8
 unfold C4 at h
 have ho0:=F2 R8
 have fx:=idf ho0
 refine fb 18 [] [0,1,2,11] Tryz.func48 fun hsc=>?_
 refine aO (s':=(E8 st [(o0,(.arr 0 5 0 [[.str B0,.int .i64 F3,.int .i64 P7,.int .i64 S4,.int .i64 G5]]))])) (C5 (by simp[R8])) ?_
 refine cd h (fun hc h=>?_) fun hc h=>?_
 ·refine rr ?_
  exact fus (.tup []) (.same _) h hsc
 ·refine rr ?_
  exact fus (.tup []) (.same _) h hsc
theorem P6(n:Nat)(B0:Bs)(F3:Int)(P7:Int)(S4:Int)(G5:Int)(r:Bs×Int×Int×Int)(h:C1 n B0 F3 P7 S4 G5=some r):∀(st:St) (o0:Nat) (hnd: [o0].Nodup) (R8:Am.look st o0=some (.arr 0 5 0 [[.str B0,.int .i64 F3,.int .i64 P7,.int .i64 S4,.int .i64 G5]])),Am.Spec Tryz.prog gl 71 [.ptr o0 0 0 0] st (fun d st'=>d= .str r.1∧st'=puts st [(o0,(.arr 0 5 0 [[.str B0,.int .i64 r.2.1,.int .i64 r.2.2.1,.int .i64 r.2.2.2,.int .i64 G5]]))]):=by
 intro st o0 hnd R8
 unfold C1 at h
 have ho0:=F2 R8
 have fx:=idf ho0
 refine fb 91 [.tmp 2] [0,2,3,10,29,30,31,32,33,34,35,36,39,40,41,42,43,44,45,46,47,48,49,50,51,52,53,69] Tryz.func71 fun hsc=>?_
 refine aO (s':=(E8 st [(o0,(.arr 0 5 0 [[.str B0,.int .i64 F3,.int .i64 P7,.int .i64 S4,.int .i64 G5]]))])) (C5 (by simp[R8])) ?_
 refine cd h (fun hc h=>?_) fun hc h=>?_
 ·refine rr ?_
  exact fus (.str []) (.same _) h hsc
 ·refine rn ?_
  refine D6 (body:=X5 B0 F3) (kk:=X6 F3 B0 P7 S4 G5) (n:=n) (s0:=F3)
   (fun(gs0:Unit) (s0:Int)=>[(0,.ptr o0 0 0 0),(3,.int .i64 F3)])
   (fun(gs0:Unit) (s0:Int)=>(E8 st [(o0,(.arr 0 5 0 [[.str B0,.int .i64 s0,.int .i64 P7,.int .i64 S4,.int .i64 G5]]))]))
   (fun(gt0:Unit) (t0:Int)=>[(0,.ptr o0 0 0 0),(3,.int .i64 F3)])
   (fun(gt0:Unit) (t0:Int)=>(E8 st [(o0,(.arr 0 5 0 [[.str B0,.int .i64 t0,.int .i64 P7,.int .i64 S4,.int .i64 G5]]))]))
   () h (xw hsc)
   (fun gs0 s0 b0 h hx0=>?_) (fun gt0 t0 fr1 st1 h hb=>?_)
  ·unfold X5 at h
   refine rs ?_
   obtain⟨fx,h⟩:=ck fx h
   refine dw [] 0 ?_
   obtain⟨v12,hv12,h⟩:=M1 h
   refine mY (fun hG=>(eW _ _ (pE hv12 (by simpa using hG)))) ?_
   try simp only[go_sem,fx]
   refine cd h (fun hc h=>?_) fun hc h=>?_
   ·refine rn ?_
    cases h
    exact I6 () (xw hsc)
   ·refine rn ?_
    cases h
    exact J9 () (xw hsc)
  ·try simp only[go_sem,fx]
   unfold X6 at h
   refine R6 hb ?_
   refine cd h (fun hc h=>?_) fun hc h=>?_
   ·refine rs ?_
    refine dw [8] 0 ?_
    obtain⟨v13,hv13,h⟩:=M1 h
    refine gn [o0] (fun st2 h2=>(F6 _ _ _ _ _ _ _ _ hv13 st2 _ hnd ((h2 _ (by simp)).trans (by simp only[go_sem,fx])))) (by simp) (by simp only[List.mem_cons,List.not_mem_nil,or_false,forall_eq_or_imp,forall_eq];exact⟨by first|omega|(simp<;>omega),_,(by simp only[go_sem,fx]<;>rfl),Ob.noConfusion⟩) (by simp) ?_
    try simp only[go_sem,fx]
    try refine⟨by first|omega|(simp<;>omega),?_⟩
    refine rs ?_
    obtain⟨fx,h⟩:=ck fx h
    refine dw [] 0 ?_
    refine rr ?_
    exact fus (.str ((B0.drop F3.toNat).take (t0.toNat-F3.toNat))) (.same _) h hsc
   ·refine rn ?_
    obtain⟨fx,h⟩:=ck fx h
    refine dw [] 0 ?_
    refine rr ?_
    exact fus (.str ((B0.drop F3.toNat).take (t0.toNat-F3.toNat))) (.same _) h hsc
theorem F7(a1:Int)(B0:Bs)(F3:Int)(P7:Int)(S4:Int)(G5:Int)(r:Bool×Int×Int×Int)(h:y8 a1 B0 F3 P7 S4 G5=some r):∀(st:St) (o0:Nat) (hnd: [o0].Nodup) (R8:Am.look st o0=some (.arr 0 5 0 [[.str B0,.int .i64 F3,.int .i64 P7,.int .i64 S4,.int .i64 G5]])),Am.Spec Tryz.prog gl 73 [.ptr o0 0 0 0,.int .u8 a1] st (fun d st'=>d= .bool r.1∧st'=puts st [(o0,(.arr 0 5 0 [[.str B0,.int .i64 r.2.1,.int .i64 r.2.2.1,.int .i64 r.2.2.2,.int .i64 G5]]))]):=by
 intro st o0 hnd R8
 unfold y8 at h
 have ho0:=F2 R8
 have fx:=idf ho0
 refine fb 47 [.tmp 4] [0,1,4,10,22,23,24,25,26,27,28,29,30,31,32,33] Tryz.func73 fun hsc=>?_
 refine aO (s':=(E8 st [(o0,(.arr 0 5 0 [[.str B0,.int .i64 F3,.int .i64 P7,.int .i64 S4,.int .i64 G5]]))])) (C5 (by simp[R8])) ?_
 refine cd h (fun hc h=>?_) fun hc h=>?_
 ·refine rr ?_
  exact fus (.bool false) (.same _) h hsc
 ·refine rn ?_
  obtain⟨fx,h⟩:=ck fx h
  refine dw [] 0 ?_
  refine cd h (fun hc h=>?_) fun hc h=>?_
  ·refine rr ?_
   exact fus (.bool true) (.same _) h hsc
  ·refine rn ?_
   obtain⟨v4,hv4,h⟩:=M1 h
   refine(F6 _ _ _ _ _ _ _ _ hv4 _ _ hnd (by simp only[go_sem,fx])).mono ?_
   rintro d1 st1 ⟨rfl,rfl⟩
   refine rr ?_
   exact fus (.bool false) (.same _) h hsc
theorem jd(n:Nat)(B0:Bs)(F3:Int)(P7:Int)(S4:Int)(G5:Int)(r:(List Bs)×Int×Int×Int)(h:K2 n B0 F3 P7 S4 G5=some r):∀(st:St) (o0:Nat) (hnd: [o0].Nodup) (R8:Am.look st o0=some (.arr 0 5 0 [[.str B0,.int .i64 F3,.int .i64 P7,.int .i64 S4,.int .i64 G5]])),Am.Spec Tryz.prog gl 72 [.ptr o0 0 0 0] st (fun d st'=>d= .sl false 1 16 (rows w9 r.1)∧st'=puts st [(o0,(.arr 0 5 0 [[.str B0,.int .i64 r.2.1,.int .i64 r.2.2.1,.int .i64 r.2.2.2,.int .i64 G5]]))]):=by
 intro st o0 hnd R8
 unfold K2 at h
 have ho0:=F2 R8
 have fx:=idf ho0
 refine fb 54 [.tmp 2] [0,2,3,8,24,34,35,36,37,38,39] Tryz.func72 fun hsc=>?_
 refine aO (s':=(E8 st [(o0,(.arr 0 5 0 [[.str B0,.int .i64 F3,.int .i64 P7,.int .i64 S4,.int .i64 G5]]))])) (C5 (by simp[R8])) ?_
 refine rn ?_
 obtain⟨v1,hv1,h⟩:=M1 h
 refine(I8 _ _ _ _ _ _ hv1 _ _ hnd (by simp only[go_sem,fx])).mono ?_
 rintro d1 st1 ⟨rfl,rfl⟩
 refine cd h (fun hc h=>?_) fun hc h=>?_
 ·refine rr ?_
  exact fus (.sl false 1 16 (rows w9 [])) (.y5 _ _ _ (by decide)) h hsc
 ·refine r0 ?_
  (repeat apply sq_)
  refine eJ 1 16 ?_
  try simp only[List.append_assoc,List.cons_append,List.nil_append]
  refine R6 (F:=[(0,.ptr o0 0 0 0),(3,.ref false st.length 0 0 0),(8,.bool (decide (v1=41)))]) (T:=(E8 st [(o0,(.arr 0 5 0 [[.str B0,.int .i64 F3,.int .i64 P7,.int .i64 S4,.int .i64 G5]]))])++[some (.arr 0 1 16 (rows w9 []))]) (jF (by simp) (aQ hsc (by simp<;>omega)) (.lv (.nil _)) (by simp<;>omega) ⟨.s,.nref _ _ _ _ _ _ (qe.trans rfl),.s,trivial⟩ (by simp<;>omega)) ?_
  (repeat apply sq_)
  refine D6 (body:=N8 n B0 G5) (kk:=N9) (n:=n) (s0:=(F3,P7,S4,[]))
   (fun(gs0:Nat) (s0:Int×Int×Int×(List Bs))=>[(0,.ptr o0 0 0 0),(3,.ref false st.length gs0 0 s0.2.2.2.length)])
   (fun(gs0:Nat) (s0:Int×Int×Int×(List Bs))=>(E8 st [(o0,(.arr 0 5 0 [[.str B0,.int .i64 s0.1,.int .i64 s0.2.1,.int .i64 s0.2.2.1,.int .i64 G5]]))])++[some (.arr gs0 1 16 (rows w9 s0.2.2.2))])
   (fun(gt0:Nat) (t0:Int×Int×Int×(List Bs))=>[(3,.ref false st.length gt0 0 t0.2.2.2.length)])
   (fun(gt0:Nat) (t0:Int×Int×Int×(List Bs))=>(E8 st [(o0,(.arr 0 5 0 [[.str B0,.int .i64 t0.1,.int .i64 t0.2.1,.int .i64 t0.2.2.1,.int .i64 G5]]))])++[some (.arr gt0 1 16 (rows w9 t0.2.2.2))])
   0 h (bu hsc)
   (fun gs0 s0 b0 h hx0=>?_) (fun gt0 t0 fr1 st1 h hb=>?_)
  ·unfold N8 at h
   refine cd h (fun hc h=>?_) fun hc h=>?_
   ·refine r0 ?_
    refine r0 ?_
    refine rn ?_
    obtain⟨v11,hv11,h⟩:=M1 h
    refine(P6 n _ _ _ _ _ _ hv11 _ _ hnd (by simp only[go_sem,fx])).mono ?_
    rintro d1 st1 ⟨rfl,rfl⟩
    obtain⟨c13,Mj,h⟩:=gG h
    have fy:=(show rows w9 s0.2.2.2++[[.str v11.1]]=rows w9 c13 from by rw[Mj];first|exact F1 (E:=w9) s0.2.2.2 [v11.1]|simp only[go_sem,rows,List.map_append,List.map_cons,List.map_nil])
    have fy:=fa fy (show s0.2.2.2.length+1=c13.length from by rw[Mj];simp)
    obtain⟨fx,h⟩:=ck fx h
    try simp only[go_sem,fx,fy]
    refine rn ?_
    obtain⟨v18,hv18,h⟩:=M1 h
    refine DE (fun hG=>(I8 _ _ _ _ _ _ (pE hv18 (by simpa using hG)) _ _ hnd (by simp only[go_sem,fx]))) (fun hF=>by obtain rfl:=LK hv18 (by simpa using hF);simp only[go_sem,fx]) ?_
    refine cd h (fun hc h=>?_) fun hc h=>?_
    ·refine rn ?_
     cases h
     exact I6 (gs0+1) (bu hsc)
    ·refine rn ?_
     obtain⟨v19,hv19,h⟩:=M1 h
     refine(F7 _ _ _ _ _ _ _ hv19 _ _ hnd (by simp only[go_sem,fx])).mono ?_
     rintro d1 st1 ⟨rfl,rfl⟩
     refine rn ?_
     cases h
     exact J9 (gs0+1) (bu hsc)
   ·refine rn ?_
    cases h
    exact J9 gs0 (bu hsc)
  ·try simp only[go_sem,fx]
   unfold N9 at h
   refine R6 hb ?_
   refine rr ?_
   exact fuo (.sl false 1 16 (rows w9 t0.2.2.2)) (.ref _ _ _ _ _ _ _ _ _ (qe.trans rfl) xu (by decide) (ng _) (by simp only[go_sem])) h hsc
theorem jv(C6:(Int)→(Bs)→(Int)→(Int)→(Int)→(Int)→Option (u6×Int×Int×Int×Int))(cu:∀(a1:Int) (B0:Bs) (F3:Int) (P7:Int) (S4:Int) (G5:Int) (r:u6×Int×Int×Int×Int) (h:C6 a1 B0 F3 P7 S4 G5=some r),∀(st:St) (o0:Nat) (hnd: [o0].Nodup) (R8:Am.look st o0=some (.arr 0 5 0 [[.str B0,.int .i64 F3,.int .i64 P7,.int .i64 S4,.int .i64 G5]])),Am.Spec Tryz.prog gl 47 [.ptr o0 0 0 0,.int .i64 a1] st (fun d st'=>d= .agg [.int .i64 r.1.kind,.str r.1.name,.sl false 1 16 (rows w9 r.1.words),.sl false 4 72 (rows u6.cells r.1.subs)]∧st'=puts st [(o0,(.arr 0 5 0 [[.str B0,.int .i64 r.2.1,.int .i64 r.2.2.1,.int .i64 r.2.2.2.1,.int .i64 r.2.2.2.2]]))]))(n:Nat)(a1:Int)(B0:Bs)(F3:Int)(P7:Int)(S4:Int)(G5:Int)(r:u6×Int×Int×Int×Int)(h:J1 C6 n a1 B0 F3 P7 S4 G5=some r):∀(st:St) (o0:Nat) (hnd: [o0].Nodup) (R8:Am.look st o0=some (.arr 0 5 0 [[.str B0,.int .i64 F3,.int .i64 P7,.int .i64 S4,.int .i64 G5]])),Am.Spec Tryz.prog gl 70 [.ptr o0 0 0 0,.int .i64 a1] st (fun d st'=>d= .agg [.int .i64 r.1.kind,.str r.1.name,.sl false 1 16 (rows w9 r.1.words),.sl false 4 72 (rows u6.cells r.1.subs)]∧st'=puts st [(o0,(.arr 0 5 0 [[.str B0,.int .i64 r.2.1,.int .i64 r.2.2.1,.int .i64 r.2.2.2.1,.int .i64 r.2.2.2.2]]))]):=by
 intro st o0 hnd R8
 unfold J1 at h
 have ho0:=F2 R8
 have fx:=idf ho0
 refine fb 173 [.cell 4 25] [0,1,4,5,6,7,8,9,10,11,28,29,30,42,57,58,59,60,61,62,63,64,65,66,67,68,69,70,97,98,101,102,103,136] Tryz.func70 fun hsc=>?_
 refine aO (s':=(E8 st [(o0,(.arr 0 5 0 [[.str B0,.int .i64 F3,.int .i64 P7,.int .i64 S4,.int .i64 G5]]))])) (C5 (by simp[R8])) ?_
 refine rn ?_
 obtain⟨v1,hv1,h⟩:=M1 h
 refine(I8 _ _ _ _ _ _ hv1 _ _ hnd (by simp only[go_sem,fx])).mono ?_
 rintro d1 st1 ⟨rfl,rfl⟩
 refine rn ?_
 refine aF (B8 C6 a1 B0 F3 G5) r (fun(gj0:Unit) (j0:Int×Int)=>[(0,.ptr o0 0 0 0),(1,.int .i64 a1),(4,.ptr st.length 0 0 0)]) (fun(gj0:Unit) (j0:Int×Int)=>(E8 st [(o0,(.arr 0 5 0 [[.str B0,.int .i64 (wr .i64 (F3+1)),.int .i64 j0.1,.int .i64 j0.2,.int .i64 G5]]))])++[some (.arr 0 4 0 [[.int .i64 0,.str [],.y5,.y5]])]) (fun gj0 j0 fr1 st1 h hb=>?_) (fun hj0=>?_)
 ·try simp only[go_sem,fx]
  unfold B8 at h
  refine R6 hb ?_
  refine rn ?_
  obtain⟨v12,hv12,h⟩:=M1 h
  refine(cu _ _ _ _ _ _ _ hv12 _ _ hnd (by simp only[go_sem,fx])).mono ?_
  rintro d1 st1 ⟨rfl,rfl⟩
  refine rn ?_
  obtain⟨v13,hv13,h⟩:=M1 h
  refine(F7 _ _ _ _ _ _ _ hv13 _ _ hnd (by simp only[go_sem,fx])).mono ?_
  rintro d1 st1 ⟨rfl,rfl⟩
  try simp only[go_sem,fx]
  obtain⟨c14,JO,h⟩:=gG h
  have fy:=(show [(38,[.int .i64 5])]=mrw mZ c14 from by rw[JO];exact gS (κ:=Int) (E:=mZ) 38 5 [])
  have fy:=fa fy (show y6 38 [.int .i64 5] (mrw mZ [])=mrw mZ c14 from by rw[JO];exact gS (κ:=Int) (E:=mZ) 38 5 [])
  obtain⟨c17,OA,h⟩:=gG h
  have fy:=fa fy (show y6 124 [.int .i64 6] (mrw mZ c14)=mrw mZ c17 from by rw[OA];exact gS (κ:=Int) (E:=mZ) 124 6 c14)
  obtain⟨c19,JN,h⟩:=gG h
  have fy:=fa fy (show y6 62 [.int .i64 7] (mrw mZ c17)=mrw mZ c19 from by rw[JN];exact gS (κ:=Int) (E:=mZ) 62 7 c17)
  refine r1 ?_
  obtain⟨v21,hv21,h⟩:=M1 h
  refine(I8 _ _ _ _ _ _ hv21 _ _ hnd (by simp only[go_sem,fx])).mono ?_
  rintro d1 st1 ⟨rfl,rfl⟩
  try simp only[go_sem,fx,fy]
  refine cd h (fun hc h=>?_) fun hc h=>?_
  ·refine rs ?_
   refine dw [8] 0 ?_
   obtain⟨v22,hv22,h⟩:=M1 h
   refine gn [o0] (fun st2 h2=>(F6 _ _ _ _ _ _ _ _ hv22 st2 _ hnd ((h2 _ (by simp)).trans (by simp only[go_sem,fx])))) (by simp) (by simp only[List.mem_cons,List.not_mem_nil,or_false,forall_eq_or_imp,forall_eq];exact⟨by first|omega|(simp<;>omega),_,(by simp only[go_sem,fx]<;>rfl),Ob.noConfusion⟩) (by simp) ?_
   try simp only[go_sem,fx]
   try refine⟨by first|omega|(simp<;>omega),?_⟩
   refine rr ?_
   exact fuo (.agg [.int .i64 0,.str [],.sl false 1 16 (rows w9 []),.sl false 4 72 (rows u6.cells [])]) (.agg _ _ (.cons _ _ _ _ .s (.cons _ _ _ _ .s (.cons _ _ _ _ (.y5 _ _ _ (by decide)) (.cons _ _ _ _ (.y5 _ _ _ (by decide)) .nil))))) h hsc
  ·refine rn ?_
   obtain⟨v23,hv23,h⟩:=M1 h
   refine(F7 _ _ _ _ _ _ _ hv23 _ _ hnd (by simp only[go_sem,fx])).mono ?_
   rintro d1 st1 ⟨rfl,rfl⟩
   refine rn ?_
   obtain⟨v24,hv24,h⟩:=M1 h
   refine(cu _ _ _ _ _ _ _ hv24 _ _ hnd (by simp only[go_sem,fx])).mono ?_
   rintro d1 st1 ⟨rfl,rfl⟩
   refine rn ?_
   obtain⟨v25,hv25,h⟩:=M1 h
   refine(F7 _ _ _ _ _ _ _ hv25 _ _ hnd (by simp only[go_sem,fx])).mono ?_
   rintro d1 st1 ⟨rfl,rfl⟩
   refine rr ?_
   exact fuo (.agg [.int .i64 ((assoc v21 c19).getD default),.str [],.sl false 1 16 (rows w9 []),.sl false 4 72 (rows u6.cells [v12.1,v24.1])]) (.agg _ _ (.cons _ _ _ _ .s (.cons _ _ _ _ .s (.cons _ _ _ _ (.y5 _ _ _ (by decide)) (.cons _ _ _ _ (.ref _ _ _ _ _ _ _ _ _ (L4.trans rfl) eK (by decide) (by simp[Imm,D.imm]) (by simp only[go_sem,rows,List.map_cons,List.map_nil])) .nil))))) h hsc
 ·refine cd h (fun hc h=>?_) fun hc h=>?_
  ·refine rn ?_
   obtain⟨v2,hv2,h⟩:=M1 h
   refine(P6 n _ _ _ _ _ _ hv2 _ _ hnd (by simp only[go_sem,fx])).mono ?_
   rintro d1 st1 ⟨rfl,rfl⟩
   refine rn ?_
   obtain⟨v3,hv3,h⟩:=M1 h
   refine(I8 _ _ _ _ _ _ hv3 _ _ hnd (by simp only[go_sem,fx])).mono ?_
   rintro d1 st1 ⟨rfl,rfl⟩
   refine cd h (fun hc h=>?_) fun hc h=>?_
   ·refine rs ?_
    obtain⟨fx,h⟩:=ck fx h
    refine dw [] 0 ?_
    refine cd h (fun hc h=>?_) fun hc h=>?_
    ·refine rn ?_
     obtain⟨v7,hv7,h⟩:=M1 h
     refine(F7 _ _ _ _ _ _ _ hv7 _ _ hnd (by simp only[go_sem,fx])).mono ?_
     rintro d1 st1 ⟨rfl,rfl⟩
     refine rn ?_
     obtain⟨v8,hv8,h⟩:=M1 h
     refine(P6 n _ _ _ _ _ _ hv8 _ _ hnd (by simp only[go_sem,fx])).mono ?_
     rintro d1 st1 ⟨rfl,rfl⟩
     refine rn ?_
     obtain⟨v9,hv9,h⟩:=M1 h
     refine(F7 _ _ _ _ _ _ _ hv9 _ _ hnd (by simp only[go_sem,fx])).mono ?_
     rintro d1 st1 ⟨rfl,rfl⟩
     refine rr ?_
     exact fuo (.agg [.int .i64 3,.str [],.sl false 1 16 (rows w9 [v2.1,v8.1]),.sl false 4 72 (rows u6.cells [])]) (.agg _ _ (.cons _ _ _ _ .s (.cons _ _ _ _ .s (.cons _ _ _ _ .s (.cons _ _ _ _ (.y5 _ _ _ (by decide)) .nil))))) h hsc
    ·refine cd h (fun hc h=>?_) fun hc h=>?_
     ·refine rs ?_
      refine dw [9] 0 ?_
      obtain⟨v11,hv11,h⟩:=M1 h
      refine gn [o0] (fun st2 h2=>(F6 _ _ _ _ _ _ _ _ hv11 st2 _ hnd ((h2 _ (by simp)).trans (by simp only[go_sem,fx])))) (by simp) (by simp only[List.mem_cons,List.not_mem_nil,or_false,forall_eq_or_imp,forall_eq];exact⟨by first|omega|(simp<;>omega),_,(by simp only[go_sem,fx]<;>rfl),Ob.noConfusion⟩) (by simp) ?_
      try simp only[go_sem,fx]
      try refine⟨by first|omega|(simp<;>omega),?_⟩
      refine rr ?_
      exact fuo (.agg [.int .i64 0,.str [],.sl false 1 16 (rows w9 []),.sl false 4 72 (rows u6.cells [])]) (.agg _ _ (.cons _ _ _ _ .s (.cons _ _ _ _ .s (.cons _ _ _ _ (.y5 _ _ _ (by decide)) (.cons _ _ _ _ (.y5 _ _ _ (by decide)) .nil))))) h hsc
     ·refine r0 ?_
      refine r0 ?_
      refine hj0 () _ _ _ h ?_;exact(bu hsc)
   ·refine r0 ?_
    refine r0 ?_
    refine hj0 () _ _ _ h ?_;exact(bu hsc)
  ·refine r0 ?_
   refine hj0 () _ _ _ h ?_;exact(bu hsc)
theorem jw:∀(n:Nat) (a1:Int) (B0:Bs) (F3:Int) (P7:Int) (S4:Int) (G5:Int) (r:u6×Int×Int×Int×Int) (h:y9 n a1 B0 F3 P7 S4 G5=some r),∀(st:St) (o0:Nat) (hnd: [o0].Nodup) (R8:Am.look st o0=some (.arr 0 5 0 [[.str B0,.int .i64 F3,.int .i64 P7,.int .i64 S4,.int .i64 G5]])),Am.Spec Tryz.prog gl 47 [.ptr o0 0 0 0,.int .i64 a1] st (fun d st'=>d= .agg [.int .i64 r.1.kind,.str r.1.name,.sl false 1 16 (rows w9 r.1.words),.sl false 4 72 (rows u6.cells r.1.subs)]∧st'=puts st [(o0,(.arr 0 5 0 [[.str B0,.int .i64 r.2.1,.int .i64 r.2.2.1,.int .i64 r.2.2.2.1,.int .i64 r.2.2.2.2]]))]):=by
 intro n
 induction n with
 |zero=>intro a1 B0 F3 P7 S4 G5 r h;cases h
 |succ n ih=>
  intro a1 B0 F3 P7 S4 G5 r h st o0 hnd R8
  unfold y9 at h
  have ho0:=F2 R8
  have fx:=idf ho0
  refine fb 154 [.cell 4 25] [0,1,4,5,6,7,8,15,24,25,28,29,30,31,32,33,35,59,60,61,72,73,90,101,115,116,119] Tryz.func47 fun hsc=>?_
  refine aO (s':=(E8 st [(o0,(.arr 0 5 0 [[.str B0,.int .i64 F3,.int .i64 P7,.int .i64 S4,.int .i64 G5]]))])) (C5 (by simp[R8])) ?_
  refine cd h (fun hc h=>?_) fun hc h=>?_
  ·refine rr ?_
   exact fuo (.agg [.int .i64 0,.str [],.sl false 1 16 (rows w9 []),.sl false 4 72 (rows u6.cells [])]) (.agg _ _ (.cons _ _ _ _ .s (.cons _ _ _ _ .s (.cons _ _ _ _ (.y5 _ _ _ (by decide)) (.cons _ _ _ _ (.y5 _ _ _ (by decide)) .nil))))) h hsc
  ·refine rn ?_
   obtain⟨v1,hv1,h⟩:=M1 h
   refine(I8 _ _ _ _ _ _ hv1 _ _ hnd (by simp only[go_sem,fx])).mono ?_
   rintro d1 st1 ⟨rfl,rfl⟩
   refine cd h (fun hc h=>?_) fun hc h=>?_
   ·refine rs ?_
    refine dw [8] 0 ?_
    obtain⟨v2,hv2,h⟩:=M1 h
    refine gn [o0] (fun st2 h2=>(F6 _ _ _ _ _ _ _ _ hv2 st2 _ hnd ((h2 _ (by simp)).trans (by simp only[go_sem,fx])))) (by simp) (by simp only[List.mem_cons,List.not_mem_nil,or_false,forall_eq_or_imp,forall_eq];exact⟨by first|omega|(simp<;>omega),_,(by simp only[go_sem,fx]<;>rfl),Ob.noConfusion⟩) (by simp) ?_
    try simp only[go_sem,fx]
    try refine⟨by first|omega|(simp<;>omega),?_⟩
    refine rr ?_
    exact fuo (.agg [.int .i64 0,.str [],.sl false 1 16 (rows w9 []),.sl false 4 72 (rows u6.cells [])]) (.agg _ _ (.cons _ _ _ _ .s (.cons _ _ _ _ .s (.cons _ _ _ _ (.y5 _ _ _ (by decide)) (.cons _ _ _ _ (.y5 _ _ _ (by decide)) .nil))))) h hsc
   ·refine cd h (fun hc h=>?_) fun hc h=>?_
    ·refine rs ?_
     refine dw [8] 0 ?_
     obtain⟨v3,hv3,h⟩:=M1 h
     refine gn [o0] (fun st2 h2=>(F6 _ _ _ _ _ _ _ _ hv3 st2 _ hnd ((h2 _ (by simp)).trans (by simp only[go_sem,fx])))) (by simp) (by simp only[List.mem_cons,List.not_mem_nil,or_false,forall_eq_or_imp,forall_eq];exact⟨by first|omega|(simp<;>omega),_,(by simp only[go_sem,fx]<;>rfl),Ob.noConfusion⟩) (by simp) ?_
     try simp only[go_sem,fx]
     try refine⟨by first|omega|(simp<;>omega),?_⟩
     refine rr ?_
     exact fuo (.agg [.int .i64 0,.str [],.sl false 1 16 (rows w9 []),.sl false 4 72 (rows u6.cells [])]) (.agg _ _ (.cons _ _ _ _ .s (.cons _ _ _ _ .s (.cons _ _ _ _ (.y5 _ _ _ (by decide)) (.cons _ _ _ _ (.y5 _ _ _ (by decide)) .nil))))) h hsc
    ·refine cd h (fun hc h=>?_) fun hc h=>?_
     ·refine rn ?_
      obtain⟨v4,hv4,h⟩:=M1 h
      refine(ih _ _ _ _ _ _ _ hv4 _ _ hnd (by simp only[go_sem,fx])).mono ?_
      rintro d1 st1 ⟨rfl,rfl⟩
      refine rr ?_
      exact fuo (.agg [.int .i64 4,.str [],.sl false 1 16 (rows w9 []),.sl false 4 72 (rows u6.cells [v4.1])]) (.agg _ _ (.cons _ _ _ _ .s (.cons _ _ _ _ .s (.cons _ _ _ _ (.y5 _ _ _ (by decide)) (.cons _ _ _ _ (.ref _ _ _ _ _ _ _ _ _ (L4.trans rfl) eK (by decide) (by simp[Imm,D.imm]) (by simp only[go_sem,rows,List.map_cons,List.map_nil])) .nil))))) h hsc
     ·refine cd h (fun hc h=>?_) fun hc h=>?_
      ·refine rn ?_
       obtain⟨v6,hv6,h⟩:=M1 h
       refine(jv (y9 n) ih n _ _ _ _ _ _ _ hv6 _ _ hnd (by simp only[go_sem,fx])).mono ?_
       rintro d1 st1 ⟨rfl,rfl⟩
       refine rr ?_
       exact fuo (.agg [.int .i64 v6.1.kind,.str v6.1.name,.sl false 1 16 (rows w9 v6.1.words),.sl false 4 72 (rows u6.cells v6.1.subs)]) (.same _) h hsc
      ·refine rn ?_
       obtain⟨v7,hv7,h⟩:=M1 h
       refine(P6 n _ _ _ _ _ _ hv7 _ _ hnd (by simp only[go_sem,fx])).mono ?_
       rintro d1 st1 ⟨rfl,rfl⟩
       refine rn ?_
       obtain⟨v8,hv8,h⟩:=M1 h
       refine(I8 _ _ _ _ _ _ hv8 _ _ hnd (by simp only[go_sem,fx])).mono ?_
       rintro d1 st1 ⟨rfl,rfl⟩
       refine cd h (fun hc h=>?_) fun hc h=>?_
       ·refine rn ?_
        obtain⟨v9,hv9,h⟩:=M1 h
        refine(jd n _ _ _ _ _ _ hv9 _ _ hnd (by simp only[go_sem,fx])).mono ?_
        rintro d1 st1 ⟨rfl,rfl⟩
        refine rr ?_
        exact fuo (.agg [.int .i64 2,.str v7.1,.sl false 1 16 (rows w9 v9.1),.sl false 4 72 (rows u6.cells [])]) (.agg _ _ (.cons _ _ _ _ .s (.cons _ _ _ _ .s (.cons _ _ _ _ .s (.cons _ _ _ _ (.y5 _ _ _ (by decide)) .nil))))) h hsc
       ·refine cd h (fun hc h=>?_) fun hc h=>?_
        ·refine rr ?_
         exact fuo (.agg [.int .i64 1,.str [],.sl false 1 16 (rows w9 []),.sl false 4 72 (rows u6.cells [])]) (.agg _ _ (.cons _ _ _ _ .s (.cons _ _ _ _ .s (.cons _ _ _ _ (.y5 _ _ _ (by decide)) (.cons _ _ _ _ (.y5 _ _ _ (by decide)) .nil))))) h hsc
        ·refine rn ?_
         refine aF (E9 (y9 n) n B0 v7 G5 a1) r (fun(gj0:Unit) (j0:Bool)=>[(0,.ptr o0 0 0 0),(1,.int .i64 a1),(4,.ptr st.length 0 0 0),(6,.str v7.1),(119,.bool j0)]) (fun(gj0:Unit) (j0:Bool)=>(E8 st [(o0,(.arr 0 5 0 [[.str B0,.int .i64 v7.2.1,.int .i64 v7.2.2.1,.int .i64 v7.2.2.2,.int .i64 (wr .i64 (G5+1))]]))])++[some (.arr 0 4 0 [[.int .i64 0,.str [],.y5,.y5]])]) (fun gj0 j0 fr1 st1 h hb=>?_) (fun hj0=>?_)
         ·try simp only[go_sem,fx]
          unfold E9 at h
          refine R6 hb ?_
          refine cd h (fun hc h=>?_) fun hc h=>?_
          ·refine rn ?_
           obtain⟨v10,hv10,h⟩:=M1 h
           refine(F7 _ _ _ _ _ _ _ hv10 _ _ hnd (by simp only[go_sem,fx])).mono ?_
           rintro d1 st1 ⟨rfl,rfl⟩
           try simp only[go_sem,fx]
           obtain⟨c11,DS,h⟩:=gG h
           have fy:=(show [([97,108,108],[.int .i64 8])]=mrw mZ c11 from by rw[DS];exact gS (κ:=Bs) (E:=mZ) [97,108,108] 8 [])
           have fy:=fa fy (show y6 [97,108,108] [.int .i64 8] (mrw mZ [])=mrw mZ c11 from by rw[DS];exact gS (κ:=Bs) (E:=mZ) [97,108,108] 8 [])
           obtain⟨c14,JO,h⟩:=gG h
           have fy:=fa fy (show y6 [115,111,109,101] [.int .i64 9] (mrw mZ c11)=mrw mZ c14 from by rw[JO];exact gS (κ:=Bs) (E:=mZ) [115,111,109,101] 9 c11)
           refine r1 ?_
           refine rn ?_
           obtain⟨v16,hv16,h⟩:=M1 h
           refine(P6 n _ _ _ _ _ _ hv16 _ _ hnd (by simp only[go_sem,fx])).mono ?_
           rintro d1 st1 ⟨rfl,rfl⟩
           refine rn ?_
           obtain⟨v17,hv17,h⟩:=M1 h
           refine(F7 _ _ _ _ _ _ _ hv17 _ _ hnd (by simp only[go_sem,fx])).mono ?_
           rintro d1 st1 ⟨rfl,rfl⟩
           refine rn ?_
           obtain⟨v18,hv18,h⟩:=M1 h
           refine(ih _ _ _ _ _ _ _ hv18 _ _ hnd (by simp only[go_sem,fx])).mono ?_
           rintro d1 st1 ⟨rfl,rfl⟩
           refine rr ?_
           exact fuo (.agg [.int .i64 ((assoc v7.1 c14).getD default),.str v16.1,.sl false 1 16 (rows w9 []),.sl false 4 72 (rows u6.cells [v18.1])]) (.agg _ _ (.cons _ _ _ _ .s (.cons _ _ _ _ .s (.cons _ _ _ _ (.y5 _ _ _ (by decide)) (.cons _ _ _ _ (.ref _ _ _ _ _ _ _ _ _ (L4.trans rfl) eK (by decide) (by simp[Imm,D.imm]) (by simp only[go_sem,rows,List.map_cons,List.map_nil])) .nil))))) h hsc
          ·refine rn ?_
           refine dw [8] 0 ?_
           obtain⟨v20,hv20,h⟩:=M1 h
           refine gn [o0] (fun st2 h2=>(F6 _ _ _ _ _ _ _ _ hv20 st2 _ hnd ((h2 _ (by simp)).trans (by simp only[go_sem,fx])))) (by simp) (by simp only[List.mem_cons,List.not_mem_nil,or_false,forall_eq_or_imp,forall_eq];exact⟨by first|omega|(simp<;>omega),_,(by simp only[go_sem,fx]<;>rfl),Ob.noConfusion⟩) (by simp) ?_
           try simp only[go_sem,fx]
           try refine⟨by first|omega|(simp<;>omega),?_⟩
           refine rr ?_
           exact fuo (.agg [.int .i64 0,.str [],.sl false 1 16 (rows w9 []),.sl false 4 72 (rows u6.cells [])]) (.agg _ _ (.cons _ _ _ _ .s (.cons _ _ _ _ .s (.cons _ _ _ _ (.y5 _ _ _ (by decide)) (.cons _ _ _ _ (.y5 _ _ _ (by decide)) .nil))))) h hsc
         ·refine cd h (fun hc h=>?_) fun hc h=>?_
          ·refine r0 ?_
           refine hj0 () _ _ _ h ?_;exact(bu hsc)
          ·refine r0 ?_
           refine hj0 () _ _ _ h ?_;exact(bu hsc)
end Go.Proofs.YtahjhbkhcaphgaaGreatDoor
