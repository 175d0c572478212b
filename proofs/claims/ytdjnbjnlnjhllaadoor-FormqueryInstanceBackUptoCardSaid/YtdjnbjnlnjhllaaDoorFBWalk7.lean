import Derived.Test.YtdjnbjnlnjhllaaDoorFBWalk6
set_option linter.unusedVariables false
set_option linter.unusedSimpArgs false
set_option maxHeartbeats 2000000
set_option maxRecDepth 100000
namespace Go.Proofs.YtdjnbjnlnjhllaaDoor
open Go Go.Am
theorem Wv(n:Nat)(a0:LZ)(r:LZ×Mi)(h:PV n a0=some r):Pure Tryd.prog gl 12 [.agg [.int .i64 a0.kind,.str a0.name,.sl false 1 16 (rows Me a0.words),.sl false 4 72 (rows LZ.cells a0.subs)]] (.tup [.agg [.int .i64 r.1.kind,.str r.1.name,.sl false 1 16 (rows Me r.1.words),.sl false 4 72 (rows LZ.cells r.1.subs)],.agg [.int .i64 r.2.code,.int .i64 r.2.index]]):=by
 intro st
 unfold PV at h
 have fx:=trivial
 refine fb 15 [.cell 2 25,.cell 3 30] [0,1,2,3,4,9] Tryd.func12 fun hsc=>?_
 refine cl h (OZ n _) fun v1 h=>?_
 refine cd h (fun hc h=>?_) fun hc h=>?_
 ·refine rs ?_
  refine dw [1,2] 0 ?_
  try refine⟨by first|omega|(simp<;>omega),?_⟩
  refine rr ?_
  exact fo (.tup [.agg [.int .i64 0,.str [],.sl false 1 16 (rows Me []),.sl false 4 72 (rows LZ.cells [])],.agg [.int .i64 v1.code,.int .i64 v1.index]]) (.tup _ _ (.cons _ _ _ _ (.agg _ _ (.cons _ _ _ _ .s (.cons _ _ _ _ .s (.cons _ _ _ _ (.Mk _ _ _ (by decide)) (.cons _ _ _ _ (.Mk _ _ _ (by decide)) .nil))))) (.cons _ _ _ _ .s .nil)) rfl) h hsc
 ·refine cl h (RF n _) fun v2 h=>?_
  exact rt
theorem ZN:∀(n:Nat) (a0:LZ) (r:Int×Int) (h:Rn n a0=some r),Pure Tryd.prog gl 37 [.agg [.int .i64 a0.kind,.str a0.name,.sl false 1 16 (rows Me a0.words),.sl false 4 72 (rows LZ.cells a0.subs)]] (.tup [.int .i64 r.1,.int .i64 r.2]):=by
 intro n
 induction n with
 |zero=>intro a0 r h;cases h
 |succ n ih=>
  intro a0 r h st
  unfold Rn at h
  have fx:=trivial
  refine fb 32 [.tmp 2,.tmp 3] [0,1,2,3,4,5,7,8,9,11,12,13,14] Tryd.func37 fun hsc=>?_
  refine aln 11 fun hl0=>?_
  refine rng (body:=RY (Rn n) a0) (kk:=RZ) (n:=a0.subs.length) (s0:=(1,0))
   (fun(gs0:Unit) (k0:Nat) (s0:Int×Int)=>[(4,.int .i64 s0.1),(5,.int .i64 s0.2),(11,.sl false 4 72 (rows LZ.cells a0.subs)),(12,.int .i64 (↑a0.subs.length:Int)),(13,.int .i64 (↑k0:Int))])
   (fun(gs0:Unit) (k0:Nat) (s0:Int×Int)=>st)
   (fun(gt0:Unit) (t0:Int×Int)=>[(4,.int .i64 t0.1),(5,.int .i64 t0.2)])
   (fun(gt0:Unit) (t0:Int×Int)=>st)
   () fx hl0 h (bm0 hsc)
   (fun gs0 k0 s0 b0 fx h hx0=>?_) (fun gs0 s0=>?_) (fun gt0 t0 fr1 st1 h hb=>?_)
  ·unfold RY at h
   refine ct ?_
   refine cl h (ih _) fun v2 h=>?_
   refine rn ?_
   cases h
   exact Um () (bm0 hsc)
  ·refine cf ?_
   refine Ud ?_;simp only[go_sem,fx]
   exact⟨(),(Zf hsc)⟩
  ·try simp only[go_sem,fx]
   unfold RZ at h
   refine Ql hb ?_
   exact rt
theorem Pa(n:Nat)(a0:Int)(a1:Int)(a2:Bs)(MB:(List Ma))(r:Bs)(h:MA n a0 a1 a2 MB=some r):∀(st:St) (o0:Nat) (hnd: [o0].Nodup) (QM:Am.look st o0=some (.arr 0 1 0 [[.sl false 6 104 (rows Ma.cells MB)]])),Am.Spec Tryd.prog gl 34 [.int .i64 a0,.int .i64 a1,.str a2,.ptr o0 0 0 0] st (fun d st'=>d= .str r∧st'=puts st []):=by
 intro st o0 hnd QM
 unfold MA at h
 have ho0:=MZ QM
 have fx:=idf ho0
 refine fb 28 [.tmp 7] [0,1,2,3,7,8,12,21] Tryd.func34 fun hsc=>?_
 refine Tf (s':=(Nf st [(o0,(.arr 0 1 0 [[.sl false 6 104 (rows Ma.cells MB)]]))])) (MS (by simp[QM])) ?_
 refine rn ?_
 refine Vg (body:=NZ a1 MB a2) (kk:=Qt a2) (n:=n) (s0:=a0)
  (fun(gs0:Unit) (s0:Int)=>[(1,.int .i64 a1),(2,.str a2),(3,.ptr o0 0 0 0),(8,.int .i64 s0)])
  (fun(gs0:Unit) (s0:Int)=>(Nf st [(o0,(.arr 0 1 0 [[.sl false 6 104 (rows Ma.cells MB)]]))]))
  (fun(gt0:Unit) (t0:Unit)=>[(2,.str a2)])
  (fun(gt0:Unit) (t0:Unit)=>(Nf st [(o0,(.arr 0 1 0 [[.sl false 6 104 (rows Ma.cells MB)]]))]))
  () h (d7O hsc)
  (fun gs0 s0 b0 h hx0=>?_) (fun gt0 t0 fr1 st1 h hb=>?_)
 ·unfold NZ at h
  refine cd h (fun hc h=>?_) fun hc h=>?_
  ·obtain⟨fx,h⟩:=ck fx h
   refine cd h (fun hc h=>?_) fun hc h=>?_
   ·refine ra ?_
    cases h
    refine d0K ?_;have h:=congrArg some (hx0 _ rfl)
    refine rr ?_
    exact fus (.str ((get MB s0.toNat).text)) (.same _) h hsc (hr:=by rintro rfl;exact⟨rfl,MS (by simp[QM])⟩)
   ·refine rn ?_
    cases h
    exact Zc () (d7O hsc)
  ·refine rn ?_
   cases h
   exact Zd () (d7O hsc)
 ·try simp only[go_sem,fx]
  unfold Qt at h
  refine Ql hb ?_
  refine rr ?_
  exact fus (.str a2) (.same _) h hsc (hr:=by rintro rfl;exact⟨rfl,MS (by simp[QM])⟩)
theorem VA:∀(n:Nat) (a0:LZ) (a1:Int) (a2:(List Bs)) (MB:Int) (QE:Bs) (QF:(List Bs)) (QG:(List LZ)) (PO:(List Bs)) (Qw:(List Bs)) (OH:(List Bs)) (MN:(List Ma)) (Pf:Int) (TU:Int) (r:LZ×Bool×Int) (h:Mq n a0 a1 a2 MB QE QF QG PO Qw OH MN Pf TU=some r),∀(st:St) (o0 o1 o2 o3 o4 o5:Nat) (hnd: [o0,o1,o2,o3,o4,o5].Nodup) (QM:Am.look st o0=some (.arr 0 7 0 [[.int .i64 MB,.str QE,.sl false 1 16 (rows Me QF),.sl false 4 72 (rows LZ.cells QG),.sl false 1 16 (rows Me PO),.sl false 1 16 (rows Me Qw),.sl false 1 16 (rows Me OH)]])) (Xm:Am.look st o1=some (.arr 0 1 0 [[.sl false 6 104 (rows Ma.cells MN)]])) (d3A:Am.look st o2=some (.arr 0 1 0 [[.int .i64 Pf]])) (i1d:Am.look st o3=some (.arr 0 1 0 [[.int .i64 TU]])) (i1e:Am.look st o4=some (.arr 0 1 0 [[.fn 34 [] [.ptr o1 0 0 0]]])) (i5k:Am.look st o5=some (.arr 0 1 0 [[.fn 35 [] [.ptr o0 0 0 0,.ptr o1 0 0 0,.ptr o2 0 0 0,.ptr o3 0 0 0,.ptr o4 0 0 0,.ptr o5 0 0 0]]])),Am.Spec Tryd.prog gl 35 [.agg [.int .i64 a0.kind,.str a0.name,.sl false 1 16 (rows Me a0.words),.sl false 4 72 (rows LZ.cells a0.subs)],.int .i64 a1,.sl false 1 16 (rows Me a2),.ptr o0 0 0 0,.ptr o1 0 0 0,.ptr o2 0 0 0,.ptr o3 0 0 0,.ptr o4 0 0 0,.ptr o5 0 0 0] st (fun d st'=>d= .tup [.agg [.int .i64 r.1.kind,.str r.1.name,.sl false 1 16 (rows Me r.1.words),.sl false 4 72 (rows LZ.cells r.1.subs)],.bool r.2.1]∧st'=puts st [(o0,(.arr 0 7 0 [[.int .i64 MB,.str QE,.sl false 1 16 (rows Me QF),.sl false 4 72 (rows LZ.cells QG),.sl false 1 16 (rows Me PO),.sl false 1 16 (rows Me Qw),.sl false 1 16 (rows Me OH)]])),(o1,(.arr 0 1 0 [[.sl false 6 104 (rows Ma.cells MN)]])),(o2,(.arr 0 1 0 [[.int .i64 Pf]])),(o3,(.arr 0 1 0 [[.int .i64 r.2.2]])),(o4,(.arr 0 1 0 [[.fn 34 [] [.ptr o1 0 0 0]]])),(o5,(.arr 0 1 0 [[.fn 35 [] [.ptr o0 0 0 0,.ptr o1 0 0 0,.ptr o2 0 0 0,.ptr o3 0 0 0,.ptr o4 0 0 0,.ptr o5 0 0 0]]]))]):=by
 intro n
 induction n with
 |zero=>intro a0 a1 a2 MB QE QF QG PO Qw OH MN Pf TU r h;cases h
 |succ n ih=>
  intro a0 a1 a2 MB QE QF QG PO Qw OH MN Pf TU r h st o0 o1 o2 o3 o4 o5 hnd QM Xm d3A i1d i1e i5k
  unfold Mq at h
  have ho0:=MZ QM
  have ho1:=MZ Xm
  have ho2:=MZ d3A
  have ho3:=MZ i1d
  have ho4:=MZ i1e
  have ho5:=MZ i5k
  have fx:=fa (fa (fa (fa (fa (fa (idf ho0) (idf ho1)) (idf ho2)) (idf ho3)) (idf ho4)) (idf ho5)) (nd6 hnd)
  refine fb 175 [.cell 12 25,.tmp 13] [0,1,2,3,4,5,6,7,8,9,12,13,15,16,17,18,20,21,23,24,25,28,36,37,38,39,46,61,62,63,64,65,76,77,78,79,84,109,130,143,144,147,148,149,150,170] Tryd.func35 fun hsc=>?_
  refine Tf (s':=(Nf st [(o0,(.arr 0 7 0 [[.int .i64 MB,.str QE,.sl false 1 16 (rows Me QF),.sl false 4 72 (rows LZ.cells QG),.sl false 1 16 (rows Me PO),.sl false 1 16 (rows Me Qw),.sl false 1 16 (rows Me OH)]])),(o1,(.arr 0 1 0 [[.sl false 6 104 (rows Ma.cells MN)]])),(o2,(.arr 0 1 0 [[.int .i64 Pf]])),(o3,(.arr 0 1 0 [[.int .i64 TU]])),(o4,(.arr 0 1 0 [[.fn 34 [] [.ptr o1 0 0 0]]])),(o5,(.arr 0 1 0 [[.fn 35 [] [.ptr o0 0 0 0,.ptr o1 0 0 0,.ptr o2 0 0 0,.ptr o3 0 0 0,.ptr o4 0 0 0,.ptr o5 0 0 0]]]))])) (MS (by simp[QM,Xm,d3A,i1d,i1e,i5k])) ?_
  refine cl h (Ss _ _) fun v1 h=>?_
  refine rn ?_
  refine Sw (Nq (Mq n) n a2 a0 Pf OH MN PO a1 MB QE QF QG Qw TU) r (fun(gj0:Unit) (j0:Unit)=>[(1,.int .i64 a1),(2,.sl false 1 16 (rows Me a2)),(3,.ptr o0 0 0 0),(4,.ptr o1 0 0 0),(5,.ptr o2 0 0 0),(6,.ptr o3 0 0 0),(7,.ptr o4 0 0 0),(8,.ptr o5 0 0 0),(9,.ptr st.length 0 0 0),(12,.ptr (st.length+1) 0 0 0)]) (fun(gj0:Unit) (j0:Unit)=>(Nf st [(o0,(.arr 0 7 0 [[.int .i64 MB,.str QE,.sl false 1 16 (rows Me QF),.sl false 4 72 (rows LZ.cells QG),.sl false 1 16 (rows Me PO),.sl false 1 16 (rows Me Qw),.sl false 1 16 (rows Me OH)]])),(o1,(.arr 0 1 0 [[.sl false 6 104 (rows Ma.cells MN)]])),(o2,(.arr 0 1 0 [[.int .i64 Pf]])),(o3,(.arr 0 1 0 [[.int .i64 TU]])),(o4,(.arr 0 1 0 [[.fn 34 [] [.ptr o1 0 0 0]]])),(o5,(.arr 0 1 0 [[.fn 35 [] [.ptr o0 0 0 0,.ptr o1 0 0 0,.ptr o2 0 0 0,.ptr o3 0 0 0,.ptr o4 0 0 0,.ptr o5 0 0 0]]]))])++[some (.arr 0 4 0 [[.int .i64 a0.kind,.str a0.name,.sl false 1 16 (rows Me a0.words),.sl false 4 72 (rows LZ.cells a0.subs)]]),some (.arr 0 4 0 [[.int .i64 0,.str [],.Mk,.Mk]])]) (fun gj0 j0 fr1 st1 h hb=>?_) (fun hj0=>?_)
  ·try simp only[go_sem,fx]
   unfold Nq at h
   refine Ql hb ?_
   refine r0 ?_
   refine r0 ?_
   refine r0 ?_
   (repeat apply sq_)
   refine Te 1 16 ?_
   try simp only[List.append_assoc,List.cons_append,List.nil_append]
   refine Ql (F:=[(1,.int .i64 a1),(2,.sl false 1 16 (rows Me a2)),(3,.ptr o0 0 0 0),(4,.ptr o1 0 0 0),(5,.ptr o2 0 0 0),(6,.ptr o3 0 0 0),(7,.ptr o4 0 0 0),(8,.ptr o5 0 0 0),(9,.ptr st.length 0 0 0),(12,.ptr (st.length+1) 0 0 0),(18,.ptr (st.length+2) 0 0 0),(76,.sl false 1 16 (rows Me a0.words)),(77,.int .i64 (↑a0.words.length:Int)),(78,.int .i64 0)]) (T:=(Nf st [(o0,(.arr 0 7 0 [[.int .i64 MB,.str QE,.sl false 1 16 (rows Me QF),.sl false 4 72 (rows LZ.cells QG),.sl false 1 16 (rows Me PO),.sl false 1 16 (rows Me Qw),.sl false 1 16 (rows Me OH)]])),(o1,(.arr 0 1 0 [[.sl false 6 104 (rows Ma.cells MN)]])),(o2,(.arr 0 1 0 [[.int .i64 Pf]])),(o3,(.arr 0 1 0 [[.int .i64 (wr .i64 (TU+1))]])),(o4,(.arr 0 1 0 [[.fn 34 [] [.ptr o1 0 0 0]]])),(o5,(.arr 0 1 0 [[.fn 35 [] [.ptr o0 0 0 0,.ptr o1 0 0 0,.ptr o2 0 0 0,.ptr o3 0 0 0,.ptr o4 0 0 0,.ptr o5 0 0 0]]]))])++[some (.arr 0 4 0 [[.int .i64 a0.kind,.str a0.name,.sl false 1 16 (rows Me a0.words),.sl false 4 72 (rows LZ.cells a0.subs)]]),some (.arr 0 4 0 [[.int .i64 0,.str [],.Mk,.Mk]]),some (.arr 0 4 0 [[.int .i64 a0.kind,.str a0.name,.ref false (st.length+3) 0 0 0,.Mk]]),some (.arr 0 1 16 (rows Me []))]) (Vh (by simp) (Qm hsc (by simp<;>omega)) (.lv (.lv (.live _ _ _ _ (.arr _ _ _ _ _ (.cons _ _ _ _ (.cons _ _ _ _ .s (.cons _ _ _ _ .s (.cons _ _ _ _ (.nref _ _ _ _ _ _ (Oh.trans rfl)) (.cons _ _ _ _ .s .nil)))) (.same _))) (.lv (.nil _))))) (by simp<;>omega) ⟨.s,.s,.s,.s,.s,.s,.s,.s,.s,.s,.s,.s,.s,.s,trivial⟩ (by simp<;>omega)) ?_
   refine aln 76 fun hl2=>?_
   refine rng (body:=OU n a2 a0 Pf OH MN PO) (kk:=OX (Mq n) n a0 a2 Pf OH MN a1 MB QE QF QG PO Qw TU) (n:=a0.words.length) (s0:=[])
    (fun(gs2:Nat) (k2:Nat) (s2:(List Bs))=>[(1,.int .i64 a1),(2,.sl false 1 16 (rows Me a2)),(3,.ptr o0 0 0 0),(4,.ptr o1 0 0 0),(5,.ptr o2 0 0 0),(6,.ptr o3 0 0 0),(7,.ptr o4 0 0 0),(8,.ptr o5 0 0 0),(9,.ptr st.length 0 0 0),(12,.ptr (st.length+1) 0 0 0),(18,.ptr (st.length+2) 0 0 0),(76,.sl false 1 16 (rows Me a0.words)),(77,.int .i64 (↑a0.words.length:Int)),(78,.int .i64 (↑k2:Int))])
    (fun(gs2:Nat) (k2:Nat) (s2:(List Bs))=>(Nf st [(o0,(.arr 0 7 0 [[.int .i64 MB,.str QE,.sl false 1 16 (rows Me QF),.sl false 4 72 (rows LZ.cells QG),.sl false 1 16 (rows Me PO),.sl false 1 16 (rows Me Qw),.sl false 1 16 (rows Me OH)]])),(o1,(.arr 0 1 0 [[.sl false 6 104 (rows Ma.cells MN)]])),(o2,(.arr 0 1 0 [[.int .i64 Pf]])),(o3,(.arr 0 1 0 [[.int .i64 (wr .i64 (TU+1))]])),(o4,(.arr 0 1 0 [[.fn 34 [] [.ptr o1 0 0 0]]])),(o5,(.arr 0 1 0 [[.fn 35 [] [.ptr o0 0 0 0,.ptr o1 0 0 0,.ptr o2 0 0 0,.ptr o3 0 0 0,.ptr o4 0 0 0,.ptr o5 0 0 0]]]))])++[some (.arr 0 4 0 [[.int .i64 a0.kind,.str a0.name,.sl false 1 16 (rows Me a0.words),.sl false 4 72 (rows LZ.cells a0.subs)]]),some (.arr 0 4 0 [[.int .i64 0,.str [],.Mk,.Mk]]),some (.arr 0 4 0 [[.int .i64 a0.kind,.str a0.name,.ref false (st.length+3) gs2 0 s2.length,.Mk]]),some (.arr gs2 1 16 (rows Me s2))])
    (fun(gt2:Nat) (t2:(List Bs))=>[(1,.int .i64 a1),(2,.sl false 1 16 (rows Me a2)),(3,.ptr o0 0 0 0),(4,.ptr o1 0 0 0),(5,.ptr o2 0 0 0),(6,.ptr o3 0 0 0),(7,.ptr o4 0 0 0),(8,.ptr o5 0 0 0),(9,.ptr st.length 0 0 0),(12,.ptr (st.length+1) 0 0 0),(18,.ptr (st.length+2) 0 0 0)])
    (fun(gt2:Nat) (t2:(List Bs))=>(Nf st [(o0,(.arr 0 7 0 [[.int .i64 MB,.str QE,.sl false 1 16 (rows Me QF),.sl false 4 72 (rows LZ.cells QG),.sl false 1 16 (rows Me PO),.sl false 1 16 (rows Me Qw),.sl false 1 16 (rows Me OH)]])),(o1,(.arr 0 1 0 [[.sl false 6 104 (rows Ma.cells MN)]])),(o2,(.arr 0 1 0 [[.int .i64 Pf]])),(o3,(.arr 0 1 0 [[.int .i64 (wr .i64 (TU+1))]])),(o4,(.arr 0 1 0 [[.fn 34 [] [.ptr o1 0 0 0]]])),(o5,(.arr 0 1 0 [[.fn 35 [] [.ptr o0 0 0 0,.ptr o1 0 0 0,.ptr o2 0 0 0,.ptr o3 0 0 0,.ptr o4 0 0 0,.ptr o5 0 0 0]]]))])++[some (.arr 0 4 0 [[.int .i64 a0.kind,.str a0.name,.sl false 1 16 (rows Me a0.words),.sl false 4 72 (rows LZ.cells a0.subs)]]),some (.arr 0 4 0 [[.int .i64 0,.str [],.Mk,.Mk]]),some (.arr 0 4 0 [[.int .i64 a0.kind,.str a0.name,.ref false (st.length+3) gt2 0 t2.length,.Mk]]),some (.arr gt2 1 16 (rows Me t2))])
    0 fx hl2 h (bu hsc)
    (fun gs2 k2 s2 b2 fx h hx2=>?_) (fun gs2 s2=>?_) (fun gt2 t2 fr1 st1 h hb=>?_)
   ·unfold OU at h
    refine ct ?_
    refine cl h (Mh _ _) fun v22 h=>?_
    refine cd h (fun hc h=>?_) fun hc h=>?_
    ·refine rn ?_
     obtain⟨v23,hv23,h⟩:=QJ h
     refine(Pa n _ _ _ _ _ hv23 _ _ (by simp[fx]<;>omega) (by simp only[go_sem,fx])).mono ?_
     rintro d1 st1 ⟨rfl,rfl⟩
     try simp only[go_sem,fx]
     obtain⟨c25,i6b,h⟩:=Yp h
     have fy:=(show rows Me s2++[[.str v23]]=rows Me c25 from by rw[i6b];first|exact ND (E:=Me) s2 [v23]|simp only[go_sem,rows,List.map_append,List.map_cons,List.map_nil])
     have fy:=fa fy (show s2.length+1=c25.length from by rw[i6b];simp)
     obtain⟨fx,h⟩:=ck fx h
     refine r1 ?_
     refine rn ?_
     cases h
     exact Um (gs2+1) (bu hsc)
    ·refine rn ?_
     obtain⟨v30,hv30,h⟩:=QJ h
     refine(Pa n _ _ _ _ _ hv30 _ _ (by simp[fx]<;>omega) (by simp only[go_sem,fx])).mono ?_
     rintro d1 st1 ⟨rfl,rfl⟩
     try simp only[go_sem,fx]
     obtain⟨c32,i6c,h⟩:=Yp h
     have fy:=(show rows Me s2++[[.str v30]]=rows Me c32 from by rw[i6c];first|exact ND (E:=Me) s2 [v30]|simp only[go_sem,rows,List.map_append,List.map_cons,List.map_nil])
     have fy:=fa fy (show s2.length+1=c32.length from by rw[i6c];simp)
     obtain⟨fx,h⟩:=ck fx h
     refine r1 ?_
     refine rn ?_
     cases h
     exact Um (gs2+1) (bu hsc)
   ·refine cf ?_
    refine Ud ?_;simp only[go_sem,fx]
    exact⟨gs2,(bu hsc)⟩
   ·try simp only[go_sem,fx]
    unfold OX at h
    refine Ql hb ?_
    refine cl h (Nh _) fun v37 h=>?_
    refine rn ?_
    refine Sw (MW (Mq n) a0 a1 MB QE QF QG PO Qw OH MN Pf TU t2) r (fun(gj3:Unit) (j3:Bs×(List Bs))=>[(1,.int .i64 a1),(2,.sl false 1 16 (rows Me j3.2)),(6,.ptr o3 0 0 0),(8,.ptr o5 0 0 0),(9,.ptr st.length 0 0 0),(12,.ptr (st.length+1) 0 0 0),(18,.ptr (st.length+2) 0 0 0)]) (fun(gj3:Unit) (j3:Bs×(List Bs))=>(Nf st [(o0,(.arr 0 7 0 [[.int .i64 MB,.str QE,.sl false 1 16 (rows Me QF),.sl false 4 72 (rows LZ.cells QG),.sl false 1 16 (rows Me PO),.sl false 1 16 (rows Me Qw),.sl false 1 16 (rows Me OH)]])),(o1,(.arr 0 1 0 [[.sl false 6 104 (rows Ma.cells MN)]])),(o2,(.arr 0 1 0 [[.int .i64 Pf]])),(o3,(.arr 0 1 0 [[.int .i64 (wr .i64 (TU+1))]])),(o4,(.arr 0 1 0 [[.fn 34 [] [.ptr o1 0 0 0]]])),(o5,(.arr 0 1 0 [[.fn 35 [] [.ptr o0 0 0 0,.ptr o1 0 0 0,.ptr o2 0 0 0,.ptr o3 0 0 0,.ptr o4 0 0 0,.ptr o5 0 0 0]]]))])++[some (.arr 0 4 0 [[.int .i64 a0.kind,.str a0.name,.sl false 1 16 (rows Me a0.words),.sl false 4 72 (rows LZ.cells a0.subs)]]),some (.arr 0 4 0 [[.int .i64 0,.str [],.Mk,.Mk]]),some (.arr 0 4 0 [[.int .i64 a0.kind,.str j3.1,.ref false (st.length+3) gt2 0 t2.length,.Mk]]),some (.arr gt2 1 16 (rows Me t2))]) (fun gj3 j3 fr1 st1 h hb=>?_) (fun hj3=>?_)
    ·try simp only[go_sem,fx]
     unfold MW at h
     refine Ql hb ?_
     (repeat apply sq_)
     refine Ql (F:=[(1,.int .i64 a1),(2,.sl false 1 16 (rows Me j3.2)),(6,.ptr o3 0 0 0),(8,.ptr o5 0 0 0),(9,.ptr st.length 0 0 0),(12,.ptr (st.length+1) 0 0 0),(18,.ptr (st.length+2) 0 0 0)]) (T:=(Nf st [(o0,(.arr 0 7 0 [[.int .i64 MB,.str QE,.sl false 1 16 (rows Me QF),.sl false 4 72 (rows LZ.cells QG),.sl false 1 16 (rows Me PO),.sl false 1 16 (rows Me Qw),.sl false 1 16 (rows Me OH)]])),(o1,(.arr 0 1 0 [[.sl false 6 104 (rows Ma.cells MN)]])),(o2,(.arr 0 1 0 [[.int .i64 Pf]])),(o3,(.arr 0 1 0 [[.int .i64 (wr .i64 (TU+1))]])),(o4,(.arr 0 1 0 [[.fn 34 [] [.ptr o1 0 0 0]]])),(o5,(.arr 0 1 0 [[.fn 35 [] [.ptr o0 0 0 0,.ptr o1 0 0 0,.ptr o2 0 0 0,.ptr o3 0 0 0,.ptr o4 0 0 0,.ptr o5 0 0 0]]]))])++[some (.arr 0 4 0 [[.int .i64 a0.kind,.str a0.name,.sl false 1 16 (rows Me a0.words),.sl false 4 72 (rows LZ.cells a0.subs)]]),some (.arr 0 4 0 [[.int .i64 0,.str [],.Mk,.Mk]]),some (.arr 0 4 0 [[.int .i64 a0.kind,.str j3.1,.sl false 1 16 (rows Me t2),.Mk]])]) (Vh (by simp) (Qm hsc (by simp<;>omega)) (.lv (.lv (.live _ _ _ _ (.arr _ _ _ _ _ (.cons _ _ _ _ (.cons _ _ _ _ .s (.cons _ _ _ _ .s (.cons _ _ _ _ (.ref _ _ _ _ _ _ _ _ _ (Oh.trans rfl) (SN (by first|decide|simp)) (by decide) (ZJ _) (by simp only[go_sem])) (.cons _ _ _ _ .s .nil)))) (.same _))) (.nil _)))) (by simp<;>omega) ⟨.s,.s,.s,.s,.s,.s,.s,trivial⟩ (by simp<;>omega)) ?_
     refine r0 ?_
     refine r0 ?_
     (repeat apply sq_)
     refine Te 4 72 ?_
     try simp only[List.append_assoc,List.cons_append,List.nil_append]
     refine Ql (F:=[(1,.int .i64 a1),(2,.sl false 1 16 (rows Me j3.2)),(8,.ptr o5 0 0 0),(12,.ptr (st.length+1) 0 0 0),(18,.ptr (st.length+2) 0 0 0),(21,.bool (bif (decide ((wr .i64 (TU+1))≤200))then(decide (a1≤40))else false)),(147,.sl false 4 72 (rows LZ.cells a0.subs)),(148,.int .i64 (↑a0.subs.length:Int)),(149,.int .i64 0)]) (T:=(Nf st [(o0,(.arr 0 7 0 [[.int .i64 MB,.str QE,.sl false 1 16 (rows Me QF),.sl false 4 72 (rows LZ.cells QG),.sl false 1 16 (rows Me PO),.sl false 1 16 (rows Me Qw),.sl false 1 16 (rows Me OH)]])),(o1,(.arr 0 1 0 [[.sl false 6 104 (rows Ma.cells MN)]])),(o2,(.arr 0 1 0 [[.int .i64 Pf]])),(o3,(.arr 0 1 0 [[.int .i64 (wr .i64 (TU+1))]])),(o4,(.arr 0 1 0 [[.fn 34 [] [.ptr o1 0 0 0]]])),(o5,(.arr 0 1 0 [[.fn 35 [] [.ptr o0 0 0 0,.ptr o1 0 0 0,.ptr o2 0 0 0,.ptr o3 0 0 0,.ptr o4 0 0 0,.ptr o5 0 0 0]]]))])++[some (.arr 0 4 0 [[.int .i64 a0.kind,.str a0.name,.sl false 1 16 (rows Me a0.words),.sl false 4 72 (rows LZ.cells a0.subs)]]),some (.arr 0 4 0 [[.int .i64 0,.str [],.Mk,.Mk]]),some (.arr 0 4 0 [[.int .i64 a0.kind,.str j3.1,.sl false 1 16 (rows Me t2),.ref false (st.length+3) 0 0 0]]),some (.arr 0 4 72 (rows LZ.cells []))]) (Vh (by simp) (Qm hsc (by simp<;>omega)) (.lv (.lv (.live _ _ _ _ (.arr _ _ _ _ _ (.cons _ _ _ _ (.cons _ _ _ _ .s (.cons _ _ _ _ .s (.cons _ _ _ _ .s (.cons _ _ _ _ (.nref _ _ _ _ _ _ (Oh.trans rfl)) .nil)))) (.same _))) (.lv (.nil _))))) (by simp<;>omega) ⟨.s,.s,.s,.s,.s,.s,.s,.s,.s,trivial⟩ (by simp<;>omega)) ?_
     refine aln 147 fun hl4=>?_
     refine rng (body:=OV (Mq n) a0 a1 j3 MB QE QF QG PO Qw OH MN Pf) (kk:=OW a0 j3 t2) (n:=a0.subs.length) (s0:=((wr .i64 (TU+1)),[],(bif (decide ((wr .i64 (TU+1))≤200))then(decide (a1≤40))else false)))
      (fun(gs4:Nat) (k4:Nat) (s4:Int×(List LZ)×Bool)=>[(1,.int .i64 a1),(2,.sl false 1 16 (rows Me j3.2)),(8,.ptr o5 0 0 0),(12,.ptr (st.length+1) 0 0 0),(18,.ptr (st.length+2) 0 0 0),(21,.bool s4.2.2),(147,.sl false 4 72 (rows LZ.cells a0.subs)),(148,.int .i64 (↑a0.subs.length:Int)),(149,.int .i64 (↑k4:Int))])
      (fun(gs4:Nat) (k4:Nat) (s4:Int×(List LZ)×Bool)=>(Nf st [(o0,(.arr 0 7 0 [[.int .i64 MB,.str QE,.sl false 1 16 (rows Me QF),.sl false 4 72 (rows LZ.cells QG),.sl false 1 16 (rows Me PO),.sl false 1 16 (rows Me Qw),.sl false 1 16 (rows Me OH)]])),(o1,(.arr 0 1 0 [[.sl false 6 104 (rows Ma.cells MN)]])),(o2,(.arr 0 1 0 [[.int .i64 Pf]])),(o3,(.arr 0 1 0 [[.int .i64 s4.1]])),(o4,(.arr 0 1 0 [[.fn 34 [] [.ptr o1 0 0 0]]])),(o5,(.arr 0 1 0 [[.fn 35 [] [.ptr o0 0 0 0,.ptr o1 0 0 0,.ptr o2 0 0 0,.ptr o3 0 0 0,.ptr o4 0 0 0,.ptr o5 0 0 0]]]))])++[none,some (.arr 0 4 0 [[.int .i64 0,.str [],.Mk,.Mk]]),some (.arr 0 4 0 [[.int .i64 a0.kind,.str j3.1,.sl false 1 16 (rows Me t2),.ref false (st.length+3) gs4 0 s4.2.1.length]]),some (.arr gs4 4 72 (rows LZ.cells s4.2.1))])
      (fun(gt4:Nat) (t4:Int×(List LZ)×Bool)=>[(12,.ptr (st.length+1) 0 0 0),(18,.ptr (st.length+2) 0 0 0),(21,.bool t4.2.2)])
      (fun(gt4:Nat) (t4:Int×(List LZ)×Bool)=>(Nf st [(o0,(.arr 0 7 0 [[.int .i64 MB,.str QE,.sl false 1 16 (rows Me QF),.sl false 4 72 (rows LZ.cells QG),.sl false 1 16 (rows Me PO),.sl false 1 16 (rows Me Qw),.sl false 1 16 (rows Me OH)]])),(o1,(.arr 0 1 0 [[.sl false 6 104 (rows Ma.cells MN)]])),(o2,(.arr 0 1 0 [[.int .i64 Pf]])),(o3,(.arr 0 1 0 [[.int .i64 t4.1]])),(o4,(.arr 0 1 0 [[.fn 34 [] [.ptr o1 0 0 0]]])),(o5,(.arr 0 1 0 [[.fn 35 [] [.ptr o0 0 0 0,.ptr o1 0 0 0,.ptr o2 0 0 0,.ptr o3 0 0 0,.ptr o4 0 0 0,.ptr o5 0 0 0]]]))])++[none,some (.arr 0 4 0 [[.int .i64 0,.str [],.Mk,.Mk]]),some (.arr 0 4 0 [[.int .i64 a0.kind,.str j3.1,.sl false 1 16 (rows Me t2),.ref false (st.length+3) gt4 0 t4.2.1.length]]),some (.arr gt4 4 72 (rows LZ.cells t4.2.1))])
      0 fx hl4 h (bu hsc)
      (fun gs4 k4 s4 b4 fx h hx4=>?_) (fun gs4 s4=>?_) (fun gt4 t4 fr1 st1 h hb=>?_)
     ·unfold OV at h
      refine ct ?_
      refine rn ?_
      obtain⟨v54,hv54,h⟩:=QJ h
      refine(ih _ _ _ _ _ _ _ _ _ _ _ _ _ _ hv54 _ _ _ _ _ _ _ hnd (by simp only[go_sem,fx]) (by simp only[go_sem,fx]) (by simp only[go_sem,fx]) (by simp only[go_sem,fx]) (by simp only[go_sem,fx]) (by simp only[go_sem,fx])).mono ?_
      rintro d1 st1 ⟨rfl,rfl⟩
      try simp only[go_sem,fx]
      obtain⟨c56,i6d,h⟩:=Yp h
      have fy:=(show rows LZ.cells s4.2.1++[[.int .i64 v54.1.kind,.str v54.1.name,.sl false 1 16 (rows Me v54.1.words),.sl false 4 72 (rows LZ.cells v54.1.subs)]]=rows LZ.cells c56 from by rw[i6d];first|exact ND (E:=LZ.cells) s4.2.1 [v54.1]|simp only[go_sem,rows,List.map_append,List.map_cons,List.map_nil])
      have fy:=fa fy (show s4.2.1.length+1=c56.length from by rw[i6d];simp)
      obtain⟨fx,h⟩:=ck fx h
      refine r1 ?_
      refine rn ?_
      cases h
      exact Um (gs4+1) (bu hsc)
     ·refine cf ?_
      refine Ud ?_;simp only[go_sem,fx]
      exact⟨gs4,(bu hsc)⟩
     ·try simp only[go_sem,fx]
      unfold OW at h
      refine Ql hb ?_
      refine rr ?_
      exact fuo (.tup [.agg [.int .i64 a0.kind,.str j3.1,.sl false 1 16 (rows Me t2),.sl false 4 72 (rows LZ.cells t4.2.1)],.bool t4.2.2]) (.tup _ _ (.cons _ _ _ _ (.agg _ _ (.cons _ _ _ _ .s (.cons _ _ _ _ .s (.cons _ _ _ _ .s (.cons _ _ _ _ (.ref _ _ _ _ _ _ _ _ _ (Oh.trans rfl) WT (by decide) (ZJ _) (by simp only[go_sem])) .nil))))) (.cons _ _ _ _ .s .nil)) rfl) h hsc
    ·refine cd h (fun hc h=>?_) fun hc h=>?_
     ·(repeat apply sq_)
      refine Te 1 16 ?_
      try simp only[List.append_assoc,List.cons_append,List.nil_append]
      refine Ql (F:=[(1,.int .i64 a1),(2,.sl false 1 16 (rows Me a2)),(3,.ptr o0 0 0 0),(4,.ptr o1 0 0 0),(5,.ptr o2 0 0 0),(6,.ptr o3 0 0 0),(7,.ptr o4 0 0 0),(8,.ptr o5 0 0 0),(9,.ptr st.length 0 0 0),(12,.ptr (st.length+1) 0 0 0),(18,.ptr (st.length+2) 0 0 0),(109,.bool v37)]) (T:=(Nf st [(o0,(.arr 0 7 0 [[.int .i64 MB,.str QE,.sl false 1 16 (rows Me QF),.sl false 4 72 (rows LZ.cells QG),.sl false 1 16 (rows Me PO),.sl false 1 16 (rows Me Qw),.sl false 1 16 (rows Me OH)]])),(o1,(.arr 0 1 0 [[.sl false 6 104 (rows Ma.cells MN)]])),(o2,(.arr 0 1 0 [[.int .i64 Pf]])),(o3,(.arr 0 1 0 [[.int .i64 (wr .i64 (TU+1))]])),(o4,(.arr 0 1 0 [[.fn 34 [] [.ptr o1 0 0 0]]])),(o5,(.arr 0 1 0 [[.fn 35 [] [.ptr o0 0 0 0,.ptr o1 0 0 0,.ptr o2 0 0 0,.ptr o3 0 0 0,.ptr o4 0 0 0,.ptr o5 0 0 0]]]))])++[some (.arr 0 4 0 [[.int .i64 a0.kind,.str a0.name,.sl false 1 16 (rows Me a0.words),.sl false 4 72 (rows LZ.cells a0.subs)]]),some (.arr 0 4 0 [[.int .i64 0,.str [],.Mk,.Mk]]),some (.arr 0 4 0 [[.int .i64 a0.kind,.str a0.name,.ref false (st.length+3) gt2 0 t2.length,.Mk]]),some (.arr gt2 1 16 (rows Me t2)),some (.arr 0 1 16 (rows Me []))]) (Vh (by simp) (Qm hsc (by simp<;>omega)) (.lv (.lv (.lv (.lv (.lv (.nil _)))))) (by simp<;>omega) ⟨.s,.s,.s,.s,.s,.s,.s,.s,.s,.s,.s,.s,trivial⟩ (by simp<;>omega)) ?_
      refine rs ?_
      refine dw [1,3] 2 ?_
      obtain⟨v38,hv38,h⟩:=QJ h
      refine d0f [(st.length+4)] (fun st2 h2=>(Qg _ _ _ hv38 st2 (st.length+4) 0 (by simp) ((h2 _ (by simp)).trans (Pu.trans rfl)))) (by simp) (by simp only[List.mem_cons,List.not_mem_nil,or_false,forall_eq_or_imp,forall_eq];exact⟨by first|omega|(simp<;>omega),_,(Pu.trans rfl),Ob.noConfusion⟩) (by simp) ?_
      obtain⟨c40,d9N,h⟩:=Yp h
      have fy:=(show rows Me v38++[[.str a0.name]]=rows Me c40 from by rw[d9N];first|exact ND (E:=Me) v38 [a0.name]|simp only[go_sem,rows,List.map_append,List.map_cons,List.map_nil])
      have fy:=fa fy (show v38.length+1=c40.length from by rw[d9N];simp)
      obtain⟨fx,h⟩:=ck fx h
      try simp only[go_sem,fx,fy]
      try refine⟨by first|omega|(simp<;>omega),?_⟩
      refine rn ?_
      obtain⟨v45,hv45,h⟩:=QJ h
      refine(Pa n _ _ _ _ _ hv45 _ _ (by simp[fx]<;>omega) (by simp only[go_sem,fx])).mono ?_
      rintro d1 st1 ⟨rfl,rfl⟩
      try simp only[go_sem,fx]
      refine hj3 () _ _ _ h ?_;exact(bu hsc (hf:=⟨.s,.ref _ _ _ _ _ _ _ _ _ (Oh.trans rfl) (SN (by first|decide|simp)) (by decide) (ZJ _) (by simp only[go_sem]),.s,.s,.s,.s,.s,trivial⟩))
     ·refine cd h (fun hc h=>?_) fun hc h=>?_
      ·refine rn ?_
       obtain⟨v46,hv46,h⟩:=QJ h
       refine(Pa n _ _ _ _ _ hv46 _ _ (by simp[fx]<;>omega) (by simp only[go_sem,fx])).mono ?_
       rintro d1 st1 ⟨rfl,rfl⟩
       try simp only[go_sem,fx]
       refine hj3 () _ _ _ h ?_;exact(bu hsc)
      ·refine r0 ?_
       refine hj3 () _ _ _ h ?_;exact(bu hsc)
  ·refine cd h (fun hc h=>?_) fun hc h=>?_
   ·obtain⟨fx,h⟩:=ck fx h
    refine aln 36 fun hl1=>?_
    refine rng (body:=OY n MN Pf OH a0 TU a1) (kk:=Qu (Mq n) n a2 a0 Pf OH MN PO a1 MB QE QF QG Qw TU) (n:=((MN.drop Pf.toNat).take ((wr .i64 (Pf+(↑OH.length:Int))).toNat-Pf.toNat)).length) (s0:=())
     (fun(gs1:Unit) (k1:Nat) (s1:Unit)=>[(1,.int .i64 a1),(2,.sl false 1 16 (rows Me a2)),(3,.ptr o0 0 0 0),(4,.ptr o1 0 0 0),(5,.ptr o2 0 0 0),(6,.ptr o3 0 0 0),(7,.ptr o4 0 0 0),(8,.ptr o5 0 0 0),(9,.ptr st.length 0 0 0),(12,.ptr (st.length+1) 0 0 0),(36,.sl false 6 104 (rows Ma.cells ((MN.drop Pf.toNat).take ((wr .i64 (Pf+(↑OH.length:Int))).toNat-Pf.toNat)))),(37,.int .i64 (↑(((MN.drop Pf.toNat).take ((wr .i64 (Pf+(↑OH.length:Int))).toNat-Pf.toNat)).length):Int)),(38,.int .i64 (↑k1:Int))])
     (fun(gs1:Unit) (k1:Nat) (s1:Unit)=>(Nf st [(o0,(.arr 0 7 0 [[.int .i64 MB,.str QE,.sl false 1 16 (rows Me QF),.sl false 4 72 (rows LZ.cells QG),.sl false 1 16 (rows Me PO),.sl false 1 16 (rows Me Qw),.sl false 1 16 (rows Me OH)]])),(o1,(.arr 0 1 0 [[.sl false 6 104 (rows Ma.cells MN)]])),(o2,(.arr 0 1 0 [[.int .i64 Pf]])),(o3,(.arr 0 1 0 [[.int .i64 TU]])),(o4,(.arr 0 1 0 [[.fn 34 [] [.ptr o1 0 0 0]]])),(o5,(.arr 0 1 0 [[.fn 35 [] [.ptr o0 0 0 0,.ptr o1 0 0 0,.ptr o2 0 0 0,.ptr o3 0 0 0,.ptr o4 0 0 0,.ptr o5 0 0 0]]]))])++[some (.arr 0 4 0 [[.int .i64 a0.kind,.str a0.name,.sl false 1 16 (rows Me a0.words),.sl false 4 72 (rows LZ.cells a0.subs)]]),some (.arr 0 4 0 [[.int .i64 0,.str [],.Mk,.Mk]])])
     (fun(gt1:Unit) (t1:Unit)=>[(1,.int .i64 a1),(2,.sl false 1 16 (rows Me a2)),(3,.ptr o0 0 0 0),(4,.ptr o1 0 0 0),(5,.ptr o2 0 0 0),(6,.ptr o3 0 0 0),(7,.ptr o4 0 0 0),(8,.ptr o5 0 0 0),(9,.ptr st.length 0 0 0),(12,.ptr (st.length+1) 0 0 0)])
     (fun(gt1:Unit) (t1:Unit)=>(Nf st [(o0,(.arr 0 7 0 [[.int .i64 MB,.str QE,.sl false 1 16 (rows Me QF),.sl false 4 72 (rows LZ.cells QG),.sl false 1 16 (rows Me PO),.sl false 1 16 (rows Me Qw),.sl false 1 16 (rows Me OH)]])),(o1,(.arr 0 1 0 [[.sl false 6 104 (rows Ma.cells MN)]])),(o2,(.arr 0 1 0 [[.int .i64 Pf]])),(o3,(.arr 0 1 0 [[.int .i64 TU]])),(o4,(.arr 0 1 0 [[.fn 34 [] [.ptr o1 0 0 0]]])),(o5,(.arr 0 1 0 [[.fn 35 [] [.ptr o0 0 0 0,.ptr o1 0 0 0,.ptr o2 0 0 0,.ptr o3 0 0 0,.ptr o4 0 0 0,.ptr o5 0 0 0]]]))])++[some (.arr 0 4 0 [[.int .i64 a0.kind,.str a0.name,.sl false 1 16 (rows Me a0.words),.sl false 4 72 (rows LZ.cells a0.subs)]]),some (.arr 0 4 0 [[.int .i64 0,.str [],.Mk,.Mk]])])
     () fx hl1 h (bu hsc)
     (fun gs1 k1 s1 b1 fx h hx1=>?_) (fun gs1 s1=>?_) (fun gt1 t1 fr1 st1 h hb=>?_)
    ·unfold OY at h
     refine ct ?_
     refine cd h (fun hc h=>?_) fun hc h=>?_
     ·refine cl h (ZN n _) fun v6 h=>?_
      refine ra ?_
      cases h
      refine OG ?_;have h:=congrArg some (hx1 _ rfl)
      refine rr ?_
      exact fuo (.tup [.agg [.int .i64 ((get ((MN.drop Pf.toNat).take ((wr .i64 (Pf+(↑OH.length:Int))).toNat-Pf.toNat)) k1).form.kind),.str ((get ((MN.drop Pf.toNat).take ((wr .i64 (Pf+(↑OH.length:Int))).toNat-Pf.toNat)) k1).form.name),.sl false 1 16 (rows Me ((get ((MN.drop Pf.toNat).take ((wr .i64 (Pf+(↑OH.length:Int))).toNat-Pf.toNat)) k1).form.words)),.sl false 4 72 (rows LZ.cells ((get ((MN.drop Pf.toNat).take ((wr .i64 (Pf+(↑OH.length:Int))).toNat-Pf.toNat)) k1).form.subs))],.bool (bif (decide ((wr .i64 (TU+v6.1))≤200))then(decide ((wr .i64 ((wr .i64 (a1+v6.2))-1))≤40))else false)]) (.same _) h hsc
     ·refine rn ?_
      cases h
      exact Um () (bu hsc)
    ·refine cf ?_
     refine Ud ?_;simp only[go_sem,fx]
     exact⟨(),(bu hsc)⟩
    ·try simp only[go_sem,fx]
     unfold Qu at h
     refine hj0 () _ _ _ h ?_;exact(hb.trans (bu hsc))
   ·refine r0 ?_
    refine hj0 () _ _ _ h ?_;exact(bu hsc)
end Go.Proofs.YtdjnbjnlnjhllaaDoor
