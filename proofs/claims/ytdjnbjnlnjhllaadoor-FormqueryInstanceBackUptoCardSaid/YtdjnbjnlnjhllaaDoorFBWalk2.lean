import Derived.Test.YtdjnbjnlnjhllaaDoorFBWalk1
set_option linter.unusedVariables false
set_option linter.unusedSimpArgs false
set_option maxHeartbeats 2000000
set_option maxRecDepth 100000
namespace Go.Proofs.YtdjnbjnlnjhllaaDoor
open Go Go.Am
theorem XM(n:Nat)(a0:LZ)(a1:(List Mg))(r:LZ)(h:RV n a0 a1=some r):Pure Tryd.prog gl 50 [.agg [.int .i64 a0.kind,.str a0.name,.sl false 1 16 (rows Me a0.words),.sl false 4 72 (rows LZ.cells a0.subs)],.sl false 2 32 (rows Mg.cells a1)] (.agg [.int .i64 r.kind,.str r.name,.sl false 1 16 (rows Me r.words),.sl false 4 72 (rows LZ.cells r.subs)]):=by
 intro st
 unfold RV at h
 have fx:=trivial
 refine fb 43 [.cell 4 25] [0,1,2,4,5,7,8,9,10,11,14,15,16,17,20,21,22,23,30] Tryd.func50 fun hsc=>?_
 refine cl h (Tr n _) fun v1 h=>?_
 refine aln 1 fun hl0=>?_
 refine rng (body:=RQ v1 a1) (kk:=QC n a0 a1 v1) (n:=a1.length) (s0:=())
  (fun(gs0:Unit) (k0:Nat) (s0:Unit)=>[(1,.sl false 2 32 (rows Mg.cells a1)),(2,.ptr st.length 0 0 0),(4,.ptr (st.length+1) 0 0 0),(5,.ptr (st.length+2) 0 0 0),(14,.sl false 2 32 (rows Mg.cells a1)),(15,.int .i64 (↑a1.length:Int)),(16,.int .i64 (↑k0:Int))])
  (fun(gs0:Unit) (k0:Nat) (s0:Unit)=>st++[some (.arr 0 4 0 [[.int .i64 a0.kind,.str a0.name,.sl false 1 16 (rows Me a0.words),.sl false 4 72 (rows LZ.cells a0.subs)]]),some (.arr 0 4 0 [[.int .i64 0,.str [],.Mk,.Mk]]),some (.arr 0 1 0 [[.sl false 1 16 (rows Me v1)]])])
  (fun(gt0:Unit) (t0:Unit)=>[(1,.sl false 2 32 (rows Mg.cells a1)),(2,.ptr st.length 0 0 0),(4,.ptr (st.length+1) 0 0 0),(5,.ptr (st.length+2) 0 0 0)])
  (fun(gt0:Unit) (t0:Unit)=>st++[some (.arr 0 4 0 [[.int .i64 a0.kind,.str a0.name,.sl false 1 16 (rows Me a0.words),.sl false 4 72 (rows LZ.cells a0.subs)]]),some (.arr 0 4 0 [[.int .i64 0,.str [],.Mk,.Mk]]),some (.arr 0 1 0 [[.sl false 1 16 (rows Me v1)]])])
  () fx hl0 h (bm hsc)
  (fun gs0 k0 s0 b0 fx h hx0=>?_) (fun gs0 s0=>?_) (fun gt0 t0 fr1 st1 h hb=>?_)
 ·unfold RQ at h
  refine ct ?_
  refine aln 20 fun hl1=>?_
  refine rng (body:=RO v1 a1 k0) (kk:=RP) (n:=v1.length) (s0:=())
   (fun(gs1:Unit) (k1:Nat) (s1:Unit)=>[(1,.sl false 2 32 (rows Mg.cells a1)),(2,.ptr st.length 0 0 0),(4,.ptr (st.length+1) 0 0 0),(5,.ptr (st.length+2) 0 0 0),(7,.ptr (st.length+3) 0 0 0),(14,.sl false 2 32 (rows Mg.cells a1)),(15,.int .i64 (↑a1.length:Int)),(16,.int .i64 (↑k0:Int)),(20,.sl false 1 16 (rows Me v1)),(21,.int .i64 (↑v1.length:Int)),(22,.int .i64 (↑k1:Int))])
   (fun(gs1:Unit) (k1:Nat) (s1:Unit)=>st++[some (.arr 0 4 0 [[.int .i64 a0.kind,.str a0.name,.sl false 1 16 (rows Me a0.words),.sl false 4 72 (rows LZ.cells a0.subs)]]),some (.arr 0 4 0 [[.int .i64 0,.str [],.Mk,.Mk]]),some (.arr 0 1 0 [[.sl false 1 16 (rows Me v1)]]),some (.arr 0 2 0 [[.str ((get a1 k0).from_),.str ((get a1 k0).to_)]])])
   (fun(gt1:Unit) (t1:Unit)=>[(1,.sl false 2 32 (rows Mg.cells a1)),(2,.ptr st.length 0 0 0),(4,.ptr (st.length+1) 0 0 0),(5,.ptr (st.length+2) 0 0 0),(14,.sl false 2 32 (rows Mg.cells a1)),(15,.int .i64 (↑a1.length:Int)),(16,.int .i64 (↑k0:Int))])
   (fun(gt1:Unit) (t1:Unit)=>st++[some (.arr 0 4 0 [[.int .i64 a0.kind,.str a0.name,.sl false 1 16 (rows Me a0.words),.sl false 4 72 (rows LZ.cells a0.subs)]]),some (.arr 0 4 0 [[.int .i64 0,.str [],.Mk,.Mk]]),some (.arr 0 1 0 [[.sl false 1 16 (rows Me v1)]])])
   () fx hl1 h (bm hsc)
   (fun gs1 k1 s1 b1 fx h hx1=>?_) (fun gs1 s1=>?_) (fun gt1 t1 fr1 st1 h hb=>?_)
  ·unfold RO at h
   refine ct ?_
   refine cd h (fun hc h=>?_) fun hc h=>?_
   ·cases h
   ·refine rn ?_
    cases h
    exact Um () (bm hsc)
  ·refine cf ?_
   refine Ud ?_;simp only[go_sem,fx]
   exact⟨(),(bm hsc)⟩
  ·try simp only[go_sem,fx]
   unfold RP at h
   refine Ql hb ?_
   refine rn ?_
   cases h
   exact Um () (bm hsc)
 ·refine cf ?_
  refine Ud ?_;simp only[go_sem,fx]
  exact⟨(),(bm hsc)⟩
 ·try simp only[go_sem,fx]
  unfold QC at h
  refine Ql hb ?_
  refine rn ?_
  obtain⟨v2,hv2,h⟩:=QJ h
  refine(XL n _ _ _ _ _ hv2 _ _ _ (by simp) (Xv.trans rfl) (Xv.trans rfl)).mono ?_
  rintro d1 st1 ⟨rfl,rfl⟩
  exact rt
theorem RF(n:Nat)(a0:LZ)(r:LZ)(h:Pw n a0=some r):Pure Tryd.prog gl 32 [.agg [.int .i64 a0.kind,.str a0.name,.sl false 1 16 (rows Me a0.words),.sl false 4 72 (rows LZ.cells a0.subs)]] (.agg [.int .i64 r.kind,.str r.name,.sl false 1 16 (rows Me r.words),.sl false 4 72 (rows LZ.cells r.subs)]):=by
 intro st
 unfold Pw at h
 have fx:=trivial
 refine fb 5 [.cell 2 25] [0,1,2] Tryd.func32 fun hsc=>?_
 refine cl h (up (XM n _ _) (fun _=>(.cons _ _ _ _ .s (.cons _ _ _ _ (.Mk _ _ _ (by decide)) .nil)))) fun v1 h=>?_
 exact rt
theorem Qg(a0 l0:(List Bs))(r:(List Bs))(h:NV a0 l0=some r):∀(st:St) (o0 q0:Nat) (hnd: [o0].Nodup) (QM:Am.look st o0=some (.arr q0 1 16 (rows Me l0))),Am.Spec Tryd.prog gl 39 [.sl false 1 16 (rows Me a0)] st (fun d st'=>d= .ref false o0 (q0+1) 0 r.length∧st'=puts st [(o0,.arr (q0+1) 1 16 (rows Me r))]):=by
 intro st o0 q0 hnd QM
 obtain⟨rfl,rfl⟩:l0=[]∧r=a0:=by
  unfold NV at h
  cases l0 with
  |nil=>exact⟨rfl,(Option.some.inj h).symm⟩
  |cons x l=>cases h
 refine d4e ?_
 rw[show r.length=(rows Me r).length from(d1O r).symm]
 refine d6I (g:=0) (fun hsc=>(Qm (m:=[(o0,.arr (q0+1) 1 16 (rows Me r))]) hsc (by simp))) QM ?_
 refine i4A (N:=8) (rs:=[.tmp 2]) (keep:=[0,2,4]) Tryd.func39 rfl rfl rfl (by kernel_rfl) rfl fun hsc=>?_
 refine i4o (t:=0) rfl fun hl=>?_
 (repeat apply sq_);apply er_;simp only[go_sem]
 (repeat apply sq_);refine d1N rfl ⟨9,by rw[i5S]⟩ (by omega) (by omega) fun c hcn=>?_
 simp only[go_sem]
 (repeat apply sq_);refine i1M (by rfl) (fun hc=>?_) fun hc=>?_
 ·(repeat apply sq_);apply er_;simp only[go_sem]
  refine d9Y ?_
  try simp only[go_sem]
  have i5j:=hcn hc
  refine i1v ?_;simp only[go_sem]
  exact WS hsc (.same _) (by simp) (.inr (.inr ⟨rfl,rfl,i5j⟩))
 ·refine d7M ?_;try simp only[go_sem]
  (repeat apply sq_);apply er_;simp only[go_sem]
  simp only[d1O]at hl
  refine⟨⟨by omega,by simp only[top]at *; omega⟩,?_⟩
  refine d9Y ?_
  try simp only[go_sem]
  refine i1v ?_;simp only[go_sem]
  exact⟨st++[none,some (.arr 0 1 16 (rows Me r))],_,by simp,d8A hsc (.dead _ _ _ (.lv (.nil _))) (by simp),.s,by simp,.inr (.inl ⟨rfl,rfl⟩)⟩
theorem Ss(a0:Mb)(a1:LZ)(r:Bool)(h:PB a0 a1=some r):Pure Tryd.prog gl 36 [.agg [.int .i64 a0.form.kind,.str a0.form.name,.sl false 1 16 (rows Me a0.form.words),.sl false 4 72 (rows LZ.cells a0.form.subs),.sl false 1 16 (rows Me a0.words),.sl false 1 16 (rows Me a0.Mj),.sl false 1 16 (rows Me a0.parts)],.agg [.int .i64 a1.kind,.str a1.name,.sl false 1 16 (rows Me a1.words),.sl false 4 72 (rows LZ.cells a1.subs)]] (.bool r):=by
 intro st
 unfold PB at h
 have fx:=trivial
 refine fb 21 [.tmp 4] [0,1,2,3,4,9,10,11,12,15,16,17,18,19] Tryd.func36 fun hsc=>?_
 refine rn ?_
 obtain⟨v1,hv1,h⟩:=QJ h
 refine SZ (fun hG=>(Mh _ _ _ (d3Z hv1 (by simpa using hG)))) ?_
 exact rt
theorem Wt:∀(n:Nat) (a0:LZ) (a1:(List Bs)) (MB:Int) (QE:Bs) (QF:(List Bs)) (QG:(List LZ)) (PO:(List Bs)) (Qw:(List Bs)) (OH:(List Bs)) (r:LZ) (h:MX n a0 a1 MB QE QF QG PO Qw OH=some r),∀(st:St) (o0 o1:Nat) (hnd: [o0,o1].Nodup) (QM:Am.look st o0=some (.arr 0 7 0 [[.int .i64 MB,.str QE,.sl false 1 16 (rows Me QF),.sl false 4 72 (rows LZ.cells QG),.sl false 1 16 (rows Me PO),.sl false 1 16 (rows Me Qw),.sl false 1 16 (rows Me OH)]])) (Xm:Am.look st o1=some (.arr 0 1 0 [[.fn 60 [] [.ptr o0 0 0 0,.ptr o1 0 0 0]]])),Am.Spec Tryd.prog gl 60 [.agg [.int .i64 a0.kind,.str a0.name,.sl false 1 16 (rows Me a0.words),.sl false 4 72 (rows LZ.cells a0.subs)],.sl false 1 16 (rows Me a1),.ptr o0 0 0 0,.ptr o1 0 0 0] st (fun d st'=>d= .agg [.int .i64 r.kind,.str r.name,.sl false 1 16 (rows Me r.words),.sl false 4 72 (rows LZ.cells r.subs)]∧st'=puts st []):=by
 intro n
 induction n with
 |zero=>intro a0 a1 MB QE QF QG PO Qw OH r h;cases h
 |succ n ih=>
  intro a0 a1 MB QE QF QG PO Qw OH r h st o0 o1 hnd QM Xm
  unfold MX at h
  have ho0:=MZ QM
  have ho1:=MZ Xm
  have fx:=fa (fa (idf ho0) (idf ho1)) (nd2 hnd)
  refine fb 98 [.cell 6 25] [0,1,2,3,4,6,7,9,11,18,19,20,21,24,30,44,57,65,70,71,72,73,74,81,82,83,84] Tryd.func60 fun hsc=>?_
  refine Tf (s':=(Nf st [(o0,(.arr 0 7 0 [[.int .i64 MB,.str QE,.sl false 1 16 (rows Me QF),.sl false 4 72 (rows LZ.cells QG),.sl false 1 16 (rows Me PO),.sl false 1 16 (rows Me Qw),.sl false 1 16 (rows Me OH)]])),(o1,(.arr 0 1 0 [[.fn 60 [] [.ptr o0 0 0 0,.ptr o1 0 0 0]]]))])) (MS (by simp[QM,Xm])) ?_
  refine r0 ?_
  refine r0 ?_
  refine r0 ?_
  (repeat apply sq_)
  refine Te 1 16 ?_
  try simp only[List.append_assoc,List.cons_append,List.nil_append]
  refine Ql (F:=[(1,.sl false 1 16 (rows Me a1)),(2,.ptr o0 0 0 0),(3,.ptr o1 0 0 0),(4,.ptr st.length 0 0 0),(6,.ptr (st.length+1) 0 0 0),(7,.ptr (st.length+2) 0 0 0),(18,.sl false 1 16 (rows Me a0.words)),(19,.int .i64 (↑a0.words.length:Int)),(20,.int .i64 0)]) (T:=(Nf st [(o0,(.arr 0 7 0 [[.int .i64 MB,.str QE,.sl false 1 16 (rows Me QF),.sl false 4 72 (rows LZ.cells QG),.sl false 1 16 (rows Me PO),.sl false 1 16 (rows Me Qw),.sl false 1 16 (rows Me OH)]])),(o1,(.arr 0 1 0 [[.fn 60 [] [.ptr o0 0 0 0,.ptr o1 0 0 0]]]))])++[some (.arr 0 4 0 [[.int .i64 a0.kind,.str a0.name,.sl false 1 16 (rows Me a0.words),.sl false 4 72 (rows LZ.cells a0.subs)]]),some (.arr 0 4 0 [[.int .i64 0,.str [],.Mk,.Mk]]),some (.arr 0 4 0 [[.int .i64 a0.kind,.str a0.name,.ref false (st.length+3) 0 0 0,.Mk]]),some (.arr 0 1 16 (rows Me []))]) (Vh (by simp) (Qm hsc (by simp<;>omega)) (.lv (.lv (.live _ _ _ _ (.arr _ _ _ _ _ (.cons _ _ _ _ (.cons _ _ _ _ .s (.cons _ _ _ _ .s (.cons _ _ _ _ (.nref _ _ _ _ _ _ (Oh.trans rfl)) (.cons _ _ _ _ .s .nil)))) (.same _))) (.lv (.nil _))))) (by simp<;>omega) ⟨.s,.s,.s,.s,.s,.s,.s,.s,.s,trivial⟩ (by simp<;>omega)) ?_
  refine aln 18 fun hl0=>?_
  refine rng (body:=PC a1 a0 PO) (kk:=PF (MX n) a0 a1 MB QE QF QG PO Qw OH) (n:=a0.words.length) (s0:=[])
   (fun(gs0:Nat) (k0:Nat) (s0:(List Bs))=>[(1,.sl false 1 16 (rows Me a1)),(2,.ptr o0 0 0 0),(3,.ptr o1 0 0 0),(4,.ptr st.length 0 0 0),(6,.ptr (st.length+1) 0 0 0),(7,.ptr (st.length+2) 0 0 0),(18,.sl false 1 16 (rows Me a0.words)),(19,.int .i64 (↑a0.words.length:Int)),(20,.int .i64 (↑k0:Int))])
   (fun(gs0:Nat) (k0:Nat) (s0:(List Bs))=>(Nf st [(o0,(.arr 0 7 0 [[.int .i64 MB,.str QE,.sl false 1 16 (rows Me QF),.sl false 4 72 (rows LZ.cells QG),.sl false 1 16 (rows Me PO),.sl false 1 16 (rows Me Qw),.sl false 1 16 (rows Me OH)]])),(o1,(.arr 0 1 0 [[.fn 60 [] [.ptr o0 0 0 0,.ptr o1 0 0 0]]]))])++[some (.arr 0 4 0 [[.int .i64 a0.kind,.str a0.name,.sl false 1 16 (rows Me a0.words),.sl false 4 72 (rows LZ.cells a0.subs)]]),some (.arr 0 4 0 [[.int .i64 0,.str [],.Mk,.Mk]]),some (.arr 0 4 0 [[.int .i64 a0.kind,.str a0.name,.ref false (st.length+3) gs0 0 s0.length,.Mk]]),some (.arr gs0 1 16 (rows Me s0))])
   (fun(gt0:Nat) (t0:(List Bs))=>[(1,.sl false 1 16 (rows Me a1)),(2,.ptr o0 0 0 0),(3,.ptr o1 0 0 0),(4,.ptr st.length 0 0 0),(6,.ptr (st.length+1) 0 0 0),(7,.ptr (st.length+2) 0 0 0)])
   (fun(gt0:Nat) (t0:(List Bs))=>(Nf st [(o0,(.arr 0 7 0 [[.int .i64 MB,.str QE,.sl false 1 16 (rows Me QF),.sl false 4 72 (rows LZ.cells QG),.sl false 1 16 (rows Me PO),.sl false 1 16 (rows Me Qw),.sl false 1 16 (rows Me OH)]])),(o1,(.arr 0 1 0 [[.fn 60 [] [.ptr o0 0 0 0,.ptr o1 0 0 0]]]))])++[some (.arr 0 4 0 [[.int .i64 a0.kind,.str a0.name,.sl false 1 16 (rows Me a0.words),.sl false 4 72 (rows LZ.cells a0.subs)]]),some (.arr 0 4 0 [[.int .i64 0,.str [],.Mk,.Mk]]),some (.arr 0 4 0 [[.int .i64 a0.kind,.str a0.name,.ref false (st.length+3) gt0 0 t0.length,.Mk]]),some (.arr gt0 1 16 (rows Me t0))])
   0 fx hl0 h (bu hsc)
   (fun gs0 k0 s0 b0 fx h hx0=>?_) (fun gs0 s0=>?_) (fun gt0 t0 fr1 st1 h hb=>?_)
  ·unfold PC at h
   refine ct ?_
   refine cl h (Mh _ _) fun v23 h=>?_
   refine cd h (fun hc h=>?_) fun hc h=>?_
   ·obtain⟨fx,h⟩:=ck fx h
    refine r0 ?_
    obtain⟨c26,i3r,h⟩:=Yp h
    have fy:=(show rows Me s0++[[.str (d1s [63] (get a0.words k0))]]=rows Me c26 from by rw[i3r];first|exact ND (E:=Me) s0 [(d1s [63] (get a0.words k0))]|simp only[go_sem,rows,List.map_append,List.map_cons,List.map_nil])
    have fy:=fa fy (show s0.length+1=c26.length from by rw[i3r];simp)
    obtain⟨fx,h⟩:=ck fx h
    refine r1 ?_
    refine rn ?_
    cases h
    exact Um (gs0+1) (bu hsc)
   ·refine cl h (Mh _ _) fun v31 h=>?_
    refine cd h (fun hc h=>?_) fun hc h=>?_
    ·obtain⟨fx,h⟩:=ck fx h
     refine r0 ?_
     obtain⟨c34,i5W,h⟩:=Yp h
     have fy:=(show rows Me s0++[[.str (d1s [46] (get a0.words k0))]]=rows Me c34 from by rw[i5W];first|exact ND (E:=Me) s0 [(d1s [46] (get a0.words k0))]|simp only[go_sem,rows,List.map_append,List.map_cons,List.map_nil])
     have fy:=fa fy (show s0.length+1=c34.length from by rw[i5W];simp)
     obtain⟨fx,h⟩:=ck fx h
     refine r1 ?_
     refine rn ?_
     cases h
     exact Um (gs0+1) (bu hsc)
    ·refine r0 ?_
     obtain⟨c40,d9N,h⟩:=Yp h
     have fy:=(show rows Me s0++[[.str (get a0.words k0)]]=rows Me c40 from by rw[d9N];first|exact ND (E:=Me) s0 [(get a0.words k0)]|simp only[go_sem,rows,List.map_append,List.map_cons,List.map_nil])
     have fy:=fa fy (show s0.length+1=c40.length from by rw[d9N];simp)
     obtain⟨fx,h⟩:=ck fx h
     refine r1 ?_
     refine rn ?_
     cases h
     exact Um (gs0+1) (bu hsc)
  ·refine cf ?_
   refine Ud ?_;simp only[go_sem,fx]
   exact⟨gs0,(bu hsc)⟩
  ·try simp only[go_sem,fx]
   unfold PF at h
   refine Ql hb ?_
   refine cl h (Nh _) fun v45 h=>?_
   refine rn ?_
   refine Sw (MU (MX n) a0 MB QE QF QG PO Qw OH t0) r (fun(gj1:Unit) (j1:Bs×(List Bs))=>[(1,.sl false 1 16 (rows Me j1.2)),(3,.ptr o1 0 0 0),(4,.ptr st.length 0 0 0),(6,.ptr (st.length+1) 0 0 0),(7,.ptr (st.length+2) 0 0 0)]) (fun(gj1:Unit) (j1:Bs×(List Bs))=>(Nf st [(o0,(.arr 0 7 0 [[.int .i64 MB,.str QE,.sl false 1 16 (rows Me QF),.sl false 4 72 (rows LZ.cells QG),.sl false 1 16 (rows Me PO),.sl false 1 16 (rows Me Qw),.sl false 1 16 (rows Me OH)]])),(o1,(.arr 0 1 0 [[.fn 60 [] [.ptr o0 0 0 0,.ptr o1 0 0 0]]]))])++[some (.arr 0 4 0 [[.int .i64 a0.kind,.str a0.name,.sl false 1 16 (rows Me a0.words),.sl false 4 72 (rows LZ.cells a0.subs)]]),some (.arr 0 4 0 [[.int .i64 0,.str [],.Mk,.Mk]]),some (.arr 0 4 0 [[.int .i64 a0.kind,.str j1.1,.ref false (st.length+3) gt0 0 t0.length,.Mk]]),some (.arr gt0 1 16 (rows Me t0))]) (fun gj1 j1 fr1 st1 h hb=>?_) (fun hj1=>?_)
   ·try simp only[go_sem,fx]
    unfold MU at h
    refine Ql hb ?_
    (repeat apply sq_)
    refine Ql (F:=[(1,.sl false 1 16 (rows Me j1.2)),(3,.ptr o1 0 0 0),(4,.ptr st.length 0 0 0),(6,.ptr (st.length+1) 0 0 0),(7,.ptr (st.length+2) 0 0 0)]) (T:=(Nf st [(o0,(.arr 0 7 0 [[.int .i64 MB,.str QE,.sl false 1 16 (rows Me QF),.sl false 4 72 (rows LZ.cells QG),.sl false 1 16 (rows Me PO),.sl false 1 16 (rows Me Qw),.sl false 1 16 (rows Me OH)]])),(o1,(.arr 0 1 0 [[.fn 60 [] [.ptr o0 0 0 0,.ptr o1 0 0 0]]]))])++[some (.arr 0 4 0 [[.int .i64 a0.kind,.str a0.name,.sl false 1 16 (rows Me a0.words),.sl false 4 72 (rows LZ.cells a0.subs)]]),some (.arr 0 4 0 [[.int .i64 0,.str [],.Mk,.Mk]]),some (.arr 0 4 0 [[.int .i64 a0.kind,.str j1.1,.sl false 1 16 (rows Me t0),.Mk]])]) (Vh (by simp) (Qm hsc (by simp<;>omega)) (.lv (.lv (.live _ _ _ _ (.arr _ _ _ _ _ (.cons _ _ _ _ (.cons _ _ _ _ .s (.cons _ _ _ _ .s (.cons _ _ _ _ (.ref _ _ _ _ _ _ _ _ _ (Oh.trans rfl) (SN (by first|decide|simp)) (by decide) (ZJ _) (by simp only[go_sem])) (.cons _ _ _ _ .s .nil)))) (.same _))) (.nil _)))) (by simp<;>omega) ⟨.s,.s,.s,.s,.s,trivial⟩ (by simp<;>omega)) ?_
    refine r0 ?_
    (repeat apply sq_)
    refine Te 4 72 ?_
    try simp only[List.append_assoc,List.cons_append,List.nil_append]
    refine Ql (F:=[(1,.sl false 1 16 (rows Me j1.2)),(3,.ptr o1 0 0 0),(6,.ptr (st.length+1) 0 0 0),(7,.ptr (st.length+2) 0 0 0),(81,.sl false 4 72 (rows LZ.cells a0.subs)),(82,.int .i64 (↑a0.subs.length:Int)),(83,.int .i64 0)]) (T:=(Nf st [(o0,(.arr 0 7 0 [[.int .i64 MB,.str QE,.sl false 1 16 (rows Me QF),.sl false 4 72 (rows LZ.cells QG),.sl false 1 16 (rows Me PO),.sl false 1 16 (rows Me Qw),.sl false 1 16 (rows Me OH)]])),(o1,(.arr 0 1 0 [[.fn 60 [] [.ptr o0 0 0 0,.ptr o1 0 0 0]]]))])++[some (.arr 0 4 0 [[.int .i64 a0.kind,.str a0.name,.sl false 1 16 (rows Me a0.words),.sl false 4 72 (rows LZ.cells a0.subs)]]),some (.arr 0 4 0 [[.int .i64 0,.str [],.Mk,.Mk]]),some (.arr 0 4 0 [[.int .i64 a0.kind,.str j1.1,.sl false 1 16 (rows Me t0),.ref false (st.length+3) 0 0 0]]),some (.arr 0 4 72 (rows LZ.cells []))]) (Vh (by simp) (Qm hsc (by simp<;>omega)) (.lv (.lv (.live _ _ _ _ (.arr _ _ _ _ _ (.cons _ _ _ _ (.cons _ _ _ _ .s (.cons _ _ _ _ .s (.cons _ _ _ _ .s (.cons _ _ _ _ (.nref _ _ _ _ _ _ (Oh.trans rfl)) .nil)))) (.same _))) (.lv (.nil _))))) (by simp<;>omega) ⟨.s,.s,.s,.s,.s,.s,.s,trivial⟩ (by simp<;>omega)) ?_
    refine aln 81 fun hl2=>?_
    refine rng (body:=PD (MX n) a0 j1 MB QE QF QG PO Qw OH) (kk:=PE a0 j1 t0) (n:=a0.subs.length) (s0:=[])
     (fun(gs2:Nat) (k2:Nat) (s2:(List LZ))=>[(1,.sl false 1 16 (rows Me j1.2)),(3,.ptr o1 0 0 0),(6,.ptr (st.length+1) 0 0 0),(7,.ptr (st.length+2) 0 0 0),(81,.sl false 4 72 (rows LZ.cells a0.subs)),(82,.int .i64 (↑a0.subs.length:Int)),(83,.int .i64 (↑k2:Int))])
     (fun(gs2:Nat) (k2:Nat) (s2:(List LZ))=>(Nf st [(o0,(.arr 0 7 0 [[.int .i64 MB,.str QE,.sl false 1 16 (rows Me QF),.sl false 4 72 (rows LZ.cells QG),.sl false 1 16 (rows Me PO),.sl false 1 16 (rows Me Qw),.sl false 1 16 (rows Me OH)]])),(o1,(.arr 0 1 0 [[.fn 60 [] [.ptr o0 0 0 0,.ptr o1 0 0 0]]]))])++[none,some (.arr 0 4 0 [[.int .i64 0,.str [],.Mk,.Mk]]),some (.arr 0 4 0 [[.int .i64 a0.kind,.str j1.1,.sl false 1 16 (rows Me t0),.ref false (st.length+3) gs2 0 s2.length]]),some (.arr gs2 4 72 (rows LZ.cells s2))])
     (fun(gt2:Nat) (t2:(List LZ))=>[(6,.ptr (st.length+1) 0 0 0),(7,.ptr (st.length+2) 0 0 0)])
     (fun(gt2:Nat) (t2:(List LZ))=>(Nf st [(o0,(.arr 0 7 0 [[.int .i64 MB,.str QE,.sl false 1 16 (rows Me QF),.sl false 4 72 (rows LZ.cells QG),.sl false 1 16 (rows Me PO),.sl false 1 16 (rows Me Qw),.sl false 1 16 (rows Me OH)]])),(o1,(.arr 0 1 0 [[.fn 60 [] [.ptr o0 0 0 0,.ptr o1 0 0 0]]]))])++[none,some (.arr 0 4 0 [[.int .i64 0,.str [],.Mk,.Mk]]),some (.arr 0 4 0 [[.int .i64 a0.kind,.str j1.1,.sl false 1 16 (rows Me t0),.ref false (st.length+3) gt2 0 t2.length]]),some (.arr gt2 4 72 (rows LZ.cells t2))])
     0 fx hl2 h (bu hsc)
     (fun gs2 k2 s2 b2 fx h hx2=>?_) (fun gs2 s2=>?_) (fun gt2 t2 fr1 st1 h hb=>?_)
    ·unfold PD at h
     refine ct ?_
     refine rn ?_
     refine dw [1,5] 2 ?_
     obtain⟨v65,hv65,h⟩:=QJ h
     refine d0f [o0,o1] (fun st2 h2=>(ih _ _ _ _ _ _ _ _ _ _ hv65 st2 _ _ hnd ((h2 _ (by simp)).trans (by simp only[go_sem,fx])) ((h2 _ (by simp)).trans (by simp only[go_sem,fx])))) (by simp) (by simp only[List.mem_cons,List.not_mem_nil,or_false,forall_eq_or_imp,forall_eq];exact⟨⟨by first|omega|(simp<;>omega),_,(by simp only[go_sem,fx]<;>rfl),Ob.noConfusion⟩,⟨by first|omega|(simp<;>omega),_,(by simp only[go_sem,fx]<;>rfl),Ob.noConfusion⟩⟩) (by simp) ?_
     obtain⟨c67,i5X,h⟩:=Yp h
     have fy:=(show rows LZ.cells s2++[[.int .i64 v65.kind,.str v65.name,.sl false 1 16 (rows Me v65.words),.sl false 4 72 (rows LZ.cells v65.subs)]]=rows LZ.cells c67 from by rw[i5X];first|exact ND (E:=LZ.cells) s2 [v65]|simp only[go_sem,rows,List.map_append,List.map_cons,List.map_nil])
     have fy:=fa fy (show s2.length+1=c67.length from by rw[i5X];simp)
     obtain⟨fx,h⟩:=ck fx h
     try simp only[go_sem,fx,fy]
     try refine⟨by first|omega|(simp<;>omega),?_⟩
     refine rn ?_
     cases h
     exact Um (gs2+1) (bu hsc)
    ·refine cf ?_
     refine Ud ?_;simp only[go_sem,fx]
     exact⟨gs2,(bu hsc)⟩
    ·try simp only[go_sem,fx]
     unfold PE at h
     refine Ql hb ?_
     refine rr ?_
     exact fuo (.agg [.int .i64 a0.kind,.str j1.1,.sl false 1 16 (rows Me t0),.sl false 4 72 (rows LZ.cells t2)]) (.agg _ _ (.cons _ _ _ _ .s (.cons _ _ _ _ .s (.cons _ _ _ _ .s (.cons _ _ _ _ (.ref _ _ _ _ _ _ _ _ _ (Oh.trans rfl) WT (by decide) (ZJ _) (by simp only[go_sem])) .nil))))) h hsc (hr:=by rintro rfl;exact⟨rfl,MS (by simp[QM,Xm])⟩)
   ·refine cd h (fun hc h=>?_) fun hc h=>?_
    ·(repeat apply sq_)
     refine Te 1 16 ?_
     try simp only[List.append_assoc,List.cons_append,List.nil_append]
     refine Ql (F:=[(1,.sl false 1 16 (rows Me a1)),(2,.ptr o0 0 0 0),(3,.ptr o1 0 0 0),(4,.ptr st.length 0 0 0),(6,.ptr (st.length+1) 0 0 0),(7,.ptr (st.length+2) 0 0 0),(44,.bool v45)]) (T:=(Nf st [(o0,(.arr 0 7 0 [[.int .i64 MB,.str QE,.sl false 1 16 (rows Me QF),.sl false 4 72 (rows LZ.cells QG),.sl false 1 16 (rows Me PO),.sl false 1 16 (rows Me Qw),.sl false 1 16 (rows Me OH)]])),(o1,(.arr 0 1 0 [[.fn 60 [] [.ptr o0 0 0 0,.ptr o1 0 0 0]]]))])++[some (.arr 0 4 0 [[.int .i64 a0.kind,.str a0.name,.sl false 1 16 (rows Me a0.words),.sl false 4 72 (rows LZ.cells a0.subs)]]),some (.arr 0 4 0 [[.int .i64 0,.str [],.Mk,.Mk]]),some (.arr 0 4 0 [[.int .i64 a0.kind,.str a0.name,.ref false (st.length+3) gt0 0 t0.length,.Mk]]),some (.arr gt0 1 16 (rows Me t0)),some (.arr 0 1 16 (rows Me []))]) (Vh (by simp) (Qm hsc (by simp<;>omega)) (.lv (.lv (.lv (.lv (.lv (.nil _)))))) (by simp<;>omega) ⟨.s,.s,.s,.s,.s,.s,.s,trivial⟩ (by simp<;>omega)) ?_
     refine rs ?_
     refine dw [1,3] 2 ?_
     obtain⟨v46,hv46,h⟩:=QJ h
     refine d0f [(st.length+4)] (fun st2 h2=>(Qg _ _ _ hv46 st2 (st.length+4) 0 (by simp) ((h2 _ (by simp)).trans (Pu.trans rfl)))) (by simp) (by simp only[List.mem_cons,List.not_mem_nil,or_false,forall_eq_or_imp,forall_eq];exact⟨by first|omega|(simp<;>omega),_,(Pu.trans rfl),Ob.noConfusion⟩) (by simp) ?_
     obtain⟨c48,i5Y,h⟩:=Yp h
     have fy:=(show rows Me v46++[[.str a0.name]]=rows Me c48 from by rw[i5Y];first|exact ND (E:=Me) v46 [a0.name]|simp only[go_sem,rows,List.map_append,List.map_cons,List.map_nil])
     have fy:=fa fy (show v46.length+1=c48.length from by rw[i5Y];simp)
     obtain⟨fx,h⟩:=ck fx h
     try simp only[go_sem,fx,fy]
     try refine⟨by first|omega|(simp<;>omega),?_⟩
     obtain⟨fx,h⟩:=ck fx h
     refine r0 ?_
     refine hj1 () _ _ _ h ?_;exact(bu hsc (hf:=⟨.ref _ _ _ _ _ _ _ _ _ (Oh.trans rfl) (SN (by first|decide|simp)) (by decide) (ZJ _) (by simp only[go_sem]),.s,.s,.s,.s,trivial⟩))
    ·refine cl h (Ss _ _) fun v54 h=>?_
     refine cd h (fun hc h=>?_) fun hc h=>?_
     ·obtain⟨fx,h⟩:=ck fx h
      refine r0 ?_
      refine hj1 () _ _ _ h ?_;exact(bu hsc)
     ·refine rn ?_
      obtain⟨v56,hv56,h⟩:=QJ h
      refine SZ (fun hG=>(Mh _ _ _ (d3Z hv56 (by simpa using hG)))) ?_
      refine cd h (fun hc h=>?_) fun hc h=>?_
      ·obtain⟨fx,h⟩:=ck fx h
       refine r0 ?_
       refine hj1 () _ _ _ h ?_;exact(bu hsc)
      ·refine r0 ?_
       refine hj1 () _ _ _ h ?_;exact(bu hsc)
theorem Rq(a0:Bs)(a1:(List Bs))(r:(List Bs))(h:Oe a0 a1=some r):Pure Tryd.prog gl 59 [.str a0,.sl false 1 16 (rows Me a1)] (.sl false 1 16 (rows Me r)):=by
 intro st
 unfold Oe at h
 have fx:=trivial
 refine fb 22 [.tmp 4] [0,1,4,5,7,8,9,10,11] Tryd.func59 fun hsc=>?_
 refine r0 ?_
 refine r0 ?_
 refine r0 ?_
 (repeat apply sq_)
 refine Te 1 16 ?_
 try simp only[List.append_assoc,List.cons_append,List.nil_append]
 refine Ql (F:=[(0,.str a0),(5,.ref false st.length 0 0 0),(8,.sl false 1 16 (rows Me a1)),(9,.int .i64 (↑a1.length:Int)),(10,.int .i64 0)]) (T:=st++[some (.arr 0 1 16 (rows Me []))]) (d7N hsc (.lv (.nil _)) (by simp) ⟨.s,.nref _ _ _ _ _ _ (d4a.trans rfl),.s,.s,.s,trivial⟩ (by simp)) ?_
 refine aln 8 fun hl0=>?_
 refine rng (body:=PG a0 a1) (kk:=Rp) (n:=a1.length) (s0:=[])
  (fun(gs0:Nat) (k0:Nat) (s0:(List Bs))=>[(0,.str a0),(5,.ref false st.length gs0 0 s0.length),(8,.sl false 1 16 (rows Me a1)),(9,.int .i64 (↑a1.length:Int)),(10,.int .i64 (↑k0:Int))])
  (fun(gs0:Nat) (k0:Nat) (s0:(List Bs))=>st++[some (.arr gs0 1 16 (rows Me s0))])
  (fun(gt0:Nat) (t0:(List Bs))=>[(5,.ref false st.length gt0 0 t0.length)])
  (fun(gt0:Nat) (t0:(List Bs))=>st++[some (.arr gt0 1 16 (rows Me t0))])
  0 fx hl0 h (bm hsc)
  (fun gs0 k0 s0 b0 fx h hx0=>?_) (fun gs0 s0=>?_) (fun gt0 t0 fr1 st1 h hb=>?_)
 ·unfold PG at h
  refine ct ?_
  refine r0 ?_
  refine r0 ?_
  refine r0 ?_
  obtain⟨fx,h⟩:=ck fx h
  obtain⟨c10,i3q,h⟩:=Yp h
  have fy:=(show rows Me s0++[[.str (d1s a0 (get a1 k0))]]=rows Me c10 from by rw[i3q];first|exact ND (E:=Me) s0 [(d1s a0 (get a1 k0))]|simp only[go_sem,rows,List.map_append,List.map_cons,List.map_nil])
  have fy:=fa fy (show s0.length+1=c10.length from by rw[i3q];simp)
  obtain⟨fx,h⟩:=ck fx h
  refine r1 ?_
  refine rn ?_
  cases h
  exact Um (gs0+1) (bm hsc)
 ·refine cf ?_
  refine Ud ?_;simp only[go_sem,fx]
  exact⟨gs0,(bm hsc)⟩
 ·try simp only[go_sem,fx]
  unfold Rp at h
  refine Ql hb ?_
  refine rr ?_
  exact fo (.sl false 1 16 (rows Me t0)) (.ref _ _ _ _ _ _ _ _ _ (d4a.trans rfl) d6x (by decide) (ZJ _) (by simp only[go_sem])) h hsc
end Go.Proofs.YtdjnbjnlnjhllaaDoor
