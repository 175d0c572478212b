import Derived.Test.YtahjhbkhcaphgaaGreatDoorFTWalk1
set_option linter.unusedVariables false
set_option linter.unusedSimpArgs false
set_option maxHeartbeats 2000000
set_option maxRecDepth 100000
namespace Go.Proofs.YtahjhbkhcaphgaaGreatDoor
open Go Go.Am
theorem lZ(n:Nat)(a0:u6)(a1:(List x9))(r:u6)(h:fO n a0 a1=some r):Pure Tryz.prog gl 54 [.agg [.int .i64 a0.kind,.str a0.name,.sl false 1 16 (rows w9 a0.words),.sl false 4 72 (rows u6.cells a0.subs)],.sl false 2 32 (rows x9.cells a1)] (.agg [.int .i64 r.kind,.str r.name,.sl false 1 16 (rows w9 r.words),.sl false 4 72 (rows u6.cells r.subs)]):=by
 intro st
 unfold fO at h
 have fx:=trivial
 refine fb 43 [.cell 4 25] [0,1,2,4,5,7,8,9,10,11,14,15,16,17,20,21,22,23,30] Tryz.func54 fun hsc=>?_
 refine cl h (eX n _) fun v1 h=>?_
 refine aln 1 fun hl0=>?_
 refine rng (body:=cL v1 a1) (kk:=cM n a0 a1 v1) (n:=a1.length) (s0:=())
  (fun(gs0:Unit) (k0:Nat) (s0:Unit)=>[(1,.sl false 2 32 (rows x9.cells a1)),(2,.ptr st.length 0 0 0),(4,.ptr (st.length+1) 0 0 0),(5,.ptr (st.length+2) 0 0 0),(14,.sl false 2 32 (rows x9.cells a1)),(15,.int .i64 (↑a1.length:Int)),(16,.int .i64 (↑k0:Int))])
  (fun(gs0:Unit) (k0:Nat) (s0:Unit)=>st++[some (.arr 0 4 0 [[.int .i64 a0.kind,.str a0.name,.sl false 1 16 (rows w9 a0.words),.sl false 4 72 (rows u6.cells a0.subs)]]),some (.arr 0 4 0 [[.int .i64 0,.str [],.y5,.y5]]),some (.arr 0 1 0 [[.sl false 1 16 (rows w9 v1)]])])
  (fun(gt0:Unit) (t0:Unit)=>[(1,.sl false 2 32 (rows x9.cells a1)),(2,.ptr st.length 0 0 0),(4,.ptr (st.length+1) 0 0 0),(5,.ptr (st.length+2) 0 0 0)])
  (fun(gt0:Unit) (t0:Unit)=>st++[some (.arr 0 4 0 [[.int .i64 a0.kind,.str a0.name,.sl false 1 16 (rows w9 a0.words),.sl false 4 72 (rows u6.cells a0.subs)]]),some (.arr 0 4 0 [[.int .i64 0,.str [],.y5,.y5]]),some (.arr 0 1 0 [[.sl false 1 16 (rows w9 v1)]])])
  () fx hl0 h (bm hsc)
  (fun gs0 k0 s0 b0 fx h hx0=>?_) (fun gs0 s0=>?_) (fun gt0 t0 fr1 st1 h hb=>?_)
 ·unfold cL at h
  refine ct ?_
  refine aln 20 fun hl1=>?_
  refine rng (body:=cJ v1 a1 k0) (kk:=cK) (n:=v1.length) (s0:=())
   (fun(gs1:Unit) (k1:Nat) (s1:Unit)=>[(1,.sl false 2 32 (rows x9.cells a1)),(2,.ptr st.length 0 0 0),(4,.ptr (st.length+1) 0 0 0),(5,.ptr (st.length+2) 0 0 0),(7,.ptr (st.length+3) 0 0 0),(14,.sl false 2 32 (rows x9.cells a1)),(15,.int .i64 (↑a1.length:Int)),(16,.int .i64 (↑k0:Int)),(20,.sl false 1 16 (rows w9 v1)),(21,.int .i64 (↑v1.length:Int)),(22,.int .i64 (↑k1:Int))])
   (fun(gs1:Unit) (k1:Nat) (s1:Unit)=>st++[some (.arr 0 4 0 [[.int .i64 a0.kind,.str a0.name,.sl false 1 16 (rows w9 a0.words),.sl false 4 72 (rows u6.cells a0.subs)]]),some (.arr 0 4 0 [[.int .i64 0,.str [],.y5,.y5]]),some (.arr 0 1 0 [[.sl false 1 16 (rows w9 v1)]]),some (.arr 0 2 0 [[.str ((get a1 k0).from_),.str ((get a1 k0).to_)]])])
   (fun(gt1:Unit) (t1:Unit)=>[(1,.sl false 2 32 (rows x9.cells a1)),(2,.ptr st.length 0 0 0),(4,.ptr (st.length+1) 0 0 0),(5,.ptr (st.length+2) 0 0 0),(14,.sl false 2 32 (rows x9.cells a1)),(15,.int .i64 (↑a1.length:Int)),(16,.int .i64 (↑k0:Int))])
   (fun(gt1:Unit) (t1:Unit)=>st++[some (.arr 0 4 0 [[.int .i64 a0.kind,.str a0.name,.sl false 1 16 (rows w9 a0.words),.sl false 4 72 (rows u6.cells a0.subs)]]),some (.arr 0 4 0 [[.int .i64 0,.str [],.y5,.y5]]),some (.arr 0 1 0 [[.sl false 1 16 (rows w9 v1)]])])
   () fx hl1 h (bm hsc)
   (fun gs1 k1 s1 b1 fx h hx1=>?_) (fun gs1 s1=>?_) (fun gt1 t1 fr1 st1 h hb=>?_)
  ·unfold cJ at h
   refine ct ?_
   refine cd h (fun hc h=>?_) fun hc h=>?_
   ·cases h
   ·refine rn ?_
    cases h
    exact ig () (bm hsc)
  ·refine cf ?_
   refine gO ?_;simp only[go_sem,fx]
   exact⟨(),(bm hsc)⟩
  ·try simp only[go_sem,fx]
   unfold cK at h
   refine R6 hb ?_
   refine rn ?_
   cases h
   exact ig () (bm hsc)
 ·refine cf ?_
  refine gO ?_;simp only[go_sem,fx]
  exact⟨(),(bm hsc)⟩
 ·try simp only[go_sem,fx]
  unfold cM at h
  refine R6 hb ?_
  refine rn ?_
  obtain⟨v2,hv2,h⟩:=M1 h
  refine(lY n _ _ _ _ _ hv2 _ _ _ (by simp) (lC.trans rfl) (lC.trans rfl)).mono ?_
  rintro d1 st1 ⟨rfl,rfl⟩
  exact rt
theorem jc(n:Nat)(a0:u6)(r:u6)(h:fF n a0=some r):Pure Tryz.prog gl 31 [.agg [.int .i64 a0.kind,.str a0.name,.sl false 1 16 (rows w9 a0.words),.sl false 4 72 (rows u6.cells a0.subs)]] (.agg [.int .i64 r.kind,.str r.name,.sl false 1 16 (rows w9 r.words),.sl false 4 72 (rows u6.cells r.subs)]):=by
 intro st
 unfold fF at h
 have fx:=trivial
 refine fb 5 [.cell 2 25] [0,1,2] Tryz.func31 fun hsc=>?_
 refine cl h (up (lZ n _ _) (fun _=>(.cons _ _ _ _ .s (.cons _ _ _ _ (.y5 _ _ _ (by decide)) .nil)))) fun v1 h=>?_
 exact rt
theorem dX(a0 l0:(List Bs))(r:(List Bs))(h:V3 a0 l0=some r):∀(st:St) (o0 q0:Nat) (hnd: [o0].Nodup) (R8:Am.look st o0=some (.arr q0 1 16 (rows w9 l0))),Am.Spec Tryz.prog gl 79 [.sl false 1 16 (rows w9 a0)] st (fun d st'=>d= .ref false o0 (q0+1) 0 r.length∧st'=puts st [(o0,.arr (q0+1) 1 16 (rows w9 r))]):=by
 intro st o0 q0 hnd R8
 obtain⟨rfl,rfl⟩:l0=[]∧r=a0:=by
  unfold V3 at h
  cases l0 with
  |nil=>exact⟨rfl,(Option.some.inj h).symm⟩
  |cons x l=>cases h
 refine kP ?_
 rw[show r.length=(rows w9 r).length from(sI r).symm]
 refine zD (g:=0) (fun hsc=>(aQ (m:=[(o0,.arr (q0+1) 1 16 (rows w9 r))]) hsc (by simp))) R8 ?_
 refine KA (N:=8) (rs:=[.tmp 2]) (keep:=[0,2,4]) Tryz.func79 rfl rfl rfl (by kernel_rfl) rfl fun hsc=>?_
 refine Kp (t:=0) rfl fun hl=>?_
 (repeat apply sq_);apply er_;simp only[go_sem]
 (repeat apply sq_);refine sH rfl ⟨9,by rw[LY]⟩ (by omega) (by omega) fun c hcn=>?_
 simp only[go_sem]
 (repeat apply sq_);refine GI (by rfl) (fun hc=>?_) fun hc=>?_
 ·(repeat apply sq_);apply er_;simp only[go_sem]
  refine Ef ?_
  try simp only[go_sem]
  have Lf:=hcn hc
  refine Gh ?_;simp only[go_sem]
  exact kN hsc (.same _) (by simp) (.inr (.inr ⟨rfl,rfl,Lf⟩))
 ·refine Bn ?_;try simp only[go_sem]
  (repeat apply sq_);apply er_;simp only[go_sem]
  simp only[sI]at hl
  refine⟨⟨by omega,by simp only[top]at *; omega⟩,?_⟩
  refine Ef ?_
  try simp only[go_sem]
  refine Gh ?_;simp only[go_sem]
  exact⟨st++[none,some (.arr 0 1 16 (rows w9 r))],_,by simp,Ck hsc (.dead _ _ _ (.lv (.nil _))) (by simp),.s,by simp,.inr (.inl ⟨rfl,rfl⟩)⟩
theorem iq(a0:w8)(a1:u6)(r:Bool)(h:aH a0 a1=some r):Pure Tryz.prog gl 80 [.agg [.int .i64 a0.form.kind,.str a0.form.name,.sl false 1 16 (rows w9 a0.form.words),.sl false 4 72 (rows u6.cells a0.form.subs),.sl false 1 16 (rows w9 a0.words),.sl false 1 16 (rows w9 a0.B1),.sl false 1 16 (rows w9 a0.parts)],.agg [.int .i64 a1.kind,.str a1.name,.sl false 1 16 (rows w9 a1.words),.sl false 4 72 (rows u6.cells a1.subs)]] (.bool r):=by
 intro st
 unfold aH at h
 have fx:=trivial
 refine fb 21 [.tmp 4] [0,1,2,3,4,9,10,11,12,15,16,17,18,19] Tryz.func80 fun hsc=>?_
 refine rn ?_
 obtain⟨v1,hv1,h⟩:=M1 h
 refine bp (fun hG=>(y3 _ _ _ (pE hv1 (by simpa using hG)))) ?_
 exact rt
theorem jY:∀(n:Nat) (a0:u6) (a1:(List Bs)) (B0:Int) (F3:Bs) (P7:(List Bs)) (S4:(List u6)) (G5:(List Bs)) (kh:(List Bs)) (lq:(List Bs)) (r:u6) (h:O8 n a0 a1 B0 F3 P7 S4 G5 kh lq=some r),∀(st:St) (o0 o1:Nat) (hnd: [o0,o1].Nodup) (R8:Am.look st o0=some (.arr 0 7 0 [[.int .i64 B0,.str F3,.sl false 1 16 (rows w9 P7),.sl false 4 72 (rows u6.cells S4),.sl false 1 16 (rows w9 G5),.sl false 1 16 (rows w9 kh),.sl false 1 16 (rows w9 lq)]])) (ny:Am.look st o1=some (.arr 0 1 0 [[.fn 78 [] [.ptr o0 0 0 0,.ptr o1 0 0 0]]])),Am.Spec Tryz.prog gl 78 [.agg [.int .i64 a0.kind,.str a0.name,.sl false 1 16 (rows w9 a0.words),.sl false 4 72 (rows u6.cells a0.subs)],.sl false 1 16 (rows w9 a1),.ptr o0 0 0 0,.ptr o1 0 0 0] st (fun d st'=>d= .agg [.int .i64 r.kind,.str r.name,.sl false 1 16 (rows w9 r.words),.sl false 4 72 (rows u6.cells r.subs)]∧st'=puts st []):=by
 intro n
 induction n with
 |zero=>intro a0 a1 B0 F3 P7 S4 G5 kh lq r h;cases h
 |succ n ih=>
  intro a0 a1 B0 F3 P7 S4 G5 kh lq r h st o0 o1 hnd R8 ny
  unfold O8 at h
  have ho0:=F2 R8
  have ho1:=F2 ny
  have fx:=fa (fa (idf ho0) (idf ho1)) (nd2 hnd)
  refine fb 98 [.cell 6 25] [0,1,2,3,4,6,7,9,11,18,19,20,21,24,30,44,57,65,70,71,72,73,74,81,82,83,84] Tryz.func78 fun hsc=>?_
  refine aO (s':=(E8 st [(o0,(.arr 0 7 0 [[.int .i64 B0,.str F3,.sl false 1 16 (rows w9 P7),.sl false 4 72 (rows u6.cells S4),.sl false 1 16 (rows w9 G5),.sl false 1 16 (rows w9 kh),.sl false 1 16 (rows w9 lq)]])),(o1,(.arr 0 1 0 [[.fn 78 [] [.ptr o0 0 0 0,.ptr o1 0 0 0]]]))])) (C5 (by simp[R8,ny])) ?_
  refine r0 ?_
  refine r0 ?_
  refine r0 ?_
  (repeat apply sq_)
  refine eJ 1 16 ?_
  try simp only[List.append_assoc,List.cons_append,List.nil_append]
  refine R6 (F:=[(1,.sl false 1 16 (rows w9 a1)),(2,.ptr o0 0 0 0),(3,.ptr o1 0 0 0),(4,.ptr st.length 0 0 0),(6,.ptr (st.length+1) 0 0 0),(7,.ptr (st.length+2) 0 0 0),(18,.sl false 1 16 (rows w9 a0.words)),(19,.int .i64 (↑a0.words.length:Int)),(20,.int .i64 0)]) (T:=(E8 st [(o0,(.arr 0 7 0 [[.int .i64 B0,.str F3,.sl false 1 16 (rows w9 P7),.sl false 4 72 (rows u6.cells S4),.sl false 1 16 (rows w9 G5),.sl false 1 16 (rows w9 kh),.sl false 1 16 (rows w9 lq)]])),(o1,(.arr 0 1 0 [[.fn 78 [] [.ptr o0 0 0 0,.ptr o1 0 0 0]]]))])++[some (.arr 0 4 0 [[.int .i64 a0.kind,.str a0.name,.sl false 1 16 (rows w9 a0.words),.sl false 4 72 (rows u6.cells a0.subs)]]),some (.arr 0 4 0 [[.int .i64 0,.str [],.y5,.y5]]),some (.arr 0 4 0 [[.int .i64 a0.kind,.str a0.name,.ref false (st.length+3) 0 0 0,.y5]]),some (.arr 0 1 16 (rows w9 []))]) (jF (by simp) (aQ hsc (by simp<;>omega)) (.lv (.lv (.live _ _ _ _ (.arr _ _ _ _ _ (.cons _ _ _ _ (.cons _ _ _ _ .s (.cons _ _ _ _ .s (.cons _ _ _ _ (.nref _ _ _ _ _ _ (L4.trans rfl)) (.cons _ _ _ _ .s .nil)))) (.same _))) (.lv (.nil _))))) (by simp<;>omega) ⟨.s,.s,.s,.s,.s,.s,.s,.s,.s,trivial⟩ (by simp<;>omega)) ?_
  refine aln 18 fun hl0=>?_
  refine rng (body:=bw a1 a0 G5) (kk:=bC (O8 n) a0 a1 B0 F3 P7 S4 G5 kh lq) (n:=a0.words.length) (s0:=[])
   (fun(gs0:Nat) (k0:Nat) (s0:(List Bs))=>[(1,.sl false 1 16 (rows w9 a1)),(2,.ptr o0 0 0 0),(3,.ptr o1 0 0 0),(4,.ptr st.length 0 0 0),(6,.ptr (st.length+1) 0 0 0),(7,.ptr (st.length+2) 0 0 0),(18,.sl false 1 16 (rows w9 a0.words)),(19,.int .i64 (↑a0.words.length:Int)),(20,.int .i64 (↑k0:Int))])
   (fun(gs0:Nat) (k0:Nat) (s0:(List Bs))=>(E8 st [(o0,(.arr 0 7 0 [[.int .i64 B0,.str F3,.sl false 1 16 (rows w9 P7),.sl false 4 72 (rows u6.cells S4),.sl false 1 16 (rows w9 G5),.sl false 1 16 (rows w9 kh),.sl false 1 16 (rows w9 lq)]])),(o1,(.arr 0 1 0 [[.fn 78 [] [.ptr o0 0 0 0,.ptr o1 0 0 0]]]))])++[some (.arr 0 4 0 [[.int .i64 a0.kind,.str a0.name,.sl false 1 16 (rows w9 a0.words),.sl false 4 72 (rows u6.cells a0.subs)]]),some (.arr 0 4 0 [[.int .i64 0,.str [],.y5,.y5]]),some (.arr 0 4 0 [[.int .i64 a0.kind,.str a0.name,.ref false (st.length+3) gs0 0 s0.length,.y5]]),some (.arr gs0 1 16 (rows w9 s0))])
   (fun(gt0:Nat) (t0:(List Bs))=>[(1,.sl false 1 16 (rows w9 a1)),(2,.ptr o0 0 0 0),(3,.ptr o1 0 0 0),(4,.ptr st.length 0 0 0),(6,.ptr (st.length+1) 0 0 0),(7,.ptr (st.length+2) 0 0 0)])
   (fun(gt0:Nat) (t0:(List Bs))=>(E8 st [(o0,(.arr 0 7 0 [[.int .i64 B0,.str F3,.sl false 1 16 (rows w9 P7),.sl false 4 72 (rows u6.cells S4),.sl false 1 16 (rows w9 G5),.sl false 1 16 (rows w9 kh),.sl false 1 16 (rows w9 lq)]])),(o1,(.arr 0 1 0 [[.fn 78 [] [.ptr o0 0 0 0,.ptr o1 0 0 0]]]))])++[some (.arr 0 4 0 [[.int .i64 a0.kind,.str a0.name,.sl false 1 16 (rows w9 a0.words),.sl false 4 72 (rows u6.cells a0.subs)]]),some (.arr 0 4 0 [[.int .i64 0,.str [],.y5,.y5]]),some (.arr 0 4 0 [[.int .i64 a0.kind,.str a0.name,.ref false (st.length+3) gt0 0 t0.length,.y5]]),some (.arr gt0 1 16 (rows w9 t0))])
   0 fx hl0 h (bu hsc)
   (fun gs0 k0 s0 b0 fx h hx0=>?_) (fun gs0 s0=>?_) (fun gt0 t0 fr1 st1 h hb=>?_)
  ·unfold bw at h
   refine ct ?_
   refine cl h (y3 _ _) fun v23 h=>?_
   refine cd h (fun hc h=>?_) fun hc h=>?_
   ·obtain⟨fx,h⟩:=ck fx h
    refine r0 ?_
    obtain⟨c26,Jh,h⟩:=gG h
    have fy:=(show rows w9 s0++[[.str (bX [63] (get a0.words k0))]]=rows w9 c26 from by rw[Jh];first|exact F1 (E:=w9) s0 [(bX [63] (get a0.words k0))]|simp only[go_sem,rows,List.map_append,List.map_cons,List.map_nil])
    have fy:=fa fy (show s0.length+1=c26.length from by rw[Jh];simp)
    obtain⟨fx,h⟩:=ck fx h
    refine r1 ?_
    refine rn ?_
    cases h
    exact ig (gs0+1) (bu hsc)
   ·refine cl h (y3 _ _) fun v31 h=>?_
    refine cd h (fun hc h=>?_) fun hc h=>?_
    ·obtain⟨fx,h⟩:=ck fx h
     refine r0 ?_
     obtain⟨c34,DR,h⟩:=gG h
     have fy:=(show rows w9 s0++[[.str (bX [46] (get a0.words k0))]]=rows w9 c34 from by rw[DR];first|exact F1 (E:=w9) s0 [(bX [46] (get a0.words k0))]|simp only[go_sem,rows,List.map_append,List.map_cons,List.map_nil])
     have fy:=fa fy (show s0.length+1=c34.length from by rw[DR];simp)
     obtain⟨fx,h⟩:=ck fx h
     refine r1 ?_
     refine rn ?_
     cases h
     exact ig (gs0+1) (bu hsc)
    ·refine r0 ?_
     obtain⟨c40,Jg,h⟩:=gG h
     have fy:=(show rows w9 s0++[[.str (get a0.words k0)]]=rows w9 c40 from by rw[Jg];first|exact F1 (E:=w9) s0 [(get a0.words k0)]|simp only[go_sem,rows,List.map_append,List.map_cons,List.map_nil])
     have fy:=fa fy (show s0.length+1=c40.length from by rw[Jg];simp)
     obtain⟨fx,h⟩:=ck fx h
     refine r1 ?_
     refine rn ?_
     cases h
     exact ig (gs0+1) (bu hsc)
  ·refine cf ?_
   refine gO ?_;simp only[go_sem,fx]
   exact⟨gs0,(bu hsc)⟩
  ·try simp only[go_sem,fx]
   unfold bC at h
   refine R6 hb ?_
   refine cl h (K6 _) fun v45 h=>?_
   refine rn ?_
   refine aF (M0 (O8 n) a0 B0 F3 P7 S4 G5 kh lq t0) r (fun(gj1:Unit) (j1:Bs×(List Bs))=>[(1,.sl false 1 16 (rows w9 j1.2)),(3,.ptr o1 0 0 0),(4,.ptr st.length 0 0 0),(6,.ptr (st.length+1) 0 0 0),(7,.ptr (st.length+2) 0 0 0)]) (fun(gj1:Unit) (j1:Bs×(List Bs))=>(E8 st [(o0,(.arr 0 7 0 [[.int .i64 B0,.str F3,.sl false 1 16 (rows w9 P7),.sl false 4 72 (rows u6.cells S4),.sl false 1 16 (rows w9 G5),.sl false 1 16 (rows w9 kh),.sl false 1 16 (rows w9 lq)]])),(o1,(.arr 0 1 0 [[.fn 78 [] [.ptr o0 0 0 0,.ptr o1 0 0 0]]]))])++[some (.arr 0 4 0 [[.int .i64 a0.kind,.str a0.name,.sl false 1 16 (rows w9 a0.words),.sl false 4 72 (rows u6.cells a0.subs)]]),some (.arr 0 4 0 [[.int .i64 0,.str [],.y5,.y5]]),some (.arr 0 4 0 [[.int .i64 a0.kind,.str j1.1,.ref false (st.length+3) gt0 0 t0.length,.y5]]),some (.arr gt0 1 16 (rows w9 t0))]) (fun gj1 j1 fr1 st1 h hb=>?_) (fun hj1=>?_)
   ·try simp only[go_sem,fx]
    unfold M0 at h
    refine R6 hb ?_
    (repeat apply sq_)
    refine R6 (F:=[(1,.sl false 1 16 (rows w9 j1.2)),(3,.ptr o1 0 0 0),(4,.ptr st.length 0 0 0),(6,.ptr (st.length+1) 0 0 0),(7,.ptr (st.length+2) 0 0 0)]) (T:=(E8 st [(o0,(.arr 0 7 0 [[.int .i64 B0,.str F3,.sl false 1 16 (rows w9 P7),.sl false 4 72 (rows u6.cells S4),.sl false 1 16 (rows w9 G5),.sl false 1 16 (rows w9 kh),.sl false 1 16 (rows w9 lq)]])),(o1,(.arr 0 1 0 [[.fn 78 [] [.ptr o0 0 0 0,.ptr o1 0 0 0]]]))])++[some (.arr 0 4 0 [[.int .i64 a0.kind,.str a0.name,.sl false 1 16 (rows w9 a0.words),.sl false 4 72 (rows u6.cells a0.subs)]]),some (.arr 0 4 0 [[.int .i64 0,.str [],.y5,.y5]]),some (.arr 0 4 0 [[.int .i64 a0.kind,.str j1.1,.sl false 1 16 (rows w9 t0),.y5]])]) (jF (by simp) (aQ hsc (by simp<;>omega)) (.lv (.lv (.live _ _ _ _ (.arr _ _ _ _ _ (.cons _ _ _ _ (.cons _ _ _ _ .s (.cons _ _ _ _ .s (.cons _ _ _ _ (.ref _ _ _ _ _ _ _ _ _ (L4.trans rfl) (eA (by first|decide|simp)) (by decide) (ng _) (by simp only[go_sem])) (.cons _ _ _ _ .s .nil)))) (.same _))) (.nil _)))) (by simp<;>omega) ⟨.s,.s,.s,.s,.s,trivial⟩ (by simp<;>omega)) ?_
    refine r0 ?_
    (repeat apply sq_)
    refine eJ 4 72 ?_
    try simp only[List.append_assoc,List.cons_append,List.nil_append]
    refine R6 (F:=[(1,.sl false 1 16 (rows w9 j1.2)),(3,.ptr o1 0 0 0),(6,.ptr (st.length+1) 0 0 0),(7,.ptr (st.length+2) 0 0 0),(81,.sl false 4 72 (rows u6.cells a0.subs)),(82,.int .i64 (↑a0.subs.length:Int)),(83,.int .i64 0)]) (T:=(E8 st [(o0,(.arr 0 7 0 [[.int .i64 B0,.str F3,.sl false 1 16 (rows w9 P7),.sl false 4 72 (rows u6.cells S4),.sl false 1 16 (rows w9 G5),.sl false 1 16 (rows w9 kh),.sl false 1 16 (rows w9 lq)]])),(o1,(.arr 0 1 0 [[.fn 78 [] [.ptr o0 0 0 0,.ptr o1 0 0 0]]]))])++[some (.arr 0 4 0 [[.int .i64 a0.kind,.str a0.name,.sl false 1 16 (rows w9 a0.words),.sl false 4 72 (rows u6.cells a0.subs)]]),some (.arr 0 4 0 [[.int .i64 0,.str [],.y5,.y5]]),some (.arr 0 4 0 [[.int .i64 a0.kind,.str j1.1,.sl false 1 16 (rows w9 t0),.ref false (st.length+3) 0 0 0]]),some (.arr 0 4 72 (rows u6.cells []))]) (jF (by simp) (aQ hsc (by simp<;>omega)) (.lv (.lv (.live _ _ _ _ (.arr _ _ _ _ _ (.cons _ _ _ _ (.cons _ _ _ _ .s (.cons _ _ _ _ .s (.cons _ _ _ _ .s (.cons _ _ _ _ (.nref _ _ _ _ _ _ (L4.trans rfl)) .nil)))) (.same _))) (.lv (.nil _))))) (by simp<;>omega) ⟨.s,.s,.s,.s,.s,.s,.s,trivial⟩ (by simp<;>omega)) ?_
    refine aln 81 fun hl2=>?_
    refine rng (body:=bA (O8 n) a0 j1 B0 F3 P7 S4 G5 kh lq) (kk:=bB a0 j1 t0) (n:=a0.subs.length) (s0:=[])
     (fun(gs2:Nat) (k2:Nat) (s2:(List u6))=>[(1,.sl false 1 16 (rows w9 j1.2)),(3,.ptr o1 0 0 0),(6,.ptr (st.length+1) 0 0 0),(7,.ptr (st.length+2) 0 0 0),(81,.sl false 4 72 (rows u6.cells a0.subs)),(82,.int .i64 (↑a0.subs.length:Int)),(83,.int .i64 (↑k2:Int))])
     (fun(gs2:Nat) (k2:Nat) (s2:(List u6))=>(E8 st [(o0,(.arr 0 7 0 [[.int .i64 B0,.str F3,.sl false 1 16 (rows w9 P7),.sl false 4 72 (rows u6.cells S4),.sl false 1 16 (rows w9 G5),.sl false 1 16 (rows w9 kh),.sl false 1 16 (rows w9 lq)]])),(o1,(.arr 0 1 0 [[.fn 78 [] [.ptr o0 0 0 0,.ptr o1 0 0 0]]]))])++[none,some (.arr 0 4 0 [[.int .i64 0,.str [],.y5,.y5]]),some (.arr 0 4 0 [[.int .i64 a0.kind,.str j1.1,.sl false 1 16 (rows w9 t0),.ref false (st.length+3) gs2 0 s2.length]]),some (.arr gs2 4 72 (rows u6.cells s2))])
     (fun(gt2:Nat) (t2:(List u6))=>[(6,.ptr (st.length+1) 0 0 0),(7,.ptr (st.length+2) 0 0 0)])
     (fun(gt2:Nat) (t2:(List u6))=>(E8 st [(o0,(.arr 0 7 0 [[.int .i64 B0,.str F3,.sl false 1 16 (rows w9 P7),.sl false 4 72 (rows u6.cells S4),.sl false 1 16 (rows w9 G5),.sl false 1 16 (rows w9 kh),.sl false 1 16 (rows w9 lq)]])),(o1,(.arr 0 1 0 [[.fn 78 [] [.ptr o0 0 0 0,.ptr o1 0 0 0]]]))])++[none,some (.arr 0 4 0 [[.int .i64 0,.str [],.y5,.y5]]),some (.arr 0 4 0 [[.int .i64 a0.kind,.str j1.1,.sl false 1 16 (rows w9 t0),.ref false (st.length+3) gt2 0 t2.length]]),some (.arr gt2 4 72 (rows u6.cells t2))])
     0 fx hl2 h (bu hsc)
     (fun gs2 k2 s2 b2 fx h hx2=>?_) (fun gs2 s2=>?_) (fun gt2 t2 fr1 st1 h hb=>?_)
    ·unfold bA at h
     refine ct ?_
     refine rn ?_
     refine dw [1,5] 2 ?_
     obtain⟨v65,hv65,h⟩:=M1 h
     refine gn [o0,o1] (fun st2 h2=>(ih _ _ _ _ _ _ _ _ _ _ hv65 st2 _ _ hnd ((h2 _ (by simp)).trans (by simp only[go_sem,fx])) ((h2 _ (by simp)).trans (by simp only[go_sem,fx])))) (by simp) (by simp only[List.mem_cons,List.not_mem_nil,or_false,forall_eq_or_imp,forall_eq];exact⟨⟨by first|omega|(simp<;>omega),_,(by simp only[go_sem,fx]<;>rfl),Ob.noConfusion⟩,⟨by first|omega|(simp<;>omega),_,(by simp only[go_sem,fx]<;>rfl),Ob.noConfusion⟩⟩) (by simp) ?_
     obtain⟨c67,Mb,h⟩:=gG h
     have fy:=(show rows u6.cells s2++[[.int .i64 v65.kind,.str v65.name,.sl false 1 16 (rows w9 v65.words),.sl false 4 72 (rows u6.cells v65.subs)]]=rows u6.cells c67 from by rw[Mb];first|exact F1 (E:=u6.cells) s2 [v65]|simp only[go_sem,rows,List.map_append,List.map_cons,List.map_nil])
     have fy:=fa fy (show s2.length+1=c67.length from by rw[Mb];simp)
     obtain⟨fx,h⟩:=ck fx h
     try simp only[go_sem,fx,fy]
     try refine⟨by first|omega|(simp<;>omega),?_⟩
     refine rn ?_
     cases h
     exact ig (gs2+1) (bu hsc)
    ·refine cf ?_
     refine gO ?_;simp only[go_sem,fx]
     exact⟨gs2,(bu hsc)⟩
    ·try simp only[go_sem,fx]
     unfold bB at h
     refine R6 hb ?_
     refine rr ?_
     exact fuo (.agg [.int .i64 a0.kind,.str j1.1,.sl false 1 16 (rows w9 t0),.sl false 4 72 (rows u6.cells t2)]) (.agg _ _ (.cons _ _ _ _ .s (.cons _ _ _ _ .s (.cons _ _ _ _ .s (.cons _ _ _ _ (.ref _ _ _ _ _ _ _ _ _ (L4.trans rfl) eK (by decide) (ng _) (by simp only[go_sem])) .nil))))) h hsc (hr:=by rintro rfl;exact⟨rfl,C5 (by simp[R8,ny])⟩)
   ·refine cd h (fun hc h=>?_) fun hc h=>?_
    ·(repeat apply sq_)
     refine eJ 1 16 ?_
     try simp only[List.append_assoc,List.cons_append,List.nil_append]
     refine R6 (F:=[(1,.sl false 1 16 (rows w9 a1)),(2,.ptr o0 0 0 0),(3,.ptr o1 0 0 0),(4,.ptr st.length 0 0 0),(6,.ptr (st.length+1) 0 0 0),(7,.ptr (st.length+2) 0 0 0),(44,.bool v45)]) (T:=(E8 st [(o0,(.arr 0 7 0 [[.int .i64 B0,.str F3,.sl false 1 16 (rows w9 P7),.sl false 4 72 (rows u6.cells S4),.sl false 1 16 (rows w9 G5),.sl false 1 16 (rows w9 kh),.sl false 1 16 (rows w9 lq)]])),(o1,(.arr 0 1 0 [[.fn 78 [] [.ptr o0 0 0 0,.ptr o1 0 0 0]]]))])++[some (.arr 0 4 0 [[.int .i64 a0.kind,.str a0.name,.sl false 1 16 (rows w9 a0.words),.sl false 4 72 (rows u6.cells a0.subs)]]),some (.arr 0 4 0 [[.int .i64 0,.str [],.y5,.y5]]),some (.arr 0 4 0 [[.int .i64 a0.kind,.str a0.name,.ref false (st.length+3) gt0 0 t0.length,.y5]]),some (.arr gt0 1 16 (rows w9 t0)),some (.arr 0 1 16 (rows w9 []))]) (jF (by simp) (aQ hsc (by simp<;>omega)) (.lv (.lv (.lv (.lv (.lv (.nil _)))))) (by simp<;>omega) ⟨.s,.s,.s,.s,.s,.s,.s,trivial⟩ (by simp<;>omega)) ?_
     refine rs ?_
     refine dw [1,3] 2 ?_
     obtain⟨v46,hv46,h⟩:=M1 h
     refine gn [(st.length+4)] (fun st2 h2=>(dX _ _ _ hv46 st2 (st.length+4) 0 (by simp) ((h2 _ (by simp)).trans (aG.trans rfl)))) (by simp) (by simp only[List.mem_cons,List.not_mem_nil,or_false,forall_eq_or_imp,forall_eq];exact⟨by first|omega|(simp<;>omega),_,(aG.trans rfl),Ob.noConfusion⟩) (by simp) ?_
     obtain⟨c48,Mc,h⟩:=gG h
     have fy:=(show rows w9 v46++[[.str a0.name]]=rows w9 c48 from by rw[Mc];first|exact F1 (E:=w9) v46 [a0.name]|simp only[go_sem,rows,List.map_append,List.map_cons,List.map_nil])
     have fy:=fa fy (show v46.length+1=c48.length from by rw[Mc];simp)
     obtain⟨fx,h⟩:=ck fx h
     try simp only[go_sem,fx,fy]
     try refine⟨by first|omega|(simp<;>omega),?_⟩
     obtain⟨fx,h⟩:=ck fx h
     refine r0 ?_
     refine hj1 () _ _ _ h ?_;exact(bu hsc (hf:=⟨.ref _ _ _ _ _ _ _ _ _ (L4.trans rfl) (eA (by first|decide|simp)) (by decide) (ng _) (by simp only[go_sem]),.s,.s,.s,.s,trivial⟩))
    ·refine cl h (iq _ _) fun v54 h=>?_
     refine cd h (fun hc h=>?_) fun hc h=>?_
     ·obtain⟨fx,h⟩:=ck fx h
      refine r0 ?_
      refine hj1 () _ _ _ h ?_;exact(bu hsc)
     ·refine rn ?_
      obtain⟨v56,hv56,h⟩:=M1 h
      refine bp (fun hG=>(y3 _ _ _ (pE hv56 (by simpa using hG)))) ?_
      refine cd h (fun hc h=>?_) fun hc h=>?_
      ·obtain⟨fx,h⟩:=ck fx h
       refine r0 ?_
       refine hj1 () _ _ _ h ?_;exact(bu hsc)
      ·refine r0 ?_
       refine hj1 () _ _ _ h ?_;exact(bu hsc)
theorem bF(a0:Bs)(a1:(List Bs))(r:(List Bs))(h:Z8 a0 a1=some r):Pure Tryz.prog gl 77 [.str a0,.sl false 1 16 (rows w9 a1)] (.sl false 1 16 (rows w9 r)):=by
 intro st
 unfold Z8 at h
 have fx:=trivial
 refine fb 22 [.tmp 4] [0,1,4,5,7,8,9,10,11] Tryz.func77 fun hsc=>?_
 refine r0 ?_
 refine r0 ?_
 refine r0 ?_
 (repeat apply sq_)
 refine eJ 1 16 ?_
 try simp only[List.append_assoc,List.cons_append,List.nil_append]
 refine R6 (F:=[(0,.str a0),(5,.ref false st.length 0 0 0),(8,.sl false 1 16 (rows w9 a1)),(9,.int .i64 (↑a1.length:Int)),(10,.int .i64 0)]) (T:=st++[some (.arr 0 1 16 (rows w9 []))]) (xU hsc (.lv (.nil _)) (by simp) ⟨.s,.nref _ _ _ _ _ _ (vO.trans rfl),.s,.s,.s,trivial⟩ (by simp)) ?_
 refine aln 8 fun hl0=>?_
 refine rng (body:=bD a0 a1) (kk:=bE) (n:=a1.length) (s0:=[])
  (fun(gs0:Nat) (k0:Nat) (s0:(List Bs))=>[(0,.str a0),(5,.ref false st.length gs0 0 s0.length),(8,.sl false 1 16 (rows w9 a1)),(9,.int .i64 (↑a1.length:Int)),(10,.int .i64 (↑k0:Int))])
  (fun(gs0:Nat) (k0:Nat) (s0:(List Bs))=>st++[some (.arr gs0 1 16 (rows w9 s0))])
  (fun(gt0:Nat) (t0:(List Bs))=>[(5,.ref false st.length gt0 0 t0.length)])
  (fun(gt0:Nat) (t0:(List Bs))=>st++[some (.arr gt0 1 16 (rows w9 t0))])
  0 fx hl0 h (bm hsc)
  (fun gs0 k0 s0 b0 fx h hx0=>?_) (fun gs0 s0=>?_) (fun gt0 t0 fr1 st1 h hb=>?_)
 ·unfold bD at h
  refine ct ?_
  refine r0 ?_
  refine r0 ?_
  refine r0 ?_
  obtain⟨fx,h⟩:=ck fx h
  obtain⟨c10,Jf,h⟩:=gG h
  have fy:=(show rows w9 s0++[[.str (bX a0 (get a1 k0))]]=rows w9 c10 from by rw[Jf];first|exact F1 (E:=w9) s0 [(bX a0 (get a1 k0))]|simp only[go_sem,rows,List.map_append,List.map_cons,List.map_nil])
  have fy:=fa fy (show s0.length+1=c10.length from by rw[Jf];simp)
  obtain⟨fx,h⟩:=ck fx h
  refine r1 ?_
  refine rn ?_
  cases h
  exact ig (gs0+1) (bm hsc)
 ·refine cf ?_
  refine gO ?_;simp only[go_sem,fx]
  exact⟨gs0,(bm hsc)⟩
 ·try simp only[go_sem,fx]
  unfold bE at h
  refine R6 hb ?_
  refine rr ?_
  exact fo (.sl false 1 16 (rows w9 t0)) (.ref _ _ _ _ _ _ _ _ _ (vO.trans rfl) zo (by decide) (ng _) (by simp only[go_sem])) h hsc
end Go.Proofs.YtahjhbkhcaphgaaGreatDoor
