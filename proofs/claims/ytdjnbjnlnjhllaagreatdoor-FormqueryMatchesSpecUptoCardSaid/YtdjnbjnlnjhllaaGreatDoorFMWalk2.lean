import Derived.Test.YtdjnbjnlnjhllaaGreatDoorFMWalk1
set_option linter.unusedVariables false
set_option linter.unusedSimpArgs false
set_option maxHeartbeats 2000000
set_option maxRecDepth 100000
namespace Go.Proofs.YtdjnbjnlnjhllaaGreatDoor
open Go Go.Am
theorem r1P(n:Nat)(a0:i8F)(a1:(List i8P))(r:i8F)(h:p6s n a0 a1=some r):Pure Tryz.prog gl 55 [.agg [.int .i64 a0.kind,.str a0.name,.sl false 1 16 (rows i8K a0.words),.sl false 4 72 (rows i8F.cells a0.subs)],.sl false 2 32 (rows i8P.cells a1)] (.agg [.int .i64 r.kind,.str r.name,.sl false 1 16 (rows i8K r.words),.sl false 4 72 (rows i8F.cells r.subs)]):=by
 intro st
 unfold p6s at h
 have fx:=trivial
 refine fb 43 [.cell 4 25] [0,1,2,4,5,7,8,9,10,11,14,15,16,17,20,21,22,23,30] Tryz.func55 fun hsc=>?_
 refine cl h (p7u n _) fun v1 h=>?_
 refine aln 1 fun hl0=>?_
 refine rng (body:=p6o v1 a1) (kk:=p5f n a0 a1 v1) (n:=a1.length) (s0:=())
  (fun(gs0:Unit) (k0:Nat) (s0:Unit)=>[(1,.sl false 2 32 (rows i8P.cells a1)),(2,.ptr st.length 0 0 0),(4,.ptr (st.length+1) 0 0 0),(5,.ptr (st.length+2) 0 0 0),(14,.sl false 2 32 (rows i8P.cells a1)),(15,.int .i64 (↑a1.length:Int)),(16,.int .i64 (↑k0:Int))])
  (fun(gs0:Unit) (k0:Nat) (s0:Unit)=>st++[some (.arr 0 4 0 [[.int .i64 a0.kind,.str a0.name,.sl false 1 16 (rows i8K a0.words),.sl false 4 72 (rows i8F.cells a0.subs)]]),some (.arr 0 4 0 [[.int .i64 0,.str [],.i8S,.i8S]]),some (.arr 0 1 0 [[.sl false 1 16 (rows i8K v1)]])])
  (fun(gt0:Unit) (t0:Unit)=>[(1,.sl false 2 32 (rows i8P.cells a1)),(2,.ptr st.length 0 0 0),(4,.ptr (st.length+1) 0 0 0),(5,.ptr (st.length+2) 0 0 0)])
  (fun(gt0:Unit) (t0:Unit)=>st++[some (.arr 0 4 0 [[.int .i64 a0.kind,.str a0.name,.sl false 1 16 (rows i8K a0.words),.sl false 4 72 (rows i8F.cells a0.subs)]]),some (.arr 0 4 0 [[.int .i64 0,.str [],.i8S,.i8S]]),some (.arr 0 1 0 [[.sl false 1 16 (rows i8K v1)]])])
  () fx hl0 h (bm hsc)
  (fun gs0 k0 s0 b0 fx h hx0=>?_) (fun gs0 s0=>?_) (fun gt0 t0 fr1 st1 h hb=>?_)
 ·unfold p6o at h
  refine ct ?_
  refine aln 20 fun hl1=>?_
  refine rng (body:=p6m v1 a1 k0) (kk:=p6n) (n:=v1.length) (s0:=())
   (fun(gs1:Unit) (k1:Nat) (s1:Unit)=>[(1,.sl false 2 32 (rows i8P.cells a1)),(2,.ptr st.length 0 0 0),(4,.ptr (st.length+1) 0 0 0),(5,.ptr (st.length+2) 0 0 0),(7,.ptr (st.length+3) 0 0 0),(14,.sl false 2 32 (rows i8P.cells a1)),(15,.int .i64 (↑a1.length:Int)),(16,.int .i64 (↑k0:Int)),(20,.sl false 1 16 (rows i8K v1)),(21,.int .i64 (↑v1.length:Int)),(22,.int .i64 (↑k1:Int))])
   (fun(gs1:Unit) (k1:Nat) (s1:Unit)=>st++[some (.arr 0 4 0 [[.int .i64 a0.kind,.str a0.name,.sl false 1 16 (rows i8K a0.words),.sl false 4 72 (rows i8F.cells a0.subs)]]),some (.arr 0 4 0 [[.int .i64 0,.str [],.i8S,.i8S]]),some (.arr 0 1 0 [[.sl false 1 16 (rows i8K v1)]]),some (.arr 0 2 0 [[.str ((get a1 k0).from_),.str ((get a1 k0).to_)]])])
   (fun(gt1:Unit) (t1:Unit)=>[(1,.sl false 2 32 (rows i8P.cells a1)),(2,.ptr st.length 0 0 0),(4,.ptr (st.length+1) 0 0 0),(5,.ptr (st.length+2) 0 0 0),(14,.sl false 2 32 (rows i8P.cells a1)),(15,.int .i64 (↑a1.length:Int)),(16,.int .i64 (↑k0:Int))])
   (fun(gt1:Unit) (t1:Unit)=>st++[some (.arr 0 4 0 [[.int .i64 a0.kind,.str a0.name,.sl false 1 16 (rows i8K a0.words),.sl false 4 72 (rows i8F.cells a0.subs)]]),some (.arr 0 4 0 [[.int .i64 0,.str [],.i8S,.i8S]]),some (.arr 0 1 0 [[.sl false 1 16 (rows i8K v1)]])])
   () fx hl1 h (bm hsc)
   (fun gs1 k1 s1 b1 fx h hx1=>?_) (fun gs1 s1=>?_) (fun gt1 t1 fr1 st1 h hb=>?_)
  ·unfold p6m at h
   refine ct ?_
   refine cd h (fun hc h=>?_) fun hc h=>?_
   ·cases h
   ·refine rn ?_
    cases h
    exact p7A () (bm hsc)
  ·refine cf ?_
   refine p7n ?_;simp only[go_sem,fx]
   exact⟨(),(bm hsc)⟩
  ·try simp only[go_sem,fx]
   unfold p6n at h
   refine p0E hb ?_
   refine rn ?_
   cases h
   exact p7A () (bm hsc)
 ·refine cf ?_
  refine p7n ?_;simp only[go_sem,fx]
  exact⟨(),(bm hsc)⟩
 ·try simp only[go_sem,fx]
  unfold p5f at h
  refine p0E hb ?_
  refine rn ?_
  obtain⟨v2,hv2,h⟩:=p3S h
  refine(r1O n _ _ _ _ _ hv2 _ _ _ (by simp) (r1p.trans rfl) (r1p.trans rfl)).mono ?_
  rintro d1 st1 ⟨rfl,rfl⟩
  exact rt
theorem p9C(n:Nat)(a0:i8F)(r:i8F)(h:p5P n a0=some r):Pure Tryz.prog gl 27 [.agg [.int .i64 a0.kind,.str a0.name,.sl false 1 16 (rows i8K a0.words),.sl false 4 72 (rows i8F.cells a0.subs)]] (.agg [.int .i64 r.kind,.str r.name,.sl false 1 16 (rows i8K r.words),.sl false 4 72 (rows i8F.cells r.subs)]):=by
 intro st
 unfold p5P at h
 have fx:=trivial
 refine fb 5 [.cell 2 25] [0,1,2] Tryz.func27 fun hsc=>?_
 refine cl h (up (r1P n _ _) (fun _=>(.cons _ _ _ _ .s (.cons _ _ _ _ (.i8S _ _ _ (by decide)) .nil)))) fun v1 h=>?_
 exact rt
theorem p7b(a0 l0:(List Bs))(r:(List Bs))(h:p3M a0 l0=some r):∀(st:St) (o0 q0:Nat) (hnd: [o0].Nodup) (p4J:Am.look st o0=some (.arr q0 1 16 (rows i8K l0))),Am.Spec Tryz.prog gl 45 [.sl false 1 16 (rows i8K a0)] st (fun d st'=>d= .ref false o0 (q0+1) 0 r.length∧st'=puts st [(o0,.arr (q0+1) 1 16 (rows i8K r))]):=by
 intro st o0 q0 hnd p4J
 obtain⟨rfl,rfl⟩:l0=[]∧r=a0:=by
  unfold p3M at h
  cases l0 with
  |nil=>exact⟨rfl,(Option.some.inj h).symm⟩
  |cons x l=>cases h
 refine p7K ?_
 rw[show r.length=(rows i8K r).length from(r5S r).symm]
 refine u0Q (g:=0) (fun hsc=>(p4k (m:=[(o0,.arr (q0+1) 1 16 (rows i8K r))]) hsc (by simp))) p4J ?_
 refine u9w (N:=8) (rs:=[.tmp 2]) (keep:=[0,2,4]) Tryz.func45 rfl rfl rfl (by kernel_rfl) rfl fun hsc=>?_
 refine u9l (t:=0) rfl fun hl=>?_
 (repeat apply sq_);apply er_;simp only[go_sem]
 (repeat apply sq_);refine r5R rfl ⟨9,by rw[w0M]⟩ (by omega) (by omega) fun c hcn=>?_
 simp only[go_sem]
 (repeat apply sq_);refine u6y (by rfl) (fun hc=>?_) fun hc=>?_
 ·(repeat apply sq_);apply er_;simp only[go_sem]
  refine u4K ?_
  try simp only[go_sem]
  have u9Z:=hcn hc
  refine u6d ?_;simp only[go_sem]
  exact r0U hsc (.same _) (by simp) (.inr (.inr ⟨rfl,rfl,u9Z⟩))
 ·refine u2j ?_;try simp only[go_sem]
  (repeat apply sq_);apply er_;simp only[go_sem]
  simp only[r5S]at hl
  refine⟨⟨by omega,by simp only[top]at *; omega⟩,?_⟩
  refine u4K ?_
  try simp only[go_sem]
  refine u6d ?_;simp only[go_sem]
  exact⟨st++[none,some (.arr 0 1 16 (rows i8K r))],_,by simp,u2Y hsc (.dead _ _ _ (.lv (.nil _))) (by simp),.s,by simp,.inr (.inl ⟨rfl,rfl⟩)⟩
theorem p8Y(a0:i8I)(a1:i8F)(r:Bool)(h:p5g a0 a1=some r):Pure Tryz.prog gl 41 [.agg [.int .i64 a0.form.kind,.str a0.form.name,.sl false 1 16 (rows i8K a0.form.words),.sl false 4 72 (rows i8F.cells a0.form.subs),.sl false 1 16 (rows i8K a0.words),.sl false 1 16 (rows i8K a0.i8M),.sl false 1 16 (rows i8K a0.parts)],.agg [.int .i64 a1.kind,.str a1.name,.sl false 1 16 (rows i8K a1.words),.sl false 4 72 (rows i8F.cells a1.subs)]] (.bool r):=by
 intro st
 unfold p5g at h
 have fx:=trivial
 refine fb 21 [.tmp 4] [0,1,2,3,4,9,10,11,12,15,16,17,18,19] Tryz.func41 fun hsc=>?_
 refine rn ?_
 obtain⟨v1,hv1,h⟩:=p3S h
 refine p6K (fun hG=>(i8Q _ _ _ (r4k hv1 (by simpa using hG)))) ?_
 exact rt
theorem r0x:∀(n:Nat) (a0:i8F) (a1:(List Bs)) (p0s:Int) (r1g:Bs) (r1h:(List Bs)) (r1i:(List i8F)) (p9Q:(List Bs)) (r0C:(List Bs)) (r1j:(List Bs)) (r:i8F) (h:p0p n a0 a1 p0s r1g r1h r1i p9Q r0C r1j=some r),∀(st:St) (o0 o1:Nat) (hnd: [o0,o1].Nodup) (p4J:Am.look st o0=some (.arr 0 7 0 [[.int .i64 p0s,.str r1g,.sl false 1 16 (rows i8K r1h),.sl false 4 72 (rows i8F.cells r1i),.sl false 1 16 (rows i8K p9Q),.sl false 1 16 (rows i8K r0C),.sl false 1 16 (rows i8K r1j)]])) (r1m:Am.look st o1=some (.arr 0 1 0 [[.fn 73 [] [.ptr o0 0 0 0,.ptr o1 0 0 0]]])),Am.Spec Tryz.prog gl 73 [.agg [.int .i64 a0.kind,.str a0.name,.sl false 1 16 (rows i8K a0.words),.sl false 4 72 (rows i8F.cells a0.subs)],.sl false 1 16 (rows i8K a1),.ptr o0 0 0 0,.ptr o1 0 0 0] st (fun d st'=>d= .agg [.int .i64 r.kind,.str r.name,.sl false 1 16 (rows i8K r.words),.sl false 4 72 (rows i8F.cells r.subs)]∧st'=puts st []):=by
 intro n
 induction n with
 |zero=>intro a0 a1 p0s r1g r1h r1i p9Q r0C r1j r h;cases h
 |succ n ih=>
  intro a0 a1 p0s r1g r1h r1i p9Q r0C r1j r h st o0 o1 hnd p4J r1m
  unfold p0p at h
  have ho0:=p0H p4J
  have ho1:=p0H r1m
  have fx:=fa (fa (idf ho0) (idf ho1)) (nd2 hnd)
  refine fb 98 [.cell 6 25] [0,1,2,3,4,6,7,9,11,18,19,20,21,24,30,44,57,65,70,71,72,73,74,81,82,83,84] Tryz.func73 fun hsc=>?_
  refine p6z (s':=(i9Q st [(o0,(.arr 0 7 0 [[.int .i64 p0s,.str r1g,.sl false 1 16 (rows i8K r1h),.sl false 4 72 (rows i8F.cells r1i),.sl false 1 16 (rows i8K p9Q),.sl false 1 16 (rows i8K r0C),.sl false 1 16 (rows i8K r1j)]])),(o1,(.arr 0 1 0 [[.fn 73 [] [.ptr o0 0 0 0,.ptr o1 0 0 0]]]))])) (i9B (by simp[p4J,r1m])) ?_
  refine r0 ?_
  refine r0 ?_
  refine r0 ?_
  (repeat apply sq_)
  refine p4S 1 16 ?_
  try simp only[List.append_assoc,List.cons_append,List.nil_append]
  refine p0E (F:=[(1,.sl false 1 16 (rows i8K a1)),(2,.ptr o0 0 0 0),(3,.ptr o1 0 0 0),(4,.ptr st.length 0 0 0),(6,.ptr (st.length+1) 0 0 0),(7,.ptr (st.length+2) 0 0 0),(18,.sl false 1 16 (rows i8K a0.words)),(19,.int .i64 (↑a0.words.length:Int)),(20,.int .i64 0)]) (T:=(i9Q st [(o0,(.arr 0 7 0 [[.int .i64 p0s,.str r1g,.sl false 1 16 (rows i8K r1h),.sl false 4 72 (rows i8F.cells r1i),.sl false 1 16 (rows i8K p9Q),.sl false 1 16 (rows i8K r0C),.sl false 1 16 (rows i8K r1j)]])),(o1,(.arr 0 1 0 [[.fn 73 [] [.ptr o0 0 0 0,.ptr o1 0 0 0]]]))])++[some (.arr 0 4 0 [[.int .i64 a0.kind,.str a0.name,.sl false 1 16 (rows i8K a0.words),.sl false 4 72 (rows i8F.cells a0.subs)]]),some (.arr 0 4 0 [[.int .i64 0,.str [],.i8S,.i8S]]),some (.arr 0 4 0 [[.int .i64 a0.kind,.str a0.name,.ref false (st.length+3) 0 0 0,.i8S]]),some (.arr 0 1 16 (rows i8K []))]) (p8p (by simp) (p4k hsc (by simp<;>omega)) (.lv (.lv (.live _ _ _ _ (.arr _ _ _ _ _ (.cons _ _ _ _ (.cons _ _ _ _ .s (.cons _ _ _ _ .s (.cons _ _ _ _ (.nref _ _ _ _ _ _ (p0c.trans rfl)) (.cons _ _ _ _ .s .nil)))) (.same _))) (.lv (.nil _))))) (by simp<;>omega) ⟨.s,.s,.s,.s,.s,.s,.s,.s,.s,trivial⟩ (by simp<;>omega)) ?_
  refine aln 18 fun hl0=>?_
  refine rng (body:=p4n a1 a0 p9Q) (kk:=p4q (p0p n) a0 a1 p0s r1g r1h r1i p9Q r0C r1j) (n:=a0.words.length) (s0:=[])
   (fun(gs0:Nat) (k0:Nat) (s0:(List Bs))=>[(1,.sl false 1 16 (rows i8K a1)),(2,.ptr o0 0 0 0),(3,.ptr o1 0 0 0),(4,.ptr st.length 0 0 0),(6,.ptr (st.length+1) 0 0 0),(7,.ptr (st.length+2) 0 0 0),(18,.sl false 1 16 (rows i8K a0.words)),(19,.int .i64 (↑a0.words.length:Int)),(20,.int .i64 (↑k0:Int))])
   (fun(gs0:Nat) (k0:Nat) (s0:(List Bs))=>(i9Q st [(o0,(.arr 0 7 0 [[.int .i64 p0s,.str r1g,.sl false 1 16 (rows i8K r1h),.sl false 4 72 (rows i8F.cells r1i),.sl false 1 16 (rows i8K p9Q),.sl false 1 16 (rows i8K r0C),.sl false 1 16 (rows i8K r1j)]])),(o1,(.arr 0 1 0 [[.fn 73 [] [.ptr o0 0 0 0,.ptr o1 0 0 0]]]))])++[some (.arr 0 4 0 [[.int .i64 a0.kind,.str a0.name,.sl false 1 16 (rows i8K a0.words),.sl false 4 72 (rows i8F.cells a0.subs)]]),some (.arr 0 4 0 [[.int .i64 0,.str [],.i8S,.i8S]]),some (.arr 0 4 0 [[.int .i64 a0.kind,.str a0.name,.ref false (st.length+3) gs0 0 s0.length,.i8S]]),some (.arr gs0 1 16 (rows i8K s0))])
   (fun(gt0:Nat) (t0:(List Bs))=>[(1,.sl false 1 16 (rows i8K a1)),(2,.ptr o0 0 0 0),(3,.ptr o1 0 0 0),(4,.ptr st.length 0 0 0),(6,.ptr (st.length+1) 0 0 0),(7,.ptr (st.length+2) 0 0 0)])
   (fun(gt0:Nat) (t0:(List Bs))=>(i9Q st [(o0,(.arr 0 7 0 [[.int .i64 p0s,.str r1g,.sl false 1 16 (rows i8K r1h),.sl false 4 72 (rows i8F.cells r1i),.sl false 1 16 (rows i8K p9Q),.sl false 1 16 (rows i8K r0C),.sl false 1 16 (rows i8K r1j)]])),(o1,(.arr 0 1 0 [[.fn 73 [] [.ptr o0 0 0 0,.ptr o1 0 0 0]]]))])++[some (.arr 0 4 0 [[.int .i64 a0.kind,.str a0.name,.sl false 1 16 (rows i8K a0.words),.sl false 4 72 (rows i8F.cells a0.subs)]]),some (.arr 0 4 0 [[.int .i64 0,.str [],.i8S,.i8S]]),some (.arr 0 4 0 [[.int .i64 a0.kind,.str a0.name,.ref false (st.length+3) gt0 0 t0.length,.i8S]]),some (.arr gt0 1 16 (rows i8K t0))])
   0 fx hl0 h (bu hsc)
   (fun gs0 k0 s0 b0 fx h hx0=>?_) (fun gs0 s0=>?_) (fun gt0 t0 fr1 st1 h hb=>?_)
  ·unfold p4n at h
   refine ct ?_
   refine cl h (i8Q _ _) fun v23 h=>?_
   refine cd h (fun hc h=>?_) fun hc h=>?_
   ·obtain⟨fx,h⟩:=ck fx h
    refine r0 ?_
    obtain⟨c26,u8b,h⟩:=p5L h
    have fy:=(show rows i8K s0++[[.str (p9P [63] (get a0.words k0))]]=rows i8K c26 from by rw[u8b];first|exact i9b (E:=i8K) s0 [(p9P [63] (get a0.words k0))]|simp only[go_sem,rows,List.map_append,List.map_cons,List.map_nil])
    have fy:=fa fy (show s0.length+1=c26.length from by rw[u8b];simp)
    obtain⟨fx,h⟩:=ck fx h
    refine r1 ?_
    refine rn ?_
    cases h
    exact p7A (gs0+1) (bu hsc)
   ·refine cl h (i8Q _ _) fun v31 h=>?_
    refine cd h (fun hc h=>?_) fun hc h=>?_
    ·obtain⟨fx,h⟩:=ck fx h
     refine r0 ?_
     obtain⟨c34,u2i,h⟩:=p5L h
     have fy:=(show rows i8K s0++[[.str (p9P [46] (get a0.words k0))]]=rows i8K c34 from by rw[u2i];first|exact i9b (E:=i8K) s0 [(p9P [46] (get a0.words k0))]|simp only[go_sem,rows,List.map_append,List.map_cons,List.map_nil])
     have fy:=fa fy (show s0.length+1=c34.length from by rw[u2i];simp)
     obtain⟨fx,h⟩:=ck fx h
     refine r1 ?_
     refine rn ?_
     cases h
     exact p7A (gs0+1) (bu hsc)
    ·refine r0 ?_
     obtain⟨c40,u8a,h⟩:=p5L h
     have fy:=(show rows i8K s0++[[.str (get a0.words k0)]]=rows i8K c40 from by rw[u8a];first|exact i9b (E:=i8K) s0 [(get a0.words k0)]|simp only[go_sem,rows,List.map_append,List.map_cons,List.map_nil])
     have fy:=fa fy (show s0.length+1=c40.length from by rw[u8a];simp)
     obtain⟨fx,h⟩:=ck fx h
     refine r1 ?_
     refine rn ?_
     cases h
     exact p7A (gs0+1) (bu hsc)
  ·refine cf ?_
   refine p7n ?_;simp only[go_sem,fx]
   exact⟨gs0,(bu hsc)⟩
  ·try simp only[go_sem,fx]
   unfold p4q at h
   refine p0E hb ?_
   refine cl h (p1u _) fun v45 h=>?_
   refine rn ?_
   refine p4c (p0j (p0p n) a0 p0s r1g r1h r1i p9Q r0C r1j t0) r (fun(gj1:Unit) (j1:Bs×(List Bs))=>[(1,.sl false 1 16 (rows i8K j1.2)),(3,.ptr o1 0 0 0),(4,.ptr st.length 0 0 0),(6,.ptr (st.length+1) 0 0 0),(7,.ptr (st.length+2) 0 0 0)]) (fun(gj1:Unit) (j1:Bs×(List Bs))=>(i9Q st [(o0,(.arr 0 7 0 [[.int .i64 p0s,.str r1g,.sl false 1 16 (rows i8K r1h),.sl false 4 72 (rows i8F.cells r1i),.sl false 1 16 (rows i8K p9Q),.sl false 1 16 (rows i8K r0C),.sl false 1 16 (rows i8K r1j)]])),(o1,(.arr 0 1 0 [[.fn 73 [] [.ptr o0 0 0 0,.ptr o1 0 0 0]]]))])++[some (.arr 0 4 0 [[.int .i64 a0.kind,.str a0.name,.sl false 1 16 (rows i8K a0.words),.sl false 4 72 (rows i8F.cells a0.subs)]]),some (.arr 0 4 0 [[.int .i64 0,.str [],.i8S,.i8S]]),some (.arr 0 4 0 [[.int .i64 a0.kind,.str j1.1,.ref false (st.length+3) gt0 0 t0.length,.i8S]]),some (.arr gt0 1 16 (rows i8K t0))]) (fun gj1 j1 fr1 st1 h hb=>?_) (fun hj1=>?_)
   ·try simp only[go_sem,fx]
    unfold p0j at h
    refine p0E hb ?_
    (repeat apply sq_)
    refine p0E (F:=[(1,.sl false 1 16 (rows i8K j1.2)),(3,.ptr o1 0 0 0),(4,.ptr st.length 0 0 0),(6,.ptr (st.length+1) 0 0 0),(7,.ptr (st.length+2) 0 0 0)]) (T:=(i9Q st [(o0,(.arr 0 7 0 [[.int .i64 p0s,.str r1g,.sl false 1 16 (rows i8K r1h),.sl false 4 72 (rows i8F.cells r1i),.sl false 1 16 (rows i8K p9Q),.sl false 1 16 (rows i8K r0C),.sl false 1 16 (rows i8K r1j)]])),(o1,(.arr 0 1 0 [[.fn 73 [] [.ptr o0 0 0 0,.ptr o1 0 0 0]]]))])++[some (.arr 0 4 0 [[.int .i64 a0.kind,.str a0.name,.sl false 1 16 (rows i8K a0.words),.sl false 4 72 (rows i8F.cells a0.subs)]]),some (.arr 0 4 0 [[.int .i64 0,.str [],.i8S,.i8S]]),some (.arr 0 4 0 [[.int .i64 a0.kind,.str j1.1,.sl false 1 16 (rows i8K t0),.i8S]])]) (p8p (by simp) (p4k hsc (by simp<;>omega)) (.lv (.lv (.live _ _ _ _ (.arr _ _ _ _ _ (.cons _ _ _ _ (.cons _ _ _ _ .s (.cons _ _ _ _ .s (.cons _ _ _ _ (.ref _ _ _ _ _ _ _ _ _ (p0c.trans rfl) (p5M (by first|decide|simp)) (by decide) (p9b _) (by simp only[go_sem])) (.cons _ _ _ _ .s .nil)))) (.same _))) (.nil _)))) (by simp<;>omega) ⟨.s,.s,.s,.s,.s,trivial⟩ (by simp<;>omega)) ?_
    refine r0 ?_
    (repeat apply sq_)
    refine p4S 4 72 ?_
    try simp only[List.append_assoc,List.cons_append,List.nil_append]
    refine p0E (F:=[(1,.sl false 1 16 (rows i8K j1.2)),(3,.ptr o1 0 0 0),(6,.ptr (st.length+1) 0 0 0),(7,.ptr (st.length+2) 0 0 0),(81,.sl false 4 72 (rows i8F.cells a0.subs)),(82,.int .i64 (↑a0.subs.length:Int)),(83,.int .i64 0)]) (T:=(i9Q st [(o0,(.arr 0 7 0 [[.int .i64 p0s,.str r1g,.sl false 1 16 (rows i8K r1h),.sl false 4 72 (rows i8F.cells r1i),.sl false 1 16 (rows i8K p9Q),.sl false 1 16 (rows i8K r0C),.sl false 1 16 (rows i8K r1j)]])),(o1,(.arr 0 1 0 [[.fn 73 [] [.ptr o0 0 0 0,.ptr o1 0 0 0]]]))])++[some (.arr 0 4 0 [[.int .i64 a0.kind,.str a0.name,.sl false 1 16 (rows i8K a0.words),.sl false 4 72 (rows i8F.cells a0.subs)]]),some (.arr 0 4 0 [[.int .i64 0,.str [],.i8S,.i8S]]),some (.arr 0 4 0 [[.int .i64 a0.kind,.str j1.1,.sl false 1 16 (rows i8K t0),.ref false (st.length+3) 0 0 0]]),some (.arr 0 4 72 (rows i8F.cells []))]) (p8p (by simp) (p4k hsc (by simp<;>omega)) (.lv (.lv (.live _ _ _ _ (.arr _ _ _ _ _ (.cons _ _ _ _ (.cons _ _ _ _ .s (.cons _ _ _ _ .s (.cons _ _ _ _ .s (.cons _ _ _ _ (.nref _ _ _ _ _ _ (p0c.trans rfl)) .nil)))) (.same _))) (.lv (.nil _))))) (by simp<;>omega) ⟨.s,.s,.s,.s,.s,.s,.s,trivial⟩ (by simp<;>omega)) ?_
    refine aln 81 fun hl2=>?_
    refine rng (body:=p4o (p0p n) a0 j1 p0s r1g r1h r1i p9Q r0C r1j) (kk:=p4p a0 j1 t0) (n:=a0.subs.length) (s0:=[])
     (fun(gs2:Nat) (k2:Nat) (s2:(List i8F))=>[(1,.sl false 1 16 (rows i8K j1.2)),(3,.ptr o1 0 0 0),(6,.ptr (st.length+1) 0 0 0),(7,.ptr (st.length+2) 0 0 0),(81,.sl false 4 72 (rows i8F.cells a0.subs)),(82,.int .i64 (↑a0.subs.length:Int)),(83,.int .i64 (↑k2:Int))])
     (fun(gs2:Nat) (k2:Nat) (s2:(List i8F))=>(i9Q st [(o0,(.arr 0 7 0 [[.int .i64 p0s,.str r1g,.sl false 1 16 (rows i8K r1h),.sl false 4 72 (rows i8F.cells r1i),.sl false 1 16 (rows i8K p9Q),.sl false 1 16 (rows i8K r0C),.sl false 1 16 (rows i8K r1j)]])),(o1,(.arr 0 1 0 [[.fn 73 [] [.ptr o0 0 0 0,.ptr o1 0 0 0]]]))])++[none,some (.arr 0 4 0 [[.int .i64 0,.str [],.i8S,.i8S]]),some (.arr 0 4 0 [[.int .i64 a0.kind,.str j1.1,.sl false 1 16 (rows i8K t0),.ref false (st.length+3) gs2 0 s2.length]]),some (.arr gs2 4 72 (rows i8F.cells s2))])
     (fun(gt2:Nat) (t2:(List i8F))=>[(6,.ptr (st.length+1) 0 0 0),(7,.ptr (st.length+2) 0 0 0)])
     (fun(gt2:Nat) (t2:(List i8F))=>(i9Q st [(o0,(.arr 0 7 0 [[.int .i64 p0s,.str r1g,.sl false 1 16 (rows i8K r1h),.sl false 4 72 (rows i8F.cells r1i),.sl false 1 16 (rows i8K p9Q),.sl false 1 16 (rows i8K r0C),.sl false 1 16 (rows i8K r1j)]])),(o1,(.arr 0 1 0 [[.fn 73 [] [.ptr o0 0 0 0,.ptr o1 0 0 0]]]))])++[none,some (.arr 0 4 0 [[.int .i64 0,.str [],.i8S,.i8S]]),some (.arr 0 4 0 [[.int .i64 a0.kind,.str j1.1,.sl false 1 16 (rows i8K t0),.ref false (st.length+3) gt2 0 t2.length]]),some (.arr gt2 4 72 (rows i8F.cells t2))])
     0 fx hl2 h (bu hsc)
     (fun gs2 k2 s2 b2 fx h hx2=>?_) (fun gs2 s2=>?_) (fun gt2 t2 fr1 st1 h hb=>?_)
    ·unfold p4o at h
     refine ct ?_
     refine rn ?_
     refine dw [1,5] 2 ?_
     obtain⟨v65,hv65,h⟩:=p3S h
     refine r1Y [o0,o1] (fun st2 h2=>(ih _ _ _ _ _ _ _ _ _ _ hv65 st2 _ _ hnd ((h2 _ (by simp)).trans (by simp only[go_sem,fx])) ((h2 _ (by simp)).trans (by simp only[go_sem,fx])))) (by simp) (by simp only[List.mem_cons,List.not_mem_nil,or_false,forall_eq_or_imp,forall_eq];exact⟨⟨by first|omega|(simp<;>omega),_,(by simp only[go_sem,fx]<;>rfl),Ob.noConfusion⟩,⟨by first|omega|(simp<;>omega),_,(by simp only[go_sem,fx]<;>rfl),Ob.noConfusion⟩⟩) (by simp) ?_
     obtain⟨c67,w0O,h⟩:=p5L h
     have fy:=(show rows i8F.cells s2++[[.int .i64 v65.kind,.str v65.name,.sl false 1 16 (rows i8K v65.words),.sl false 4 72 (rows i8F.cells v65.subs)]]=rows i8F.cells c67 from by rw[w0O];first|exact i9b (E:=i8F.cells) s2 [v65]|simp only[go_sem,rows,List.map_append,List.map_cons,List.map_nil])
     have fy:=fa fy (show s2.length+1=c67.length from by rw[w0O];simp)
     obtain⟨fx,h⟩:=ck fx h
     try simp only[go_sem,fx,fy]
     try refine⟨by first|omega|(simp<;>omega),?_⟩
     refine rn ?_
     cases h
     exact p7A (gs2+1) (bu hsc)
    ·refine cf ?_
     refine p7n ?_;simp only[go_sem,fx]
     exact⟨gs2,(bu hsc)⟩
    ·try simp only[go_sem,fx]
     unfold p4p at h
     refine p0E hb ?_
     refine rr ?_
     exact fuo (.agg [.int .i64 a0.kind,.str j1.1,.sl false 1 16 (rows i8K t0),.sl false 4 72 (rows i8F.cells t2)]) (.agg _ _ (.cons _ _ _ _ .s (.cons _ _ _ _ .s (.cons _ _ _ _ .s (.cons _ _ _ _ (.ref _ _ _ _ _ _ _ _ _ (p0c.trans rfl) p7q (by decide) (p9b _) (by simp only[go_sem])) .nil))))) h hsc (hr:=by rintro rfl;exact⟨rfl,i9B (by simp[p4J,r1m])⟩)
   ·refine cd h (fun hc h=>?_) fun hc h=>?_
    ·(repeat apply sq_)
     refine p4S 1 16 ?_
     try simp only[List.append_assoc,List.cons_append,List.nil_append]
     refine p0E (F:=[(1,.sl false 1 16 (rows i8K a1)),(2,.ptr o0 0 0 0),(3,.ptr o1 0 0 0),(4,.ptr st.length 0 0 0),(6,.ptr (st.length+1) 0 0 0),(7,.ptr (st.length+2) 0 0 0),(44,.bool v45)]) (T:=(i9Q st [(o0,(.arr 0 7 0 [[.int .i64 p0s,.str r1g,.sl false 1 16 (rows i8K r1h),.sl false 4 72 (rows i8F.cells r1i),.sl false 1 16 (rows i8K p9Q),.sl false 1 16 (rows i8K r0C),.sl false 1 16 (rows i8K r1j)]])),(o1,(.arr 0 1 0 [[.fn 73 [] [.ptr o0 0 0 0,.ptr o1 0 0 0]]]))])++[some (.arr 0 4 0 [[.int .i64 a0.kind,.str a0.name,.sl false 1 16 (rows i8K a0.words),.sl false 4 72 (rows i8F.cells a0.subs)]]),some (.arr 0 4 0 [[.int .i64 0,.str [],.i8S,.i8S]]),some (.arr 0 4 0 [[.int .i64 a0.kind,.str a0.name,.ref false (st.length+3) gt0 0 t0.length,.i8S]]),some (.arr gt0 1 16 (rows i8K t0)),some (.arr 0 1 16 (rows i8K []))]) (p8p (by simp) (p4k hsc (by simp<;>omega)) (.lv (.lv (.lv (.lv (.lv (.nil _)))))) (by simp<;>omega) ⟨.s,.s,.s,.s,.s,.s,.s,trivial⟩ (by simp<;>omega)) ?_
     refine rs ?_
     refine dw [1,3] 2 ?_
     obtain⟨v46,hv46,h⟩:=p3S h
     refine r1Y [(st.length+4)] (fun st2 h2=>(p7b _ _ _ hv46 st2 (st.length+4) 0 (by simp) ((h2 _ (by simp)).trans (p4Y.trans rfl)))) (by simp) (by simp only[List.mem_cons,List.not_mem_nil,or_false,forall_eq_or_imp,forall_eq];exact⟨by first|omega|(simp<;>omega),_,(p4Y.trans rfl),Ob.noConfusion⟩) (by simp) ?_
     obtain⟨c48,w0P,h⟩:=p5L h
     have fy:=(show rows i8K v46++[[.str a0.name]]=rows i8K c48 from by rw[w0P];first|exact i9b (E:=i8K) v46 [a0.name]|simp only[go_sem,rows,List.map_append,List.map_cons,List.map_nil])
     have fy:=fa fy (show v46.length+1=c48.length from by rw[w0P];simp)
     obtain⟨fx,h⟩:=ck fx h
     try simp only[go_sem,fx,fy]
     try refine⟨by first|omega|(simp<;>omega),?_⟩
     obtain⟨fx,h⟩:=ck fx h
     refine r0 ?_
     refine hj1 () _ _ _ h ?_;exact(bu hsc (hf:=⟨.ref _ _ _ _ _ _ _ _ _ (p0c.trans rfl) (p5M (by first|decide|simp)) (by decide) (p9b _) (by simp only[go_sem]),.s,.s,.s,.s,trivial⟩))
    ·refine cl h (p8Y _ _) fun v54 h=>?_
     refine cd h (fun hc h=>?_) fun hc h=>?_
     ·obtain⟨fx,h⟩:=ck fx h
      refine r0 ?_
      refine hj1 () _ _ _ h ?_;exact(bu hsc)
     ·refine rn ?_
      obtain⟨v56,hv56,h⟩:=p3S h
      refine p6K (fun hG=>(i8Q _ _ _ (r4k hv56 (by simpa using hG)))) ?_
      refine cd h (fun hc h=>?_) fun hc h=>?_
      ·obtain⟨fx,h⟩:=ck fx h
       refine r0 ?_
       refine hj1 () _ _ _ h ?_;exact(bu hsc)
      ·refine r0 ?_
       refine hj1 () _ _ _ h ?_;exact(bu hsc)
theorem p5I(a0:Bs)(a1:(List Bs))(r:(List Bs))(h:p2A a0 a1=some r):Pure Tryz.prog gl 72 [.str a0,.sl false 1 16 (rows i8K a1)] (.sl false 1 16 (rows i8K r)):=by
 intro st
 unfold p2A at h
 have fx:=trivial
 refine fb 22 [.tmp 4] [0,1,4,5,7,8,9,10,11] Tryz.func72 fun hsc=>?_
 refine r0 ?_
 refine r0 ?_
 refine r0 ?_
 (repeat apply sq_)
 refine p4S 1 16 ?_
 try simp only[List.append_assoc,List.cons_append,List.nil_append]
 refine p0E (F:=[(0,.str a0),(5,.ref false st.length 0 0 0),(8,.sl false 1 16 (rows i8K a1)),(9,.int .i64 (↑a1.length:Int)),(10,.int .i64 0)]) (T:=st++[some (.arr 0 1 16 (rows i8K []))]) (r5T hsc (.lv (.nil _)) (by simp) ⟨.s,.nref _ _ _ _ _ _ (r4T.trans rfl),.s,.s,.s,trivial⟩ (by simp)) ?_
 refine aln 8 fun hl0=>?_
 refine rng (body:=p4r a0 a1) (kk:=p5H) (n:=a1.length) (s0:=[])
  (fun(gs0:Nat) (k0:Nat) (s0:(List Bs))=>[(0,.str a0),(5,.ref false st.length gs0 0 s0.length),(8,.sl false 1 16 (rows i8K a1)),(9,.int .i64 (↑a1.length:Int)),(10,.int .i64 (↑k0:Int))])
  (fun(gs0:Nat) (k0:Nat) (s0:(List Bs))=>st++[some (.arr gs0 1 16 (rows i8K s0))])
  (fun(gt0:Nat) (t0:(List Bs))=>[(5,.ref false st.length gt0 0 t0.length)])
  (fun(gt0:Nat) (t0:(List Bs))=>st++[some (.arr gt0 1 16 (rows i8K t0))])
  0 fx hl0 h (bm hsc)
  (fun gs0 k0 s0 b0 fx h hx0=>?_) (fun gs0 s0=>?_) (fun gt0 t0 fr1 st1 h hb=>?_)
 ·unfold p4r at h
  refine ct ?_
  refine r0 ?_
  refine r0 ?_
  refine r0 ?_
  obtain⟨fx,h⟩:=ck fx h
  obtain⟨c10,u4w,h⟩:=p5L h
  have fy:=(show rows i8K s0++[[.str (p9P a0 (get a1 k0))]]=rows i8K c10 from by rw[u4w];first|exact i9b (E:=i8K) s0 [(p9P a0 (get a1 k0))]|simp only[go_sem,rows,List.map_append,List.map_cons,List.map_nil])
  have fy:=fa fy (show s0.length+1=c10.length from by rw[u4w];simp)
  obtain⟨fx,h⟩:=ck fx h
  refine r1 ?_
  refine rn ?_
  cases h
  exact p7A (gs0+1) (bm hsc)
 ·refine cf ?_
  refine p7n ?_;simp only[go_sem,fx]
  exact⟨gs0,(bm hsc)⟩
 ·try simp only[go_sem,fx]
  unfold p5H at h
  refine p0E hb ?_
  refine rr ?_
  exact fo (.sl false 1 16 (rows i8K t0)) (.ref _ _ _ _ _ _ _ _ _ (r4T.trans rfl) r5U (by decide) (p9b _) (by simp only[go_sem])) h hsc
end Go.Proofs.YtdjnbjnlnjhllaaGreatDoor
