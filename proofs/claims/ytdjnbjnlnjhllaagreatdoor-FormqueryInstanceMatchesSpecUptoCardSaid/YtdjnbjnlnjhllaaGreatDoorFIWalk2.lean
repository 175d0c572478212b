import Derived.Test.YtdjnbjnlnjhllaaGreatDoorFIWalk1
set_option linter.unusedVariables false
set_option linter.unusedSimpArgs false
set_option maxHeartbeats 2000000
set_option maxRecDepth 100000
namespace Go.Proofs.YtdjnbjnlnjhllaaGreatDoor
open Go Go.Am
theorem x8a(n:Nat)(a0:w3T)(a1:(List w4d))(r:w3T)(h:x2t n a0 a1=some r):Pure Tryz.prog gl 55 [.agg [.int .i64 a0.kind,.str a0.name,.sl false 1 16 (rows w3X a0.words),.sl false 4 72 (rows w3T.cells a0.subs)],.sl false 2 32 (rows w4d.cells a1)] (.agg [.int .i64 r.kind,.str r.name,.sl false 1 16 (rows w3X r.words),.sl false 4 72 (rows w3T.cells r.subs)]):=by
 intro st
 unfold x2t at h
 have fx:=trivial
 refine fb 43 [.cell 4 25] [0,1,2,4,5,7,8,9,10,11,14,15,16,17,20,21,22,23,30] Tryz.func55 fun hsc=>?_
 refine cl h (x3M n _) fun v1 h=>?_
 refine aln 1 fun hl0=>?_
 refine rng (body:=x2m v1 a1) (kk:=x0W n a0 a1 v1) (n:=a1.length) (s0:=())
  (fun(gs0:Unit) (k0:Nat) (s0:Unit)=>[(1,.sl false 2 32 (rows w4d.cells a1)),(2,.ptr st.length 0 0 0),(4,.ptr (st.length+1) 0 0 0),(5,.ptr (st.length+2) 0 0 0),(14,.sl false 2 32 (rows w4d.cells a1)),(15,.int .i64 (↑a1.length:Int)),(16,.int .i64 (↑k0:Int))])
  (fun(gs0:Unit) (k0:Nat) (s0:Unit)=>st++[some (.arr 0 4 0 [[.int .i64 a0.kind,.str a0.name,.sl false 1 16 (rows w3X a0.words),.sl false 4 72 (rows w3T.cells a0.subs)]]),some (.arr 0 4 0 [[.int .i64 0,.str [],.w4g,.w4g]]),some (.arr 0 1 0 [[.sl false 1 16 (rows w3X v1)]])])
  (fun(gt0:Unit) (t0:Unit)=>[(1,.sl false 2 32 (rows w4d.cells a1)),(2,.ptr st.length 0 0 0),(4,.ptr (st.length+1) 0 0 0),(5,.ptr (st.length+2) 0 0 0)])
  (fun(gt0:Unit) (t0:Unit)=>st++[some (.arr 0 4 0 [[.int .i64 a0.kind,.str a0.name,.sl false 1 16 (rows w3X a0.words),.sl false 4 72 (rows w3T.cells a0.subs)]]),some (.arr 0 4 0 [[.int .i64 0,.str [],.w4g,.w4g]]),some (.arr 0 1 0 [[.sl false 1 16 (rows w3X v1)]])])
  () fx hl0 h (bm hsc)
  (fun gs0 k0 s0 b0 fx h hx0=>?_) (fun gs0 s0=>?_) (fun gt0 t0 fr1 st1 h hb=>?_)
 ·unfold x2m at h
  refine ct ?_
  refine aln 20 fun hl1=>?_
  refine rng (body:=x2k v1 a1 k0) (kk:=x2l) (n:=v1.length) (s0:=())
   (fun(gs1:Unit) (k1:Nat) (s1:Unit)=>[(1,.sl false 2 32 (rows w4d.cells a1)),(2,.ptr st.length 0 0 0),(4,.ptr (st.length+1) 0 0 0),(5,.ptr (st.length+2) 0 0 0),(7,.ptr (st.length+3) 0 0 0),(14,.sl false 2 32 (rows w4d.cells a1)),(15,.int .i64 (↑a1.length:Int)),(16,.int .i64 (↑k0:Int)),(20,.sl false 1 16 (rows w3X v1)),(21,.int .i64 (↑v1.length:Int)),(22,.int .i64 (↑k1:Int))])
   (fun(gs1:Unit) (k1:Nat) (s1:Unit)=>st++[some (.arr 0 4 0 [[.int .i64 a0.kind,.str a0.name,.sl false 1 16 (rows w3X a0.words),.sl false 4 72 (rows w3T.cells a0.subs)]]),some (.arr 0 4 0 [[.int .i64 0,.str [],.w4g,.w4g]]),some (.arr 0 1 0 [[.sl false 1 16 (rows w3X v1)]]),some (.arr 0 2 0 [[.str ((get a1 k0).from_),.str ((get a1 k0).to_)]])])
   (fun(gt1:Unit) (t1:Unit)=>[(1,.sl false 2 32 (rows w4d.cells a1)),(2,.ptr st.length 0 0 0),(4,.ptr (st.length+1) 0 0 0),(5,.ptr (st.length+2) 0 0 0),(14,.sl false 2 32 (rows w4d.cells a1)),(15,.int .i64 (↑a1.length:Int)),(16,.int .i64 (↑k0:Int))])
   (fun(gt1:Unit) (t1:Unit)=>st++[some (.arr 0 4 0 [[.int .i64 a0.kind,.str a0.name,.sl false 1 16 (rows w3X a0.words),.sl false 4 72 (rows w3T.cells a0.subs)]]),some (.arr 0 4 0 [[.int .i64 0,.str [],.w4g,.w4g]]),some (.arr 0 1 0 [[.sl false 1 16 (rows w3X v1)]])])
   () fx hl1 h (bm hsc)
   (fun gs1 k1 s1 b1 fx h hx1=>?_) (fun gs1 s1=>?_) (fun gt1 t1 fr1 st1 h hb=>?_)
  ·unfold x2k at h
   refine ct ?_
   refine cd h (fun hc h=>?_) fun hc h=>?_
   ·cases h
   ·refine rn ?_
    cases h
    exact x2D () (bm hsc)
  ·refine cf ?_
   refine x2J ?_;simp only[go_sem,fx]
   exact⟨(),(bm hsc)⟩
  ·try simp only[go_sem,fx]
   unfold x2l at h
   refine w5A hb ?_
   refine rn ?_
   cases h
   exact x2D () (bm hsc)
 ·refine cf ?_
  refine x2J ?_;simp only[go_sem,fx]
  exact⟨(),(bm hsc)⟩
 ·try simp only[go_sem,fx]
  unfold x0W at h
  refine w5A hb ?_
  refine rn ?_
  obtain⟨v2,hv2,h⟩:=w7w h
  refine(x7Z n _ _ _ _ _ hv2 _ _ _ (by simp) (x5S.trans rfl) (x5S.trans rfl)).mono ?_
  rintro d1 st1 ⟨rfl,rfl⟩
  exact rt
theorem x3N(n:Nat)(a0:w3T)(r:w3T)(h:x0G n a0=some r):Pure Tryz.prog gl 27 [.agg [.int .i64 a0.kind,.str a0.name,.sl false 1 16 (rows w3X a0.words),.sl false 4 72 (rows w3T.cells a0.subs)]] (.agg [.int .i64 r.kind,.str r.name,.sl false 1 16 (rows w3X r.words),.sl false 4 72 (rows w3T.cells r.subs)]):=by
 intro st
 unfold x0G at h
 have fx:=trivial
 refine fb 5 [.cell 2 25] [0,1,2] Tryz.func27 fun hsc=>?_
 refine cl h (up (x8a n _ _) (fun _=>(.cons _ _ _ _ .s (.cons _ _ _ _ (.w4g _ _ _ (by decide)) .nil)))) fun v1 h=>?_
 exact rt
theorem x0x(a0 l0:(List Bs))(r:(List Bs))(h:w7o a0 l0=some r):∀(st:St) (o0 q0:Nat) (hnd: [o0].Nodup) (w8Z:Am.look st o0=some (.arr q0 1 16 (rows w3X l0))),Am.Spec Tryz.prog gl 45 [.sl false 1 16 (rows w3X a0)] st (fun d st'=>d= .ref false o0 (q0+1) 0 r.length∧st'=puts st [(o0,.arr (q0+1) 1 16 (rows w3X r))]):=by
 intro st o0 q0 hnd w8Z
 obtain⟨rfl,rfl⟩:l0=[]∧r=a0:=by
  unfold w7o at h
  cases l0 with
  |nil=>exact⟨rfl,(Option.some.inj h).symm⟩
  |cons x l=>cases h
 refine x3d ?_
 rw[show r.length=(rows w3X r).length from(y2d r).symm]
 refine y7l (g:=0) (fun hsc=>(w8D (m:=[(o0,.arr (q0+1) 1 16 (rows w3X r))]) hsc (by simp))) w8Z ?_
 refine z5P (N:=8) (rs:=[.tmp 2]) (keep:=[0,2,4]) Tryz.func45 rfl rfl rfl (by kernel_rfl) rfl fun hsc=>?_
 refine z5D (t:=0) rfl fun hl=>?_
 (repeat apply sq_);apply er_;simp only[go_sem]
 (repeat apply sq_);refine y2c rfl ⟨9,by rw[z7e]⟩ (by omega) (by omega) fun c hcn=>?_
 simp only[go_sem]
 (repeat apply sq_);refine z2N (by rfl) (fun hc=>?_) fun hc=>?_
 ·(repeat apply sq_);apply er_;simp only[go_sem]
  refine z0U ?_
  try simp only[go_sem]
  have z6t:=hcn hc
  refine z2t ?_;simp only[go_sem]
  exact x7c hsc (.same _) (by simp) (.inr (.inr ⟨rfl,rfl,z6t⟩))
 ·refine y8u ?_;try simp only[go_sem]
  (repeat apply sq_);apply er_;simp only[go_sem]
  simp only[y2d]at hl
  refine⟨⟨by omega,by simp only[top]at *; omega⟩,?_⟩
  refine z0U ?_
  try simp only[go_sem]
  refine z2t ?_;simp only[go_sem]
  exact⟨st++[none,some (.arr 0 1 16 (rows w3X r))],_,by simp,y9i hsc (.dead _ _ _ (.lv (.nil _))) (by simp),.s,by simp,.inr (.inl ⟨rfl,rfl⟩)⟩
theorem x2W(a0:w3W)(a1:w3T)(r:Bool)(h:w9X a0 a1=some r):Pure Tryz.prog gl 41 [.agg [.int .i64 a0.form.kind,.str a0.form.name,.sl false 1 16 (rows w3X a0.form.words),.sl false 4 72 (rows w3T.cells a0.form.subs),.sl false 1 16 (rows w3X a0.words),.sl false 1 16 (rows w3X a0.w4a),.sl false 1 16 (rows w3X a0.parts)],.agg [.int .i64 a1.kind,.str a1.name,.sl false 1 16 (rows w3X a1.words),.sl false 4 72 (rows w3T.cells a1.subs)]] (.bool r):=by
 intro st
 unfold w9X at h
 have fx:=trivial
 refine fb 21 [.tmp 4] [0,1,2,3,4,9,10,11,12,15,16,17,18,19] Tryz.func41 fun hsc=>?_
 refine rn ?_
 obtain⟨v1,hv1,h⟩:=w7w h
 refine x0C (fun hG=>(w4e _ _ _ (x8s hv1 (by simpa using hG)))) ?_
 exact rt
theorem x6H:∀(n:Nat) (a0:w3T) (a1:(List Bs)) (w4B:Int) (x0X:Bs) (x0Y:(List Bs)) (x0Z:(List w3T)) (x0g:(List Bs)) (x0Q:(List Bs)) (w8T:(List Bs)) (r:w3T) (h:w7N n a0 a1 w4B x0X x0Y x0Z x0g x0Q w8T=some r),∀(st:St) (o0 o1:Nat) (hnd: [o0,o1].Nodup) (w8Z:Am.look st o0=some (.arr 0 7 0 [[.int .i64 w4B,.str x0X,.sl false 1 16 (rows w3X x0Y),.sl false 4 72 (rows w3T.cells x0Z),.sl false 1 16 (rows w3X x0g),.sl false 1 16 (rows w3X x0Q),.sl false 1 16 (rows w3X w8T)]])) (x6d:Am.look st o1=some (.arr 0 1 0 [[.fn 73 [] [.ptr o0 0 0 0,.ptr o1 0 0 0]]])),Am.Spec Tryz.prog gl 73 [.agg [.int .i64 a0.kind,.str a0.name,.sl false 1 16 (rows w3X a0.words),.sl false 4 72 (rows w3T.cells a0.subs)],.sl false 1 16 (rows w3X a1),.ptr o0 0 0 0,.ptr o1 0 0 0] st (fun d st'=>d= .agg [.int .i64 r.kind,.str r.name,.sl false 1 16 (rows w3X r.words),.sl false 4 72 (rows w3T.cells r.subs)]∧st'=puts st []):=by
 intro n
 induction n with
 |zero=>intro a0 a1 w4B x0X x0Y x0Z x0g x0Q w8T r h;cases h
 |succ n ih=>
  intro a0 a1 w4B x0X x0Y x0Z x0g x0Q w8T r h st o0 o1 hnd w8Z x6d
  unfold w7N at h
  have ho0:=w5a w8Z
  have ho1:=w5a x6d
  have fx:=fa (fa (idf ho0) (idf ho1)) (nd2 hnd)
  refine fb 98 [.cell 6 25] [0,1,2,3,4,6,7,9,11,18,19,20,21,24,30,44,57,65,70,71,72,73,74,81,82,83,84] Tryz.func73 fun hsc=>?_
  refine x1L (s':=(w4O st [(o0,(.arr 0 7 0 [[.int .i64 w4B,.str x0X,.sl false 1 16 (rows w3X x0Y),.sl false 4 72 (rows w3T.cells x0Z),.sl false 1 16 (rows w3X x0g),.sl false 1 16 (rows w3X x0Q),.sl false 1 16 (rows w3X w8T)]])),(o1,(.arr 0 1 0 [[.fn 73 [] [.ptr o0 0 0 0,.ptr o1 0 0 0]]]))])) (w4w (by simp[w8Z,x6d])) ?_
  refine r0 ?_
  refine r0 ?_
  refine r0 ?_
  (repeat apply sq_)
  refine w9I 1 16 ?_
  try simp only[List.append_assoc,List.cons_append,List.nil_append]
  refine w5A (F:=[(1,.sl false 1 16 (rows w3X a1)),(2,.ptr o0 0 0 0),(3,.ptr o1 0 0 0),(4,.ptr st.length 0 0 0),(6,.ptr (st.length+1) 0 0 0),(7,.ptr (st.length+2) 0 0 0),(18,.sl false 1 16 (rows w3X a0.words)),(19,.int .i64 (↑a0.words.length:Int)),(20,.int .i64 0)]) (T:=(w4O st [(o0,(.arr 0 7 0 [[.int .i64 w4B,.str x0X,.sl false 1 16 (rows w3X x0Y),.sl false 4 72 (rows w3T.cells x0Z),.sl false 1 16 (rows w3X x0g),.sl false 1 16 (rows w3X x0Q),.sl false 1 16 (rows w3X w8T)]])),(o1,(.arr 0 1 0 [[.fn 73 [] [.ptr o0 0 0 0,.ptr o1 0 0 0]]]))])++[some (.arr 0 4 0 [[.int .i64 a0.kind,.str a0.name,.sl false 1 16 (rows w3X a0.words),.sl false 4 72 (rows w3T.cells a0.subs)]]),some (.arr 0 4 0 [[.int .i64 0,.str [],.w4g,.w4g]]),some (.arr 0 4 0 [[.int .i64 a0.kind,.str a0.name,.ref false (st.length+3) 0 0 0,.w4g]]),some (.arr 0 1 16 (rows w3X []))]) (x2E (by simp) (w8D hsc (by simp<;>omega)) (.lv (.lv (.live _ _ _ _ (.arr _ _ _ _ _ (.cons _ _ _ _ (.cons _ _ _ _ .s (.cons _ _ _ _ .s (.cons _ _ _ _ (.nref _ _ _ _ _ _ (w4P.trans rfl)) (.cons _ _ _ _ .s .nil)))) (.same _))) (.lv (.nil _))))) (by simp<;>omega) ⟨.s,.s,.s,.s,.s,.s,.s,.s,.s,trivial⟩ (by simp<;>omega)) ?_
  refine aln 18 fun hl0=>?_
  refine rng (body:=x1C a1 a0 x0g) (kk:=x1F (w7N n) a0 a1 w4B x0X x0Y x0Z x0g x0Q w8T) (n:=a0.words.length) (s0:=[])
   (fun(gs0:Nat) (k0:Nat) (s0:(List Bs))=>[(1,.sl false 1 16 (rows w3X a1)),(2,.ptr o0 0 0 0),(3,.ptr o1 0 0 0),(4,.ptr st.length 0 0 0),(6,.ptr (st.length+1) 0 0 0),(7,.ptr (st.length+2) 0 0 0),(18,.sl false 1 16 (rows w3X a0.words)),(19,.int .i64 (↑a0.words.length:Int)),(20,.int .i64 (↑k0:Int))])
   (fun(gs0:Nat) (k0:Nat) (s0:(List Bs))=>(w4O st [(o0,(.arr 0 7 0 [[.int .i64 w4B,.str x0X,.sl false 1 16 (rows w3X x0Y),.sl false 4 72 (rows w3T.cells x0Z),.sl false 1 16 (rows w3X x0g),.sl false 1 16 (rows w3X x0Q),.sl false 1 16 (rows w3X w8T)]])),(o1,(.arr 0 1 0 [[.fn 73 [] [.ptr o0 0 0 0,.ptr o1 0 0 0]]]))])++[some (.arr 0 4 0 [[.int .i64 a0.kind,.str a0.name,.sl false 1 16 (rows w3X a0.words),.sl false 4 72 (rows w3T.cells a0.subs)]]),some (.arr 0 4 0 [[.int .i64 0,.str [],.w4g,.w4g]]),some (.arr 0 4 0 [[.int .i64 a0.kind,.str a0.name,.ref false (st.length+3) gs0 0 s0.length,.w4g]]),some (.arr gs0 1 16 (rows w3X s0))])
   (fun(gt0:Nat) (t0:(List Bs))=>[(1,.sl false 1 16 (rows w3X a1)),(2,.ptr o0 0 0 0),(3,.ptr o1 0 0 0),(4,.ptr st.length 0 0 0),(6,.ptr (st.length+1) 0 0 0),(7,.ptr (st.length+2) 0 0 0)])
   (fun(gt0:Nat) (t0:(List Bs))=>(w4O st [(o0,(.arr 0 7 0 [[.int .i64 w4B,.str x0X,.sl false 1 16 (rows w3X x0Y),.sl false 4 72 (rows w3T.cells x0Z),.sl false 1 16 (rows w3X x0g),.sl false 1 16 (rows w3X x0Q),.sl false 1 16 (rows w3X w8T)]])),(o1,(.arr 0 1 0 [[.fn 73 [] [.ptr o0 0 0 0,.ptr o1 0 0 0]]]))])++[some (.arr 0 4 0 [[.int .i64 a0.kind,.str a0.name,.sl false 1 16 (rows w3X a0.words),.sl false 4 72 (rows w3T.cells a0.subs)]]),some (.arr 0 4 0 [[.int .i64 0,.str [],.w4g,.w4g]]),some (.arr 0 4 0 [[.int .i64 a0.kind,.str a0.name,.ref false (st.length+3) gt0 0 t0.length,.w4g]]),some (.arr gt0 1 16 (rows w3X t0))])
   0 fx hl0 h (bu hsc)
   (fun gs0 k0 s0 b0 fx h hx0=>?_) (fun gs0 s0=>?_) (fun gt0 t0 fr1 st1 h hb=>?_)
  ·unfold x1C at h
   refine ct ?_
   refine cl h (w4e _ _) fun v23 h=>?_
   refine cd h (fun hc h=>?_) fun hc h=>?_
   ·obtain⟨fx,h⟩:=ck fx h
    refine r0 ?_
    obtain⟨c26,z4u,h⟩:=x1k h
    have fy:=(show rows w3X s0++[[.str (x5Z [63] (get a0.words k0))]]=rows w3X c26 from by rw[z4u];first|exact w4k (E:=w3X) s0 [(x5Z [63] (get a0.words k0))]|simp only[go_sem,rows,List.map_append,List.map_cons,List.map_nil])
    have fy:=fa fy (show s0.length+1=c26.length from by rw[z4u];simp)
    obtain⟨fx,h⟩:=ck fx h
    refine r1 ?_
    refine rn ?_
    cases h
    exact x2D (gs0+1) (bu hsc)
   ·refine cl h (w4e _ _) fun v31 h=>?_
    refine cd h (fun hc h=>?_) fun hc h=>?_
    ·obtain⟨fx,h⟩:=ck fx h
     refine r0 ?_
     obtain⟨c34,y8t,h⟩:=x1k h
     have fy:=(show rows w3X s0++[[.str (x5Z [46] (get a0.words k0))]]=rows w3X c34 from by rw[y8t];first|exact w4k (E:=w3X) s0 [(x5Z [46] (get a0.words k0))]|simp only[go_sem,rows,List.map_append,List.map_cons,List.map_nil])
     have fy:=fa fy (show s0.length+1=c34.length from by rw[y8t];simp)
     obtain⟨fx,h⟩:=ck fx h
     refine r1 ?_
     refine rn ?_
     cases h
     exact x2D (gs0+1) (bu hsc)
    ·refine r0 ?_
     obtain⟨c40,z0H,h⟩:=x1k h
     have fy:=(show rows w3X s0++[[.str (get a0.words k0)]]=rows w3X c40 from by rw[z0H];first|exact w4k (E:=w3X) s0 [(get a0.words k0)]|simp only[go_sem,rows,List.map_append,List.map_cons,List.map_nil])
     have fy:=fa fy (show s0.length+1=c40.length from by rw[z0H];simp)
     obtain⟨fx,h⟩:=ck fx h
     refine r1 ?_
     refine rn ?_
     cases h
     exact x2D (gs0+1) (bu hsc)
  ·refine cf ?_
   refine x2J ?_;simp only[go_sem,fx]
   exact⟨gs0,(bu hsc)⟩
  ·try simp only[go_sem,fx]
   unfold x1F at h
   refine w5A hb ?_
   refine cl h (w5L _) fun v45 h=>?_
   refine rn ?_
   refine w9Q (w6X (w7N n) a0 w4B x0X x0Y x0Z x0g x0Q w8T t0) r (fun(gj1:Unit) (j1:Bs×(List Bs))=>[(1,.sl false 1 16 (rows w3X j1.2)),(3,.ptr o1 0 0 0),(4,.ptr st.length 0 0 0),(6,.ptr (st.length+1) 0 0 0),(7,.ptr (st.length+2) 0 0 0)]) (fun(gj1:Unit) (j1:Bs×(List Bs))=>(w4O st [(o0,(.arr 0 7 0 [[.int .i64 w4B,.str x0X,.sl false 1 16 (rows w3X x0Y),.sl false 4 72 (rows w3T.cells x0Z),.sl false 1 16 (rows w3X x0g),.sl false 1 16 (rows w3X x0Q),.sl false 1 16 (rows w3X w8T)]])),(o1,(.arr 0 1 0 [[.fn 73 [] [.ptr o0 0 0 0,.ptr o1 0 0 0]]]))])++[some (.arr 0 4 0 [[.int .i64 a0.kind,.str a0.name,.sl false 1 16 (rows w3X a0.words),.sl false 4 72 (rows w3T.cells a0.subs)]]),some (.arr 0 4 0 [[.int .i64 0,.str [],.w4g,.w4g]]),some (.arr 0 4 0 [[.int .i64 a0.kind,.str j1.1,.ref false (st.length+3) gt0 0 t0.length,.w4g]]),some (.arr gt0 1 16 (rows w3X t0))]) (fun gj1 j1 fr1 st1 h hb=>?_) (fun hj1=>?_)
   ·try simp only[go_sem,fx]
    unfold w6X at h
    refine w5A hb ?_
    (repeat apply sq_)
    refine w5A (F:=[(1,.sl false 1 16 (rows w3X j1.2)),(3,.ptr o1 0 0 0),(4,.ptr st.length 0 0 0),(6,.ptr (st.length+1) 0 0 0),(7,.ptr (st.length+2) 0 0 0)]) (T:=(w4O st [(o0,(.arr 0 7 0 [[.int .i64 w4B,.str x0X,.sl false 1 16 (rows w3X x0Y),.sl false 4 72 (rows w3T.cells x0Z),.sl false 1 16 (rows w3X x0g),.sl false 1 16 (rows w3X x0Q),.sl false 1 16 (rows w3X w8T)]])),(o1,(.arr 0 1 0 [[.fn 73 [] [.ptr o0 0 0 0,.ptr o1 0 0 0]]]))])++[some (.arr 0 4 0 [[.int .i64 a0.kind,.str a0.name,.sl false 1 16 (rows w3X a0.words),.sl false 4 72 (rows w3T.cells a0.subs)]]),some (.arr 0 4 0 [[.int .i64 0,.str [],.w4g,.w4g]]),some (.arr 0 4 0 [[.int .i64 a0.kind,.str j1.1,.sl false 1 16 (rows w3X t0),.w4g]])]) (x2E (by simp) (w8D hsc (by simp<;>omega)) (.lv (.lv (.live _ _ _ _ (.arr _ _ _ _ _ (.cons _ _ _ _ (.cons _ _ _ _ .s (.cons _ _ _ _ .s (.cons _ _ _ _ (.ref _ _ _ _ _ _ _ _ _ (w4P.trans rfl) (x0k (by first|decide|simp)) (by decide) (x4L _) (by simp only[go_sem])) (.cons _ _ _ _ .s .nil)))) (.same _))) (.nil _)))) (by simp<;>omega) ⟨.s,.s,.s,.s,.s,trivial⟩ (by simp<;>omega)) ?_
    refine r0 ?_
    (repeat apply sq_)
    refine w9I 4 72 ?_
    try simp only[List.append_assoc,List.cons_append,List.nil_append]
    refine w5A (F:=[(1,.sl false 1 16 (rows w3X j1.2)),(3,.ptr o1 0 0 0),(6,.ptr (st.length+1) 0 0 0),(7,.ptr (st.length+2) 0 0 0),(81,.sl false 4 72 (rows w3T.cells a0.subs)),(82,.int .i64 (↑a0.subs.length:Int)),(83,.int .i64 0)]) (T:=(w4O st [(o0,(.arr 0 7 0 [[.int .i64 w4B,.str x0X,.sl false 1 16 (rows w3X x0Y),.sl false 4 72 (rows w3T.cells x0Z),.sl false 1 16 (rows w3X x0g),.sl false 1 16 (rows w3X x0Q),.sl false 1 16 (rows w3X w8T)]])),(o1,(.arr 0 1 0 [[.fn 73 [] [.ptr o0 0 0 0,.ptr o1 0 0 0]]]))])++[some (.arr 0 4 0 [[.int .i64 a0.kind,.str a0.name,.sl false 1 16 (rows w3X a0.words),.sl false 4 72 (rows w3T.cells a0.subs)]]),some (.arr 0 4 0 [[.int .i64 0,.str [],.w4g,.w4g]]),some (.arr 0 4 0 [[.int .i64 a0.kind,.str j1.1,.sl false 1 16 (rows w3X t0),.ref false (st.length+3) 0 0 0]]),some (.arr 0 4 72 (rows w3T.cells []))]) (x2E (by simp) (w8D hsc (by simp<;>omega)) (.lv (.lv (.live _ _ _ _ (.arr _ _ _ _ _ (.cons _ _ _ _ (.cons _ _ _ _ .s (.cons _ _ _ _ .s (.cons _ _ _ _ .s (.cons _ _ _ _ (.nref _ _ _ _ _ _ (w4P.trans rfl)) .nil)))) (.same _))) (.lv (.nil _))))) (by simp<;>omega) ⟨.s,.s,.s,.s,.s,.s,.s,trivial⟩ (by simp<;>omega)) ?_
    refine aln 81 fun hl2=>?_
    refine rng (body:=x1D (w7N n) a0 j1 w4B x0X x0Y x0Z x0g x0Q w8T) (kk:=x1E a0 j1 t0) (n:=a0.subs.length) (s0:=[])
     (fun(gs2:Nat) (k2:Nat) (s2:(List w3T))=>[(1,.sl false 1 16 (rows w3X j1.2)),(3,.ptr o1 0 0 0),(6,.ptr (st.length+1) 0 0 0),(7,.ptr (st.length+2) 0 0 0),(81,.sl false 4 72 (rows w3T.cells a0.subs)),(82,.int .i64 (↑a0.subs.length:Int)),(83,.int .i64 (↑k2:Int))])
     (fun(gs2:Nat) (k2:Nat) (s2:(List w3T))=>(w4O st [(o0,(.arr 0 7 0 [[.int .i64 w4B,.str x0X,.sl false 1 16 (rows w3X x0Y),.sl false 4 72 (rows w3T.cells x0Z),.sl false 1 16 (rows w3X x0g),.sl false 1 16 (rows w3X x0Q),.sl false 1 16 (rows w3X w8T)]])),(o1,(.arr 0 1 0 [[.fn 73 [] [.ptr o0 0 0 0,.ptr o1 0 0 0]]]))])++[none,some (.arr 0 4 0 [[.int .i64 0,.str [],.w4g,.w4g]]),some (.arr 0 4 0 [[.int .i64 a0.kind,.str j1.1,.sl false 1 16 (rows w3X t0),.ref false (st.length+3) gs2 0 s2.length]]),some (.arr gs2 4 72 (rows w3T.cells s2))])
     (fun(gt2:Nat) (t2:(List w3T))=>[(6,.ptr (st.length+1) 0 0 0),(7,.ptr (st.length+2) 0 0 0)])
     (fun(gt2:Nat) (t2:(List w3T))=>(w4O st [(o0,(.arr 0 7 0 [[.int .i64 w4B,.str x0X,.sl false 1 16 (rows w3X x0Y),.sl false 4 72 (rows w3T.cells x0Z),.sl false 1 16 (rows w3X x0g),.sl false 1 16 (rows w3X x0Q),.sl false 1 16 (rows w3X w8T)]])),(o1,(.arr 0 1 0 [[.fn 73 [] [.ptr o0 0 0 0,.ptr o1 0 0 0]]]))])++[none,some (.arr 0 4 0 [[.int .i64 0,.str [],.w4g,.w4g]]),some (.arr 0 4 0 [[.int .i64 a0.kind,.str j1.1,.sl false 1 16 (rows w3X t0),.ref false (st.length+3) gt2 0 t2.length]]),some (.arr gt2 4 72 (rows w3T.cells t2))])
     0 fx hl2 h (bu hsc)
     (fun gs2 k2 s2 b2 fx h hx2=>?_) (fun gs2 s2=>?_) (fun gt2 t2 fr1 st1 h hb=>?_)
    ·unfold x1D at h
     refine ct ?_
     refine rn ?_
     refine dw [1,5] 2 ?_
     obtain⟨v65,hv65,h⟩:=w7w h
     refine x7e [o0,o1] (fun st2 h2=>(ih _ _ _ _ _ _ _ _ _ _ hv65 st2 _ _ hnd ((h2 _ (by simp)).trans (by simp only[go_sem,fx])) ((h2 _ (by simp)).trans (by simp only[go_sem,fx])))) (by simp) (by simp only[List.mem_cons,List.not_mem_nil,or_false,forall_eq_or_imp,forall_eq];exact⟨⟨by first|omega|(simp<;>omega),_,(by simp only[go_sem,fx]<;>rfl),Ob.noConfusion⟩,⟨by first|omega|(simp<;>omega),_,(by simp only[go_sem,fx]<;>rfl),Ob.noConfusion⟩⟩) (by simp) ?_
     obtain⟨c67,z7i,h⟩:=x1k h
     have fy:=(show rows w3T.cells s2++[[.int .i64 v65.kind,.str v65.name,.sl false 1 16 (rows w3X v65.words),.sl false 4 72 (rows w3T.cells v65.subs)]]=rows w3T.cells c67 from by rw[z7i];first|exact w4k (E:=w3T.cells) s2 [v65]|simp only[go_sem,rows,List.map_append,List.map_cons,List.map_nil])
     have fy:=fa fy (show s2.length+1=c67.length from by rw[z7i];simp)
     obtain⟨fx,h⟩:=ck fx h
     try simp only[go_sem,fx,fy]
     try refine⟨by first|omega|(simp<;>omega),?_⟩
     refine rn ?_
     cases h
     exact x2D (gs2+1) (bu hsc)
    ·refine cf ?_
     refine x2J ?_;simp only[go_sem,fx]
     exact⟨gs2,(bu hsc)⟩
    ·try simp only[go_sem,fx]
     unfold x1E at h
     refine w5A hb ?_
     refine rr ?_
     exact fuo (.agg [.int .i64 a0.kind,.str j1.1,.sl false 1 16 (rows w3X t0),.sl false 4 72 (rows w3T.cells t2)]) (.agg _ _ (.cons _ _ _ _ .s (.cons _ _ _ _ .s (.cons _ _ _ _ .s (.cons _ _ _ _ (.ref _ _ _ _ _ _ _ _ _ (w4P.trans rfl) x2F (by decide) (x4L _) (by simp only[go_sem])) .nil))))) h hsc (hr:=by rintro rfl;exact⟨rfl,w4w (by simp[w8Z,x6d])⟩)
   ·refine cd h (fun hc h=>?_) fun hc h=>?_
    ·(repeat apply sq_)
     refine w9I 1 16 ?_
     try simp only[List.append_assoc,List.cons_append,List.nil_append]
     refine w5A (F:=[(1,.sl false 1 16 (rows w3X a1)),(2,.ptr o0 0 0 0),(3,.ptr o1 0 0 0),(4,.ptr st.length 0 0 0),(6,.ptr (st.length+1) 0 0 0),(7,.ptr (st.length+2) 0 0 0),(44,.bool v45)]) (T:=(w4O st [(o0,(.arr 0 7 0 [[.int .i64 w4B,.str x0X,.sl false 1 16 (rows w3X x0Y),.sl false 4 72 (rows w3T.cells x0Z),.sl false 1 16 (rows w3X x0g),.sl false 1 16 (rows w3X x0Q),.sl false 1 16 (rows w3X w8T)]])),(o1,(.arr 0 1 0 [[.fn 73 [] [.ptr o0 0 0 0,.ptr o1 0 0 0]]]))])++[some (.arr 0 4 0 [[.int .i64 a0.kind,.str a0.name,.sl false 1 16 (rows w3X a0.words),.sl false 4 72 (rows w3T.cells a0.subs)]]),some (.arr 0 4 0 [[.int .i64 0,.str [],.w4g,.w4g]]),some (.arr 0 4 0 [[.int .i64 a0.kind,.str a0.name,.ref false (st.length+3) gt0 0 t0.length,.w4g]]),some (.arr gt0 1 16 (rows w3X t0)),some (.arr 0 1 16 (rows w3X []))]) (x2E (by simp) (w8D hsc (by simp<;>omega)) (.lv (.lv (.lv (.lv (.lv (.nil _)))))) (by simp<;>omega) ⟨.s,.s,.s,.s,.s,.s,.s,trivial⟩ (by simp<;>omega)) ?_
     refine rs ?_
     refine dw [1,3] 2 ?_
     obtain⟨v46,hv46,h⟩:=w7w h
     refine x7e [(st.length+4)] (fun st2 h2=>(x0x _ _ _ hv46 st2 (st.length+4) 0 (by simp) ((h2 _ (by simp)).trans (w9K.trans rfl)))) (by simp) (by simp only[List.mem_cons,List.not_mem_nil,or_false,forall_eq_or_imp,forall_eq];exact⟨by first|omega|(simp<;>omega),_,(w9K.trans rfl),Ob.noConfusion⟩) (by simp) ?_
     obtain⟨c48,z4w,h⟩:=x1k h
     have fy:=(show rows w3X v46++[[.str a0.name]]=rows w3X c48 from by rw[z4w];first|exact w4k (E:=w3X) v46 [a0.name]|simp only[go_sem,rows,List.map_append,List.map_cons,List.map_nil])
     have fy:=fa fy (show v46.length+1=c48.length from by rw[z4w];simp)
     obtain⟨fx,h⟩:=ck fx h
     try simp only[go_sem,fx,fy]
     try refine⟨by first|omega|(simp<;>omega),?_⟩
     obtain⟨fx,h⟩:=ck fx h
     refine r0 ?_
     refine hj1 () _ _ _ h ?_;exact(bu hsc (hf:=⟨.ref _ _ _ _ _ _ _ _ _ (w4P.trans rfl) (x0k (by first|decide|simp)) (by decide) (x4L _) (by simp only[go_sem]),.s,.s,.s,.s,trivial⟩))
    ·refine cl h (x2W _ _) fun v54 h=>?_
     refine cd h (fun hc h=>?_) fun hc h=>?_
     ·obtain⟨fx,h⟩:=ck fx h
      refine r0 ?_
      refine hj1 () _ _ _ h ?_;exact(bu hsc)
     ·refine rn ?_
      obtain⟨v56,hv56,h⟩:=w7w h
      refine x0C (fun hG=>(w4e _ _ _ (x8s hv56 (by simpa using hG)))) ?_
      refine cd h (fun hc h=>?_) fun hc h=>?_
      ·obtain⟨fx,h⟩:=ck fx h
       refine r0 ?_
       refine hj1 () _ _ _ h ?_;exact(bu hsc)
      ·refine r0 ?_
       refine hj1 () _ _ _ h ?_;exact(bu hsc)
theorem x1I(a0:Bs)(a1:(List Bs))(r:(List Bs))(h:x0i a0 a1=some r):Pure Tryz.prog gl 72 [.str a0,.sl false 1 16 (rows w3X a1)] (.sl false 1 16 (rows w3X r)):=by
 intro st
 unfold x0i at h
 have fx:=trivial
 refine fb 22 [.tmp 4] [0,1,4,5,7,8,9,10,11] Tryz.func72 fun hsc=>?_
 refine r0 ?_
 refine r0 ?_
 refine r0 ?_
 (repeat apply sq_)
 refine w9I 1 16 ?_
 try simp only[List.append_assoc,List.cons_append,List.nil_append]
 refine w5A (F:=[(0,.str a0),(5,.ref false st.length 0 0 0),(8,.sl false 1 16 (rows w3X a1)),(9,.int .i64 (↑a1.length:Int)),(10,.int .i64 0)]) (T:=st++[some (.arr 0 1 16 (rows w3X []))]) (y1B hsc (.lv (.nil _)) (by simp) ⟨.s,.nref _ _ _ _ _ _ (y1b.trans rfl),.s,.s,.s,trivial⟩ (by simp)) ?_
 refine aln 8 fun hl0=>?_
 refine rng (body:=x1G a0 a1) (kk:=x1H) (n:=a1.length) (s0:=[])
  (fun(gs0:Nat) (k0:Nat) (s0:(List Bs))=>[(0,.str a0),(5,.ref false st.length gs0 0 s0.length),(8,.sl false 1 16 (rows w3X a1)),(9,.int .i64 (↑a1.length:Int)),(10,.int .i64 (↑k0:Int))])
  (fun(gs0:Nat) (k0:Nat) (s0:(List Bs))=>st++[some (.arr gs0 1 16 (rows w3X s0))])
  (fun(gt0:Nat) (t0:(List Bs))=>[(5,.ref false st.length gt0 0 t0.length)])
  (fun(gt0:Nat) (t0:(List Bs))=>st++[some (.arr gt0 1 16 (rows w3X t0))])
  0 fx hl0 h (bm hsc)
  (fun gs0 k0 s0 b0 fx h hx0=>?_) (fun gs0 s0=>?_) (fun gt0 t0 fr1 st1 h hb=>?_)
 ·unfold x1G at h
  refine ct ?_
  refine r0 ?_
  refine r0 ?_
  refine r0 ?_
  obtain⟨fx,h⟩:=ck fx h
  obtain⟨c10,z0G,h⟩:=x1k h
  have fy:=(show rows w3X s0++[[.str (x5Z a0 (get a1 k0))]]=rows w3X c10 from by rw[z0G];first|exact w4k (E:=w3X) s0 [(x5Z a0 (get a1 k0))]|simp only[go_sem,rows,List.map_append,List.map_cons,List.map_nil])
  have fy:=fa fy (show s0.length+1=c10.length from by rw[z0G];simp)
  obtain⟨fx,h⟩:=ck fx h
  refine r1 ?_
  refine rn ?_
  cases h
  exact x2D (gs0+1) (bm hsc)
 ·refine cf ?_
  refine x2J ?_;simp only[go_sem,fx]
  exact⟨gs0,(bm hsc)⟩
 ·try simp only[go_sem,fx]
  unfold x1H at h
  refine w5A hb ?_
  refine rr ?_
  exact fo (.sl false 1 16 (rows w3X t0)) (.ref _ _ _ _ _ _ _ _ _ (y1b.trans rfl) y2f (by decide) (x4L _) (by simp only[go_sem])) h hsc
end Go.Proofs.YtdjnbjnlnjhllaaGreatDoor
