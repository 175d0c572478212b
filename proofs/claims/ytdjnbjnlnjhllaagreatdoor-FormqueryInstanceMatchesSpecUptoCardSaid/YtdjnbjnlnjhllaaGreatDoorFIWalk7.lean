import Derived.Test.YtdjnbjnlnjhllaaGreatDoorFIMirrors
set_option linter.unusedVariables false
set_option linter.unusedSimpArgs false
set_option maxHeartbeats 2000000
set_option maxRecDepth 100000
namespace Go.Proofs.YtdjnbjnlnjhllaaGreatDoor
open Go Go.Am
theorem w7K(n:Nat)(a0:Int)(r:Bs)(h:w5b n a0=some r):Pure Tryz.prog gl 61 [.int .i64 a0] (.str r):=by
 intro st
 unfold w5b at h
 have fx:=trivial
 refine fb 17 [.tmp 2] [0,2,3,15] Tryz.func61 fun hsc=>?_
 refine rn ?_
 refine w4m (body:=w7y) (kk:=w9O) (n:=n) (s0:=(a0,[]))
  (fun(gs0:Unit) (s0:Int×Bs)=>[(0,.int .i64 s0.1),(3,.str s0.2)])
  (fun(gs0:Unit) (s0:Int×Bs)=>st)
  (fun(gt0:Unit) (t0:Unit)=>[])
  (fun(gt0:Unit) (t0:Unit)=>st)
  () h (x4b hsc)
  (fun gs0 s0 b0 h hx0=>?_) (fun gt0 t0 fr1 st1 h hb=>?_)
 ·unfold w7y at h
  obtain⟨fx,h⟩:=ck fx h
  obtain⟨fx,h⟩:=ck fx h
  refine cd h (fun hc h=>?_) fun hc h=>?_
  ·refine ra ?_
   cases h
   refine w9J ?_;have h:=congrArg some (hx0 _ rfl)
   exact rt
  ·refine rn ?_
   cases h
   exact w4s () (x4b hsc)
 ·try simp only[go_sem,fx]
  unfold w9O at h
  cases h
theorem x4J:∀(n:Nat) (a0:w3T) (a1:(List Bs)) (a2:(List Bs)) (w4B:Int) (r:w3T×Int) (h:w4x n a0 a1 a2 w4B=some r),∀(st:St) (o0:Nat) (hnd: [o0].Nodup) (w8Z:Am.look st o0=some (.arr 0 1 0 [[.int .i64 w4B]])),Am.Spec Tryz.prog gl 58 [.agg [.int .i64 a0.kind,.str a0.name,.sl false 1 16 (rows w3X a0.words),.sl false 4 72 (rows w3T.cells a0.subs)],.sl false 1 16 (rows w3X a1),.sl false 1 16 (rows w3X a2),.ptr o0 0 0 0] st (fun d st'=>d= .agg [.int .i64 r.1.kind,.str r.1.name,.sl false 1 16 (rows w3X r.1.words),.sl false 4 72 (rows w3T.cells r.1.subs)]∧st'=puts st [(o0,(.arr 0 1 0 [[.int .i64 r.2]]))]):=by
 intro n
 induction n with
 |zero=>intro a0 a1 a2 w4B r h;cases h
 |succ n ih=>
  intro a0 a1 a2 w4B r h st o0 hnd w8Z
  unfold w4x at h
  have ho0:=w5a w8Z
  have fx:=idf ho0
  refine x3d ?_;refine fb 105 [.cell 8 25] [0,1,2,3,4,8,9,11,12,13,20,21,22,23,30,38,54,55,56,57,85,86,87] Tryz.func58 fun hsc=>?_
  refine x1L (s':=(w4O st [(o0,(.arr 0 1 0 [[.int .i64 w4B]]))])) (w4w (by simp[w8Z])) ?_
  refine r0 ?_
  refine r0 ?_
  refine r0 ?_
  (repeat apply sq_)
  refine w9I 1 16 ?_
  try simp only[List.append_assoc,List.cons_append,List.nil_append]
  refine w5A (F:=[(1,.sl false 1 16 (rows w3X a1)),(2,.sl false 1 16 (rows w3X a2)),(3,.ptr o0 0 0 0),(4,.ptr st.length 0 0 0),(8,.ptr (st.length+1) 0 0 0),(9,.ptr (st.length+2) 0 0 0),(20,.sl false 1 16 (rows w3X a0.words)),(21,.int .i64 (↑a0.words.length:Int)),(22,.int .i64 0)]) (T:=(w4O st [(o0,(.arr 0 1 0 [[.int .i64 w4B]]))])++[some (.arr 0 4 0 [[.int .i64 a0.kind,.str a0.name,.sl false 1 16 (rows w3X a0.words),.sl false 4 72 (rows w3T.cells a0.subs)]]),some (.arr 0 4 0 [[.int .i64 0,.str [],.w4g,.w4g]]),some (.arr 0 4 0 [[.int .i64 a0.kind,.str a0.name,.ref false (st.length+3) 0 0 0,.w4g]]),some (.arr 0 1 16 (rows w3X []))]) (x2E (by simp) (w8D hsc (by simp<;>omega)) (.lv (.lv (.live _ _ _ _ (.arr _ _ _ _ _ (.cons _ _ _ _ (.cons _ _ _ _ .s (.cons _ _ _ _ .s (.cons _ _ _ _ (.nref _ _ _ _ _ _ (w4P.trans rfl)) (.cons _ _ _ _ .s .nil)))) (.same _))) (.lv (.nil _))))) (by simp<;>omega) ⟨.s,.s,.s,.s,.s,.s,.s,.s,.s,trivial⟩ (by simp<;>omega)) ?_
  refine aln 20 fun hl0=>?_
  refine rng (body:=w7z n a1 a0 a2) (kk:=w7D (w4x n) n a0 w4B a1 a2) (n:=a0.words.length) (s0:=[])
   (fun(gs0:Nat) (k0:Nat) (s0:(List Bs))=>[(1,.sl false 1 16 (rows w3X a1)),(2,.sl false 1 16 (rows w3X a2)),(3,.ptr o0 0 0 0),(4,.ptr st.length 0 0 0),(8,.ptr (st.length+1) 0 0 0),(9,.ptr (st.length+2) 0 0 0),(20,.sl false 1 16 (rows w3X a0.words)),(21,.int .i64 (↑a0.words.length:Int)),(22,.int .i64 (↑k0:Int))])
   (fun(gs0:Nat) (k0:Nat) (s0:(List Bs))=>(w4O st [(o0,(.arr 0 1 0 [[.int .i64 w4B]]))])++[some (.arr 0 4 0 [[.int .i64 a0.kind,.str a0.name,.sl false 1 16 (rows w3X a0.words),.sl false 4 72 (rows w3T.cells a0.subs)]]),some (.arr 0 4 0 [[.int .i64 0,.str [],.w4g,.w4g]]),some (.arr 0 4 0 [[.int .i64 a0.kind,.str a0.name,.ref false (st.length+3) gs0 0 s0.length,.w4g]]),some (.arr gs0 1 16 (rows w3X s0))])
   (fun(gt0:Nat) (t0:(List Bs))=>[(1,.sl false 1 16 (rows w3X a1)),(2,.sl false 1 16 (rows w3X a2)),(3,.ptr o0 0 0 0),(4,.ptr st.length 0 0 0),(8,.ptr (st.length+1) 0 0 0),(9,.ptr (st.length+2) 0 0 0)])
   (fun(gt0:Nat) (t0:(List Bs))=>(w4O st [(o0,(.arr 0 1 0 [[.int .i64 w4B]]))])++[some (.arr 0 4 0 [[.int .i64 a0.kind,.str a0.name,.sl false 1 16 (rows w3X a0.words),.sl false 4 72 (rows w3T.cells a0.subs)]]),some (.arr 0 4 0 [[.int .i64 0,.str [],.w4g,.w4g]]),some (.arr 0 4 0 [[.int .i64 a0.kind,.str a0.name,.ref false (st.length+3) gt0 0 t0.length,.w4g]]),some (.arr gt0 1 16 (rows w3X t0))])
   0 fx hl0 h (bu hsc)
   (fun gs0 k0 s0 b0 fx h hx0=>?_) (fun gs0 s0=>?_) (fun gt0 t0 fr1 st1 h hb=>?_)
  ·unfold w7z at h
   refine ct ?_
   refine rn ?_
   refine w4m (body:=w6f a1 a0 k0 a2) (kk:=w7A s0) (n:=n) (s0:=(wr .i64 ((↑a1.length:Int)-1)))
    (fun(gs2:Unit) (s2:Int)=>[(1,.sl false 1 16 (rows w3X a1)),(2,.sl false 1 16 (rows w3X a2)),(3,.ptr o0 0 0 0),(4,.ptr st.length 0 0 0),(8,.ptr (st.length+1) 0 0 0),(9,.ptr (st.length+2) 0 0 0),(11,.str (get a0.words k0)),(12,.int .i64 s2),(20,.sl false 1 16 (rows w3X a0.words)),(21,.int .i64 (↑a0.words.length:Int)),(22,.int .i64 (↑k0:Int))])
    (fun(gs2:Unit) (s2:Int)=>(w4O st [(o0,(.arr 0 1 0 [[.int .i64 w4B]]))])++[some (.arr 0 4 0 [[.int .i64 a0.kind,.str a0.name,.sl false 1 16 (rows w3X a0.words),.sl false 4 72 (rows w3T.cells a0.subs)]]),some (.arr 0 4 0 [[.int .i64 0,.str [],.w4g,.w4g]]),some (.arr 0 4 0 [[.int .i64 a0.kind,.str a0.name,.ref false (st.length+3) gs0 0 s0.length,.w4g]]),some (.arr gs0 1 16 (rows w3X s0))])
    (fun(gt2:Unit) (t2:Bs)=>[(1,.sl false 1 16 (rows w3X a1)),(2,.sl false 1 16 (rows w3X a2)),(3,.ptr o0 0 0 0),(4,.ptr st.length 0 0 0),(8,.ptr (st.length+1) 0 0 0),(9,.ptr (st.length+2) 0 0 0),(11,.str t2),(20,.sl false 1 16 (rows w3X a0.words)),(21,.int .i64 (↑a0.words.length:Int)),(22,.int .i64 (↑k0:Int))])
    (fun(gt2:Unit) (t2:Bs)=>(w4O st [(o0,(.arr 0 1 0 [[.int .i64 w4B]]))])++[some (.arr 0 4 0 [[.int .i64 a0.kind,.str a0.name,.sl false 1 16 (rows w3X a0.words),.sl false 4 72 (rows w3T.cells a0.subs)]]),some (.arr 0 4 0 [[.int .i64 0,.str [],.w4g,.w4g]]),some (.arr 0 4 0 [[.int .i64 a0.kind,.str a0.name,.ref false (st.length+3) gs0 0 s0.length,.w4g]]),some (.arr gs0 1 16 (rows w3X s0))])
    () h (bu hsc)
    (fun gs2 s2 b2 h hx2=>?_) (fun gt2 t2 fr1 st1 h hb=>?_)
   ·unfold w6f at h
    refine cd h (fun hc h=>?_) fun hc h=>?_
    ·obtain⟨fx,h⟩:=ck fx h
     refine cd h (fun hc h=>?_) fun hc h=>?_
     ·obtain⟨fx,h⟩:=ck fx h
      refine rn ?_
      cases h
      exact w4H () (bu hsc)
     ·refine rn ?_
      cases h
      exact w4s () (bu hsc)
    ·refine rn ?_
     cases h
     exact w4H () (bu hsc)
   ·try simp only[go_sem,fx]
    unfold w7A at h
    refine w5A hb ?_
    obtain⟨c20,z0K,h⟩:=x1k h
    have fy:=(show rows w3X s0++[[.str t2]]=rows w3X c20 from by rw[z0K];first|exact w4k (E:=w3X) s0 [t2]|simp only[go_sem,rows,List.map_append,List.map_cons,List.map_nil])
    have fy:=fa fy (show s0.length+1=c20.length from by rw[z0K];simp)
    obtain⟨fx,h⟩:=ck fx h
    refine r1 ?_
    refine rn ?_
    cases h
    exact x2D (gs0+1) (bu hsc)
  ·refine cf ?_
   refine x2J ?_;simp only[go_sem,fx]
   exact⟨gs0,(bu hsc)⟩
  ·try simp only[go_sem,fx]
   unfold w7D at h
   refine w5A hb ?_
   refine rn ?_
   refine w9Q (w5v (w4x n) a0 t0) r (fun(gj3:Unit) (j3:Int×Bs×(List Bs)×(List Bs))=>[(1,.sl false 1 16 (rows w3X j3.2.2.1)),(2,.sl false 1 16 (rows w3X j3.2.2.2)),(3,.ptr o0 0 0 0),(4,.ptr st.length 0 0 0),(8,.ptr (st.length+1) 0 0 0),(9,.ptr (st.length+2) 0 0 0)]) (fun(gj3:Unit) (j3:Int×Bs×(List Bs)×(List Bs))=>(w4O st [(o0,(.arr 0 1 0 [[.int .i64 j3.1]]))])++[some (.arr 0 4 0 [[.int .i64 a0.kind,.str a0.name,.sl false 1 16 (rows w3X a0.words),.sl false 4 72 (rows w3T.cells a0.subs)]]),some (.arr 0 4 0 [[.int .i64 0,.str [],.w4g,.w4g]]),some (.arr 0 4 0 [[.int .i64 a0.kind,.str j3.2.1,.ref false (st.length+3) gt0 0 t0.length,.w4g]]),some (.arr gt0 1 16 (rows w3X t0))]) (fun gj3 j3 fr1 st1 h hb=>?_) (fun hj3=>?_)
   ·try simp only[go_sem,fx]
    unfold w5v at h
    refine w5A hb ?_
    refine r0 ?_
    (repeat apply sq_)
    refine w9I 4 72 ?_
    try simp only[List.append_assoc,List.cons_append,List.nil_append]
    refine w5A (F:=[(1,.sl false 1 16 (rows w3X j3.2.2.1)),(2,.sl false 1 16 (rows w3X j3.2.2.2)),(3,.ptr o0 0 0 0),(4,.ptr st.length 0 0 0),(8,.ptr (st.length+1) 0 0 0),(9,.ptr (st.length+2) 0 0 0),(85,.int .i64 (↑a0.subs.length:Int)),(86,.int .i64 0)]) (T:=(w4O st [(o0,(.arr 0 1 0 [[.int .i64 j3.1]]))])++[some (.arr 0 4 0 [[.int .i64 a0.kind,.str a0.name,.sl false 1 16 (rows w3X a0.words),.sl false 4 72 (rows w3T.cells a0.subs)]]),some (.arr 0 4 0 [[.int .i64 0,.str [],.w4g,.w4g]]),some (.arr 0 4 0 [[.int .i64 a0.kind,.str j3.2.1,.ref false (st.length+3) gt0 0 t0.length,.ref false (st.length+4) 0 0 0]]),some (.arr gt0 1 16 (rows w3X t0)),some (.arr 0 4 72 (rows w3T.cells []))]) (x2E (by simp) (w8D hsc (by simp<;>omega)) (.lv (.lv (.live _ _ _ _ (.arr _ _ _ _ _ (.cons _ _ _ _ (.cons _ _ _ _ .s (.cons _ _ _ _ .s (.cons _ _ _ _ .s (.cons _ _ _ _ (.nref _ _ _ _ _ _ (w4P.trans rfl)) .nil)))) (.same _))) (.lv (.lv (.nil _)))))) (by simp<;>omega) ⟨.s,.s,.s,.s,.s,.s,.s,.s,trivial⟩ (by simp<;>omega)) ?_
    obtain⟨fx,h⟩:=ck fx h
    (repeat apply sq_)
    refine rng (body:=w7B (w4x n) a0 j3) (kk:=w7C a0 j3 t0) (n:=a0.subs.length) (s0:=(j3.1,[]))
     (fun(gs4:Nat) (k4:Nat) (s4:Int×(List w3T))=>[(1,.sl false 1 16 (rows w3X j3.2.2.1)),(2,.sl false 1 16 (rows w3X j3.2.2.2)),(3,.ptr o0 0 0 0),(4,.ptr st.length 0 0 0),(8,.ptr (st.length+1) 0 0 0),(9,.ptr (st.length+2) 0 0 0),(85,.int .i64 (↑a0.subs.length:Int)),(86,.int .i64 (↑k4:Int))])
     (fun(gs4:Nat) (k4:Nat) (s4:Int×(List w3T))=>(w4O st [(o0,(.arr 0 1 0 [[.int .i64 s4.1]]))])++[some (.arr 0 4 0 [[.int .i64 a0.kind,.str a0.name,.sl false 1 16 (rows w3X a0.words),.sl false 4 72 (rows w3T.cells a0.subs)]]),some (.arr 0 4 0 [[.int .i64 0,.str [],.w4g,.w4g]]),some (.arr 0 4 0 [[.int .i64 a0.kind,.str j3.2.1,.ref false (st.length+3) gt0 0 t0.length,.ref false (st.length+4) gs4 0 s4.2.length]]),some (.arr gt0 1 16 (rows w3X t0)),some (.arr gs4 4 72 (rows w3T.cells s4.2))])
     (fun(gt4:Nat) (t4:Int×(List w3T))=>[(8,.ptr (st.length+1) 0 0 0),(9,.ptr (st.length+2) 0 0 0)])
     (fun(gt4:Nat) (t4:Int×(List w3T))=>(w4O st [(o0,(.arr 0 1 0 [[.int .i64 t4.1]]))])++[none,some (.arr 0 4 0 [[.int .i64 0,.str [],.w4g,.w4g]]),some (.arr 0 4 0 [[.int .i64 a0.kind,.str j3.2.1,.ref false (st.length+3) gt0 0 t0.length,.ref false (st.length+4) gt4 0 t4.2.length]]),some (.arr gt0 1 16 (rows w3X t0)),some (.arr gt4 4 72 (rows w3T.cells t4.2))])
     0 fx fx.2 h (bu hsc)
     (fun gs4 k4 s4 b4 fx h hx4=>?_) (fun gs4 s4=>?_) (fun gt4 t4 fr1 st1 h hb=>?_)
    ·unfold w7B at h
     refine ct ?_
     refine rn ?_
     refine dw [1,10] 2 ?_
     obtain⟨v57,hv57,h⟩:=w7w h
     refine x7e [o0] (fun st2 h2=>(x7h (ih _ _ _ _ _ hv57 st2 _ hnd ((h2 _ (by simp)).trans (by simp only[go_sem,fx]))))) (by simp) (by simp only[List.mem_cons,List.not_mem_nil,or_false,forall_eq_or_imp,forall_eq];exact⟨by first|omega|(simp<;>omega),_,(by simp only[go_sem,fx]<;>rfl),Ob.noConfusion⟩) (by simp) ?_
     obtain⟨c59,z7o,h⟩:=x1k h
     have fy:=(show rows w3T.cells s4.2++[[.int .i64 v57.1.kind,.str v57.1.name,.sl false 1 16 (rows w3X v57.1.words),.sl false 4 72 (rows w3T.cells v57.1.subs)]]=rows w3T.cells c59 from by rw[z7o];first|exact w4k (E:=w3T.cells) s4.2 [v57.1]|simp only[go_sem,rows,List.map_append,List.map_cons,List.map_nil])
     have fy:=fa fy (show s4.2.length+1=c59.length from by rw[z7o];simp)
     obtain⟨fx,h⟩:=ck fx h
     try simp only[go_sem,fx,fy]
     try refine⟨by first|omega|(simp<;>omega),?_⟩
     refine rn ?_
     cases h
     exact x2D (gs4+1) (bu hsc)
    ·refine cf ?_
     refine x2J ?_;simp only[go_sem,fx]
     exact⟨gs4,(bu hsc)⟩
    ·try simp only[go_sem,fx]
     unfold w7C at h
     refine w5A hb ?_
     refine rr ?_
     exact fuo (.agg [.int .i64 a0.kind,.str j3.2.1,.sl false 1 16 (rows w3X t0),.sl false 4 72 (rows w3T.cells t4.2)]) (.agg _ _ (.cons _ _ _ _ .s (.cons _ _ _ _ .s (.cons _ _ _ _ (.ref _ _ _ _ _ _ _ _ _ (w4P.trans rfl) x2F (by decide) (x4L _) (by simp only[go_sem])) (.cons _ _ _ _ (.ref _ _ _ _ _ _ _ _ _ (w4P.trans rfl) x2F (by decide) (x4L _) (by simp only[go_sem])) .nil))))) h hsc
   ·refine cd h (fun hc h=>?_) fun hc h=>?_
    ·refine rn ?_
     obtain⟨v25,hv25,h⟩:=w7w h
     refine(w8a (w7K n _ _ hv25)).to ?_
     obtain⟨fx,h⟩:=ck fx h
     refine rn ?_
     obtain⟨c27,z7p,h⟩:=x1k h
     have fy:=(show rows w3X a1=rows w3X c27 from by rw[z7p];first|rfl|simp only[go_sem,rows,List.nil_append,List.map_append,List.map_cons,List.map_nil])
     have fy:=fa fy (show 0+a1.length=c27.length from by rw[z7p];simp)
     obtain⟨fx,h⟩:=ck fx h
     obtain⟨c33,z7q,h⟩:=x1k h
     have fy:=fa fy (show rows w3X c27++[[.str a0.name]]=rows w3X c33 from by rw[z7q];first|exact w4k (E:=w3X) c27 [a0.name]|simp only[go_sem,rows,List.map_append,List.map_cons,List.map_nil])
     have fy:=fa fy (show c27.length+1=c33.length from by rw[z7q];simp)
     obtain⟨fx,h⟩:=ck fx h
     obtain⟨c38,z7r,h⟩:=x1k h
     have fy:=fa fy (show rows w3X a2=rows w3X c38 from by rw[z7r];first|rfl|simp only[go_sem,rows,List.nil_append,List.map_append,List.map_cons,List.map_nil])
     have fy:=fa fy (show 0+a2.length=c38.length from by rw[z7r];simp)
     obtain⟨fx,h⟩:=ck fx h
     obtain⟨c44,z7s,h⟩:=x1k h
     have fy:=fa fy (show rows w3X c38++[[.str (x5Z [33] v25)]]=rows w3X c44 from by rw[z7s];first|exact w4k (E:=w3X) c38 [(x5Z [33] v25)]|simp only[go_sem,rows,List.map_append,List.map_cons,List.map_nil])
     have fy:=fa fy (show c38.length+1=c44.length from by rw[z7s];simp)
     obtain⟨fx,h⟩:=ck fx h
     refine dwy [2,4,6,9,11] 8 ?_
     try refine⟨by first|omega|(simp<;>omega),?_⟩
     refine hj3 () _ _ _ h ?_;exact(bu hsc (hf:=⟨.ref _ _ _ _ _ _ _ _ _ (w4P.trans rfl) (x0k (by first|decide|simp)) (by decide) (x4L _) (by simp only[go_sem]),.ref _ _ _ _ _ _ _ _ _ (w4P.trans rfl) (x0k (by first|decide|simp)) (by decide) (x4L _) (by simp only[go_sem]),.s,.s,.s,.s,trivial⟩))
    ·refine r0 ?_
     refine hj3 () _ _ _ h ?_;exact(bu hsc)
theorem x0P(a0:(List Bs))(a1:Bs)(r:Bool)(h:w5N a0 a1=some r):Pure Tryz.prog gl 60 [.sl false 1 16 (rows w3X a0),.str a1] (.bool r):=by
 intro st
 unfold w5N at h
 have fx:=trivial
 refine fb 17 [.tmp 4] [0,1,4,6,7,8,9,10,15] Tryz.func60 fun hsc=>?_
 refine aln 7 fun hl0=>?_
 refine rng (body:=w9b a0 a1) (kk:=w9c) (n:=a0.length) (s0:=())
  (fun(gs0:Unit) (k0:Nat) (s0:Unit)=>[(1,.str a1),(7,.sl false 1 16 (rows w3X a0)),(8,.int .i64 (↑a0.length:Int)),(9,.int .i64 (↑k0:Int))])
  (fun(gs0:Unit) (k0:Nat) (s0:Unit)=>st)
  (fun(gt0:Unit) (t0:Unit)=>[])
  (fun(gt0:Unit) (t0:Unit)=>st)
  () fx hl0 h (x4b hsc)
  (fun gs0 k0 s0 b0 fx h hx0=>?_) (fun gs0 s0=>?_) (fun gt0 t0 fr1 st1 h hb=>?_)
 ·unfold w9b at h
  refine ct ?_
  refine cd h (fun hc h=>?_) fun hc h=>?_
  ·refine ra ?_
   cases h
   refine w8C ?_;have h:=congrArg some (hx0 _ rfl)
   exact rt
  ·refine rn ?_
   cases h
   exact x2D () (x4b hsc)
 ·refine cf ?_
  refine x2J ?_;simp only[go_sem,fx]
  exact⟨(),(x4b hsc)⟩
 ·try simp only[go_sem,fx]
  unfold w9c at h
  refine w5A hb ?_
  exact rt
theorem x5M(n:Nat)(a0:(List Bs))(a1:Bs)(r:(List Bs))(h:w9d n a0 a1=some r):Pure Tryz.prog gl 84 [.sl false 1 16 (rows w3X a0),.str a1] (.sl false 1 16 (rows w3X r)):=by
 intro st
 unfold w9d at h
 have fx:=trivial
 refine fb 39 [.tmp 4] [0,1,4,5,6,9,16,17,18,19,20,21,22] Tryz.func84 fun hsc=>?_
 refine cl h (x0P _ _) fun v1 h=>?_
 refine cd h (fun hc h=>?_) fun hc h=>?_
 ·exact rt
 ·refine rn ?_
  refine w4m (body:=w9e a0 a1) (kk:=w9f a0 a1) (n:=n) (s0:=0)
   (fun(gs0:Unit) (s0:Int)=>[(0,.sl false 1 16 (rows w3X a0)),(1,.str a1),(5,.w4g),(6,.int .i64 s0)])
   (fun(gs0:Unit) (s0:Int)=>st)
   (fun(gt0:Unit) (t0:Int)=>[(0,.sl false 1 16 (rows w3X a0)),(1,.str a1),(5,.w4g),(6,.int .i64 t0)])
   (fun(gt0:Unit) (t0:Int)=>st)
   () h (x4b hsc)
   (fun gs0 s0 b0 h hx0=>?_) (fun gt0 t0 fr1 st1 h hb=>?_)
  ·unfold w9e at h
   obtain⟨fx,h⟩:=ck fx h
   refine cd h (fun hc h=>?_) fun hc h=>?_
   ·refine rn ?_
    cases h
    exact w4s () (x4b hsc)
   ·refine rn ?_
    cases h
    exact w4H () (x4b hsc)
  ·try simp only[go_sem,fx]
   unfold w9f at h
   refine w5A hb ?_
   obtain⟨fx,h⟩:=ck fx h
   obtain⟨c9,hc9,h⟩:=x1k h
   have fy:=(show rows w3X (a0.take t0.toNat)=rows w3X c9 from by rw[hc9];try first|rfl|simp only[go_sem,rows,List.map_cons,List.map_nil])
   have fy:=fa fy (show(a0.take t0.toNat).length=c9.length from by rw[hc9];try rfl)
   obtain⟨fx,h⟩:=ck fx h
   refine r1 ?_
   obtain⟨c15,z4t,h⟩:=x1k h
   have fy:=(show rows w3X c9++[[.str a1]]=rows w3X c15 from by rw[z4t];first|exact w4k (E:=w3X) c9 [a1]|simp only[go_sem,rows,List.map_append,List.map_cons,List.map_nil])
   have fy:=fa fy (show c9.length+1=c15.length from by rw[z4t];simp)
   obtain⟨fx,h⟩:=ck fx h
   refine r1 ?_
   obtain⟨c20,z0K,h⟩:=x1k h
   have fy:=(show rows w3X c15++rows w3X (a0.drop t0.toNat)=rows w3X c20 from by rw[z0K];first|exact w4k (E:=w3X) c15 (a0.drop t0.toNat)|simp only[go_sem,rows,List.map_append,List.map_cons,List.map_nil])
   have fy:=fa fy (show c15.length+(a0.drop t0.toNat).length=c20.length from by rw[z0K];simp)
   obtain⟨fx,h⟩:=ck fx h
   refine r1 ?_
   refine rr ?_
   exact fo (.sl false 1 16 (rows w3X c20)) (.ref _ _ _ _ _ _ _ _ _ (y1b.trans rfl) y2f (by decide) (x4L _) (by simp only[go_sem])) h hsc
theorem x4K:∀(n:Nat) (a0:w3T) (a1:(List Bs)) (a2:(List Bs)) (r:(List Bs)) (h:w4y n a0 a1 a2=some r),Pure Tryz.prog gl 79 [.agg [.int .i64 a0.kind,.str a0.name,.sl false 1 16 (rows w3X a0.words),.sl false 4 72 (rows w3T.cells a0.subs)],.sl false 1 16 (rows w3X a1),.sl false 1 16 (rows w3X a2)] (.sl false 1 16 (rows w3X r)):=by
 intro n
 induction n with
 |zero=>intro a0 a1 a2 r h;cases h
 |succ n ih=>
  intro a0 a1 a2 r h st
  unfold w4y at h
  have fx:=trivial
  refine x3d ?_;refine fb 56 [.tmp 6] [0,1,2,3,6,8,9,11,12,13,14,20,29,30,31,32,42,43,44] Tryz.func79 fun hsc=>?_
  refine aln 11 fun hl0=>?_
  refine rng (body:=w7E n a1 a0) (kk:=w7H (w4y n) a0 a1) (n:=a0.words.length) (s0:=a2)
   (fun(gs0:Unit) (k0:Nat) (s0:(List Bs))=>[(1,.sl false 1 16 (rows w3X a1)),(2,.sl false 1 16 (rows w3X s0)),(3,.ptr st.length 0 0 0),(11,.sl false 1 16 (rows w3X a0.words)),(12,.int .i64 (↑a0.words.length:Int)),(13,.int .i64 (↑k0:Int))])
   (fun(gs0:Unit) (k0:Nat) (s0:(List Bs))=>st++[some (.arr 0 4 0 [[.int .i64 a0.kind,.str a0.name,.sl false 1 16 (rows w3X a0.words),.sl false 4 72 (rows w3T.cells a0.subs)]])])
   (fun(gt0:Unit) (t0:(List Bs))=>[(1,.sl false 1 16 (rows w3X a1)),(2,.sl false 1 16 (rows w3X t0)),(3,.ptr st.length 0 0 0)])
   (fun(gt0:Unit) (t0:(List Bs))=>st++[some (.arr 0 4 0 [[.int .i64 a0.kind,.str a0.name,.sl false 1 16 (rows w3X a0.words),.sl false 4 72 (rows w3T.cells a0.subs)]])])
   () fx hl0 h (bm hsc)
   (fun gs0 k0 s0 b0 fx h hx0=>?_) (fun gs0 s0=>?_) (fun gt0 t0 fr1 st1 h hb=>?_)
  ·unfold w7E at h
   refine ct ?_
   refine rn ?_
   obtain⟨v3,hv3,h⟩:=w7w h
   refine(w8a (x0P _ _ _ hv3)).to ?_
   refine cd h (fun hc h=>?_) fun hc h=>?_
   ·refine rn ?_
    obtain⟨v4,hv4,h⟩:=w7w h
    refine(w8a (x5M n _ _ _ hv4)).to ?_
    refine rn ?_
    cases h
    exact x2D () (bm hsc)
   ·refine rn ?_
    cases h
    exact x2D () (bm hsc)
  ·refine cf ?_
   refine x2J ?_;simp only[go_sem,fx]
   exact⟨(),(bm hsc)⟩
  ·try simp only[go_sem,fx]
   unfold w7H at h
   refine w5A hb ?_
   refine rn ?_
   refine w9Q (w5w (w4y n) a0 t0) r (fun(gj1:Unit) (j1:(List Bs))=>[(1,.sl false 1 16 (rows w3X j1)),(2,.sl false 1 16 (rows w3X t0)),(3,.ptr st.length 0 0 0)]) (fun(gj1:Unit) (j1:(List Bs))=>st++[some (.arr 0 4 0 [[.int .i64 a0.kind,.str a0.name,.sl false 1 16 (rows w3X a0.words),.sl false 4 72 (rows w3T.cells a0.subs)]])]) (fun gj1 j1 fr1 st1 h hb=>?_) (fun hj1=>?_)
   ·try simp only[go_sem,fx]
    unfold w5w at h
    refine w5A hb ?_
    obtain⟨fx,h⟩:=ck fx h
    refine rn ?_
    refine rng (body:=w7F (w4y n) a0 j1) (kk:=w7G) (n:=a0.subs.length) (s0:=t0)
     (fun(gs2:Unit) (k2:Nat) (s2:(List Bs))=>[(1,.sl false 1 16 (rows w3X j1)),(2,.sl false 1 16 (rows w3X s2)),(3,.ptr st.length 0 0 0),(42,.int .i64 (↑a0.subs.length:Int)),(43,.int .i64 (↑k2:Int))])
     (fun(gs2:Unit) (k2:Nat) (s2:(List Bs))=>st++[some (.arr 0 4 0 [[.int .i64 a0.kind,.str a0.name,.sl false 1 16 (rows w3X a0.words),.sl false 4 72 (rows w3T.cells a0.subs)]])])
     (fun(gt2:Unit) (t2:(List Bs))=>[(2,.sl false 1 16 (rows w3X t2))])
     (fun(gt2:Unit) (t2:(List Bs))=>st)
     () fx fx.2 h (bm hsc)
     (fun gs2 k2 s2 b2 fx h hx2=>?_) (fun gs2 s2=>?_) (fun gt2 t2 fr1 st1 h hb=>?_)
    ·unfold w7F at h
     refine ct ?_
     refine rn ?_
     obtain⟨v18,hv18,h⟩:=w7w h
     refine(w8a (ih _ _ _ _ hv18)).to ?_
     refine rn ?_
     cases h
     exact x2D () (bm hsc)
    ·refine cf ?_
     refine x2J ?_;simp only[go_sem,fx]
     exact⟨(),(bm0 hsc)⟩
    ·try simp only[go_sem,fx]
     unfold w7G at h
     refine w5A hb ?_
     exact rt
   ·refine cd h (fun hc h=>?_) fun hc h=>?_
    ·refine rs ?_
     obtain⟨c5,hc5,h⟩:=x1k h
     have fy:=(show rows w3X a1=rows w3X c5 from by rw[hc5];first|rfl|simp only[go_sem,rows,List.nil_append,List.map_append,List.map_cons,List.map_nil])
     have fy:=fa fy (show 0+a1.length=c5.length from by rw[hc5];simp)
     obtain⟨fx,h⟩:=ck fx h
     obtain⟨c11,z0I,h⟩:=x1k h
     have fy:=fa fy (show rows w3X c5++[[.str a0.name]]=rows w3X c11 from by rw[z0I];first|exact w4k (E:=w3X) c5 [a0.name]|simp only[go_sem,rows,List.map_append,List.map_cons,List.map_nil])
     have fy:=fa fy (show c5.length+1=c11.length from by rw[z0I];simp)
     obtain⟨fx,h⟩:=ck fx h
     refine dwy [2,4] 4 ?_
     try refine⟨by first|omega|(simp<;>omega),?_⟩
     refine hj1 () _ _ _ h ?_;exact(bm hsc (hf:=⟨.ref _ _ _ _ _ _ _ _ _ (x6a.trans rfl) (x5C (by first|decide|simp)) (by decide) (x4L _) (by simp only[go_sem]),.s,.s,trivial⟩))
    ·refine r0 ?_
     refine hj1 () _ _ _ h ?_;exact(bm hsc)
theorem x3W(n:Nat)(a0:w3T)(r:(List Bs))(h:w8k n a0=some r):Pure Tryz.prog gl 59 [.agg [.int .i64 a0.kind,.str a0.name,.sl false 1 16 (rows w3X a0.words),.sl false 4 72 (rows w3T.cells a0.subs)]] (.sl false 1 16 (rows w3X r)):=by
 intro st
 unfold w8k at h
 have fx:=trivial
 refine fb 5 [.tmp 2] [0,1,2] Tryz.func59 fun hsc=>?_
 refine cl h (up (x4K n _ _ _) (fun _=>(.cons _ _ _ _ .s (.cons _ _ _ _ (.w4g _ _ _ (by decide)) (.cons _ _ _ _ (.w4g _ _ _ (by decide)) .nil))))) fun v1 h=>?_
 exact rt
theorem x4q:∀(n:Nat) (a0:w3T) (l0:(List Bs)) (l1:(List Bs)) (r:w3T) (h:w4q n a0 l0 l1=some r),∀(st:St) (o0 o1 q0 q1:Nat) (hnd: [o0,o1].Nodup) (w8Z:Am.look st o0=some (.arr q0 1 16 (rows w3X l0))) (x6d:Am.look st o1=some (.arr q1 1 16 (rows w3X l1))),Am.Spec Tryz.prog gl 62 [.agg [.int .i64 a0.kind,.str a0.name,.sl false 1 16 (rows w3X a0.words),.sl false 4 72 (rows w3T.cells a0.subs)],.ref false o0 q0 0 l0.length,.ref false o1 q1 0 l1.length] st (fun d st'=>d= .agg [.int .i64 r.kind,.str r.name,.sl false 1 16 (rows w3X r.words),.sl false 4 72 (rows w3T.cells r.subs)]∧st'=puts st []):=by
 intro n
 induction n with
 |zero=>intro a0 l0 l1 r h;cases h
 |succ n ih=>
  intro a0 l0 l1 r h st o0 o1 q0 q1 hnd w8Z x6d
  unfold w4q at h
  have ho0:=w5a w8Z
  have ho1:=w5a x6d
  have fx:=fa (fa (idf ho0) (idf ho1)) (nd2 hnd)
  refine fb 95 [.cell 6 25] [0,1,2,3,6,7,9,10,11,12,19,20,21,22,26,27,28,35,52,53,54,55,57,58,59,67,76,77,78] Tryz.func62 fun hsc=>?_
  refine x1L (s':=(w4O st [(o0,(.arr q0 1 16 (rows w3X l0))),(o1,(.arr q1 1 16 (rows w3X l1)))])) (w4w (by simp[w8Z,x6d])) ?_
  refine r0 ?_
  refine r0 ?_
  refine r0 ?_
  (repeat apply sq_)
  refine w9I 1 16 ?_
  try simp only[List.append_assoc,List.cons_append,List.nil_append]
  refine w5A (F:=[(1,.ref false o0 q0 0 l0.length),(2,.ref false o1 q1 0 l1.length),(3,.ptr st.length 0 0 0),(6,.ptr (st.length+1) 0 0 0),(7,.ptr (st.length+2) 0 0 0),(19,.sl false 1 16 (rows w3X a0.words)),(20,.int .i64 (↑a0.words.length:Int)),(21,.int .i64 0)]) (T:=(w4O st [(o0,(.arr q0 1 16 (rows w3X l0))),(o1,(.arr q1 1 16 (rows w3X l1)))])++[some (.arr 0 4 0 [[.int .i64 a0.kind,.str a0.name,.sl false 1 16 (rows w3X a0.words),.sl false 4 72 (rows w3T.cells a0.subs)]]),some (.arr 0 4 0 [[.int .i64 0,.str [],.w4g,.w4g]]),some (.arr 0 4 0 [[.int .i64 a0.kind,.str a0.name,.ref false (st.length+3) 0 0 0,.w4g]]),some (.arr 0 1 16 (rows w3X []))]) (x2E (by simp) (w8D hsc (by simp<;>omega)) (.lv (.lv (.live _ _ _ _ (.arr _ _ _ _ _ (.cons _ _ _ _ (.cons _ _ _ _ .s (.cons _ _ _ _ .s (.cons _ _ _ _ (.nref _ _ _ _ _ _ (w4P.trans rfl)) (.cons _ _ _ _ .s .nil)))) (.same _))) (.lv (.nil _))))) (by simp<;>omega) ⟨.s,.s,.s,.s,.s,.s,.s,.s,trivial⟩ (by simp<;>omega)) ?_
  refine aln 19 fun hl0=>?_
  refine rng (body:=w7h l0 l1 a0) (kk:=w7l (w4q n) a0 l0 l1) (n:=a0.words.length) (s0:=[])
   (fun(gs0:Nat) (k0:Nat) (s0:(List Bs))=>[(1,.ref false o0 q0 0 l0.length),(2,.ref false o1 q1 0 l1.length),(3,.ptr st.length 0 0 0),(6,.ptr (st.length+1) 0 0 0),(7,.ptr (st.length+2) 0 0 0),(19,.sl false 1 16 (rows w3X a0.words)),(20,.int .i64 (↑a0.words.length:Int)),(21,.int .i64 (↑k0:Int))])
   (fun(gs0:Nat) (k0:Nat) (s0:(List Bs))=>(w4O st [(o0,(.arr q0 1 16 (rows w3X l0))),(o1,(.arr q1 1 16 (rows w3X l1)))])++[some (.arr 0 4 0 [[.int .i64 a0.kind,.str a0.name,.sl false 1 16 (rows w3X a0.words),.sl false 4 72 (rows w3T.cells a0.subs)]]),some (.arr 0 4 0 [[.int .i64 0,.str [],.w4g,.w4g]]),some (.arr 0 4 0 [[.int .i64 a0.kind,.str a0.name,.ref false (st.length+3) gs0 0 s0.length,.w4g]]),some (.arr gs0 1 16 (rows w3X s0))])
   (fun(gt0:Nat) (t0:(List Bs))=>[(1,.ref false o0 q0 0 l0.length),(2,.ref false o1 q1 0 l1.length),(3,.ptr st.length 0 0 0),(6,.ptr (st.length+1) 0 0 0),(7,.ptr (st.length+2) 0 0 0)])
   (fun(gt0:Nat) (t0:(List Bs))=>(w4O st [(o0,(.arr q0 1 16 (rows w3X l0))),(o1,(.arr q1 1 16 (rows w3X l1)))])++[some (.arr 0 4 0 [[.int .i64 a0.kind,.str a0.name,.sl false 1 16 (rows w3X a0.words),.sl false 4 72 (rows w3T.cells a0.subs)]]),some (.arr 0 4 0 [[.int .i64 0,.str [],.w4g,.w4g]]),some (.arr 0 4 0 [[.int .i64 a0.kind,.str a0.name,.ref false (st.length+3) gt0 0 t0.length,.w4g]]),some (.arr gt0 1 16 (rows w3X t0))])
   0 fx hl0 h (bu hsc)
   (fun gs0 k0 s0 b0 fx h hx0=>?_) (fun gs0 s0=>?_) (fun gt0 t0 fr1 st1 h hb=>?_)
  ·unfold w7h at h
   refine ct ?_
   obtain⟨fx,h⟩:=ck fx h
   refine rn ?_
   refine rng (body:=w9u l0 l1) (kk:=w7i s0) (n:=l0.length) (s0:=(get a0.words k0))
    (fun(gs2:Unit) (k2:Nat) (s2:Bs)=>[(1,.ref false o0 q0 0 l0.length),(2,.ref false o1 q1 0 l1.length),(3,.ptr st.length 0 0 0),(6,.ptr (st.length+1) 0 0 0),(7,.ptr (st.length+2) 0 0 0),(9,.str s2),(19,.sl false 1 16 (rows w3X a0.words)),(20,.int .i64 (↑a0.words.length:Int)),(21,.int .i64 (↑k0:Int)),(26,.int .i64 (↑l0.length:Int)),(27,.int .i64 (↑k2:Int))])
    (fun(gs2:Unit) (k2:Nat) (s2:Bs)=>(w4O st [(o0,(.arr q0 1 16 (rows w3X l0))),(o1,(.arr q1 1 16 (rows w3X l1)))])++[some (.arr 0 4 0 [[.int .i64 a0.kind,.str a0.name,.sl false 1 16 (rows w3X a0.words),.sl false 4 72 (rows w3T.cells a0.subs)]]),some (.arr 0 4 0 [[.int .i64 0,.str [],.w4g,.w4g]]),some (.arr 0 4 0 [[.int .i64 a0.kind,.str a0.name,.ref false (st.length+3) gs0 0 s0.length,.w4g]]),some (.arr gs0 1 16 (rows w3X s0))])
    (fun(gt2:Unit) (t2:Bs)=>[(1,.ref false o0 q0 0 l0.length),(2,.ref false o1 q1 0 l1.length),(3,.ptr st.length 0 0 0),(6,.ptr (st.length+1) 0 0 0),(7,.ptr (st.length+2) 0 0 0),(9,.str t2),(19,.sl false 1 16 (rows w3X a0.words)),(20,.int .i64 (↑a0.words.length:Int)),(21,.int .i64 (↑k0:Int))])
    (fun(gt2:Unit) (t2:Bs)=>(w4O st [(o0,(.arr q0 1 16 (rows w3X l0))),(o1,(.arr q1 1 16 (rows w3X l1)))])++[some (.arr 0 4 0 [[.int .i64 a0.kind,.str a0.name,.sl false 1 16 (rows w3X a0.words),.sl false 4 72 (rows w3T.cells a0.subs)]]),some (.arr 0 4 0 [[.int .i64 0,.str [],.w4g,.w4g]]),some (.arr 0 4 0 [[.int .i64 a0.kind,.str a0.name,.ref false (st.length+3) gs0 0 s0.length,.w4g]]),some (.arr gs0 1 16 (rows w3X s0))])
    () fx fx.2 h (bu hsc)
    (fun gs2 k2 s2 b2 fx h hx2=>?_) (fun gs2 s2=>?_) (fun gt2 t2 fr1 st1 h hb=>?_)
   ·unfold w9u at h
    refine ct ?_
    refine r0 ?_
    refine r0 ?_
    refine r0 ?_
    have fy:=(show(rows w3X l0).getD k2 []=w3X (get l0 k2)from y2e (E:=w3X) (l:=l0) (k:=k2) (by first|omega|(simp;omega)))
    have fy:=fa fy (show k2<l0.length from by first|omega|(simp;omega))
    refine r1 ?_
    refine cd h (fun hc h=>?_) fun hc h=>?_
    ·obtain⟨fx,h⟩:=ck fx h
     have fy:=(show(rows w3X l1).getD k2 []=w3X (get l1 k2)from y2e (E:=w3X) (l:=l1) (k:=k2) (by first|omega|(simp;omega)))
     have fy:=fa fy (show k2<l1.length from by first|omega|(simp;omega))
     refine r1 ?_
     refine rn ?_
     cases h
     exact y7a () (bu hsc)
    ·refine rn ?_
     cases h
     exact x2D () (bu hsc)
   ·refine cf ?_
    refine x2J ?_;simp only[go_sem,fx]
    exact⟨(),(bu hsc)⟩
   ·try simp only[go_sem,fx]
    unfold w7i at h
    refine w5A hb ?_
    obtain⟨c30,z7t,h⟩:=x1k h
    have fy:=(show rows w3X s0++[[.str t2]]=rows w3X c30 from by rw[z7t];first|exact w4k (E:=w3X) s0 [t2]|simp only[go_sem,rows,List.map_append,List.map_cons,List.map_nil])
    have fy:=fa fy (show s0.length+1=c30.length from by rw[z7t];simp)
    obtain⟨fx,h⟩:=ck fx h
    refine r1 ?_
    refine rn ?_
    cases h
    exact x2D (gs0+1) (bu hsc)
  ·refine cf ?_
   refine x2J ?_;simp only[go_sem,fx]
   exact⟨gs0,(bu hsc)⟩
  ·try simp only[go_sem,fx]
   unfold w7l at h
   refine w5A hb ?_
   refine rn ?_
   refine w9Q (w5q (w4q n) a0 l0 l1 t0) r (fun(gj3:Unit) (j3:Bs)=>[(1,.ref false o0 q0 0 l0.length),(2,.ref false o1 q1 0 l1.length),(3,.ptr st.length 0 0 0),(6,.ptr (st.length+1) 0 0 0),(7,.ptr (st.length+2) 0 0 0)]) (fun(gj3:Unit) (j3:Bs)=>(w4O st [(o0,(.arr q0 1 16 (rows w3X l0))),(o1,(.arr q1 1 16 (rows w3X l1)))])++[some (.arr 0 4 0 [[.int .i64 a0.kind,.str a0.name,.sl false 1 16 (rows w3X a0.words),.sl false 4 72 (rows w3T.cells a0.subs)]]),some (.arr 0 4 0 [[.int .i64 0,.str [],.w4g,.w4g]]),some (.arr 0 4 0 [[.int .i64 a0.kind,.str j3,.ref false (st.length+3) gt0 0 t0.length,.w4g]]),some (.arr gt0 1 16 (rows w3X t0))]) (fun gj3 j3 fr1 st1 h hb=>?_) (fun hj3=>?_)
   ·try simp only[go_sem,fx]
    unfold w5q at h
    refine w5A hb ?_
    refine r0 ?_
    (repeat apply sq_)
    refine w9I 4 72 ?_
    try simp only[List.append_assoc,List.cons_append,List.nil_append]
    refine w5A (F:=[(1,.ref false o0 q0 0 l0.length),(2,.ref false o1 q1 0 l1.length),(3,.ptr st.length 0 0 0),(6,.ptr (st.length+1) 0 0 0),(7,.ptr (st.length+2) 0 0 0),(76,.int .i64 (↑a0.subs.length:Int)),(77,.int .i64 0)]) (T:=(w4O st [(o0,(.arr q0 1 16 (rows w3X l0))),(o1,(.arr q1 1 16 (rows w3X l1)))])++[some (.arr 0 4 0 [[.int .i64 a0.kind,.str a0.name,.sl false 1 16 (rows w3X a0.words),.sl false 4 72 (rows w3T.cells a0.subs)]]),some (.arr 0 4 0 [[.int .i64 0,.str [],.w4g,.w4g]]),some (.arr 0 4 0 [[.int .i64 a0.kind,.str j3,.ref false (st.length+3) gt0 0 t0.length,.ref false (st.length+4) 0 0 0]]),some (.arr gt0 1 16 (rows w3X t0)),some (.arr 0 4 72 (rows w3T.cells []))]) (x2E (by simp) (w8D hsc (by simp<;>omega)) (.lv (.lv (.live _ _ _ _ (.arr _ _ _ _ _ (.cons _ _ _ _ (.cons _ _ _ _ .s (.cons _ _ _ _ .s (.cons _ _ _ _ .s (.cons _ _ _ _ (.nref _ _ _ _ _ _ (w4P.trans rfl)) .nil)))) (.same _))) (.lv (.lv (.nil _)))))) (by simp<;>omega) ⟨.s,.s,.s,.s,.s,.s,.s,trivial⟩ (by simp<;>omega)) ?_
    obtain⟨fx,h⟩:=ck fx h
    (repeat apply sq_)
    refine rng (body:=w7j (w4q n) a0 l0 l1) (kk:=w7k a0 j3 t0) (n:=a0.subs.length) (s0:=[])
     (fun(gs5:Nat) (k5:Nat) (s5:(List w3T))=>[(1,.ref false o0 q0 0 l0.length),(2,.ref false o1 q1 0 l1.length),(3,.ptr st.length 0 0 0),(6,.ptr (st.length+1) 0 0 0),(7,.ptr (st.length+2) 0 0 0),(76,.int .i64 (↑a0.subs.length:Int)),(77,.int .i64 (↑k5:Int))])
     (fun(gs5:Nat) (k5:Nat) (s5:(List w3T))=>(w4O st [(o0,(.arr q0 1 16 (rows w3X l0))),(o1,(.arr q1 1 16 (rows w3X l1)))])++[some (.arr 0 4 0 [[.int .i64 a0.kind,.str a0.name,.sl false 1 16 (rows w3X a0.words),.sl false 4 72 (rows w3T.cells a0.subs)]]),some (.arr 0 4 0 [[.int .i64 0,.str [],.w4g,.w4g]]),some (.arr 0 4 0 [[.int .i64 a0.kind,.str j3,.ref false (st.length+3) gt0 0 t0.length,.ref false (st.length+4) gs5 0 s5.length]]),some (.arr gt0 1 16 (rows w3X t0)),some (.arr gs5 4 72 (rows w3T.cells s5))])
     (fun(gt5:Nat) (t5:(List w3T))=>[(6,.ptr (st.length+1) 0 0 0),(7,.ptr (st.length+2) 0 0 0)])
     (fun(gt5:Nat) (t5:(List w3T))=>(w4O st [(o0,(.arr q0 1 16 (rows w3X l0))),(o1,(.arr q1 1 16 (rows w3X l1)))])++[none,some (.arr 0 4 0 [[.int .i64 0,.str [],.w4g,.w4g]]),some (.arr 0 4 0 [[.int .i64 a0.kind,.str j3,.ref false (st.length+3) gt0 0 t0.length,.ref false (st.length+4) gt5 0 t5.length]]),some (.arr gt0 1 16 (rows w3X t0)),some (.arr gt5 4 72 (rows w3T.cells t5))])
     0 fx fx.2 h (bu hsc)
     (fun gs5 k5 s5 b5 fx h hx5=>?_) (fun gs5 s5=>?_) (fun gt5 t5 fr1 st1 h hb=>?_)
    ·unfold w7j at h
     refine ct ?_
     refine rn ?_
     refine dw [1,9] 2 ?_
     obtain⟨v54,hv54,h⟩:=w7w h
     refine x7e [o0,o1] (fun st2 h2=>(ih _ _ _ _ hv54 st2 _ _ q0 q1 hnd ((h2 _ (by simp)).trans (by simp only[go_sem,fx])) ((h2 _ (by simp)).trans (by simp only[go_sem,fx])))) (by simp) (by simp only[List.mem_cons,List.not_mem_nil,or_false,forall_eq_or_imp,forall_eq];exact⟨⟨by first|omega|(simp<;>omega),_,(by simp only[go_sem,fx]<;>rfl),Ob.noConfusion⟩,⟨by first|omega|(simp<;>omega),_,(by simp only[go_sem,fx]<;>rfl),Ob.noConfusion⟩⟩) (by simp) ?_
     obtain⟨c56,z4v,h⟩:=x1k h
     have fy:=(show rows w3T.cells s5++[[.int .i64 v54.kind,.str v54.name,.sl false 1 16 (rows w3X v54.words),.sl false 4 72 (rows w3T.cells v54.subs)]]=rows w3T.cells c56 from by rw[z4v];first|exact w4k (E:=w3T.cells) s5 [v54]|simp only[go_sem,rows,List.map_append,List.map_cons,List.map_nil])
     have fy:=fa fy (show s5.length+1=c56.length from by rw[z4v];simp)
     obtain⟨fx,h⟩:=ck fx h
     try simp only[go_sem,fx,fy]
     try refine⟨by first|omega|(simp<;>omega),?_⟩
     refine rn ?_
     cases h
     exact x2D (gs5+1) (bu hsc)
    ·refine cf ?_
     refine x2J ?_;simp only[go_sem,fx]
     exact⟨gs5,(bu hsc)⟩
    ·try simp only[go_sem,fx]
     unfold w7k at h
     refine w5A hb ?_
     refine rr ?_
     exact fuo (.agg [.int .i64 a0.kind,.str j3,.sl false 1 16 (rows w3X t0),.sl false 4 72 (rows w3T.cells t5)]) (.agg _ _ (.cons _ _ _ _ .s (.cons _ _ _ _ .s (.cons _ _ _ _ (.ref _ _ _ _ _ _ _ _ _ (w4P.trans rfl) x2F (by decide) (x4L _) (by simp only[go_sem])) (.cons _ _ _ _ (.ref _ _ _ _ _ _ _ _ _ (w4P.trans rfl) x2F (by decide) (x4L _) (by simp only[go_sem])) .nil))))) h hsc (hr:=by rintro rfl;exact⟨rfl,w4w (by simp[w8Z,x6d])⟩)
   ·refine cd h (fun hc h=>?_) fun hc h=>?_
    ·obtain⟨fx,h⟩:=ck fx h
     refine rn ?_
     refine rng (body:=w7m l0 a0 l1) (kk:=w7n (w4q n) a0 l0 l1 t0) (n:=l0.length) (s0:=a0.name)
      (fun(gs4:Unit) (k4:Nat) (s4:Bs)=>[(1,.ref false o0 q0 0 l0.length),(2,.ref false o1 q1 0 l1.length),(3,.ptr st.length 0 0 0),(6,.ptr (st.length+1) 0 0 0),(7,.ptr (st.length+2) 0 0 0),(57,.int .i64 (↑l0.length:Int)),(58,.int .i64 (↑k4:Int))])
      (fun(gs4:Unit) (k4:Nat) (s4:Bs)=>(w4O st [(o0,(.arr q0 1 16 (rows w3X l0))),(o1,(.arr q1 1 16 (rows w3X l1)))])++[some (.arr 0 4 0 [[.int .i64 a0.kind,.str a0.name,.sl false 1 16 (rows w3X a0.words),.sl false 4 72 (rows w3T.cells a0.subs)]]),some (.arr 0 4 0 [[.int .i64 0,.str [],.w4g,.w4g]]),some (.arr 0 4 0 [[.int .i64 a0.kind,.str s4,.ref false (st.length+3) gt0 0 t0.length,.w4g]]),some (.arr gt0 1 16 (rows w3X t0))])
      (fun(gt4:Unit) (t4:Bs)=>[(1,.ref false o0 q0 0 l0.length),(2,.ref false o1 q1 0 l1.length),(3,.ptr st.length 0 0 0),(6,.ptr (st.length+1) 0 0 0),(7,.ptr (st.length+2) 0 0 0)])
      (fun(gt4:Unit) (t4:Bs)=>(w4O st [(o0,(.arr q0 1 16 (rows w3X l0))),(o1,(.arr q1 1 16 (rows w3X l1)))])++[some (.arr 0 4 0 [[.int .i64 a0.kind,.str a0.name,.sl false 1 16 (rows w3X a0.words),.sl false 4 72 (rows w3T.cells a0.subs)]]),some (.arr 0 4 0 [[.int .i64 0,.str [],.w4g,.w4g]]),some (.arr 0 4 0 [[.int .i64 a0.kind,.str t4,.ref false (st.length+3) gt0 0 t0.length,.w4g]]),some (.arr gt0 1 16 (rows w3X t0))])
      () fx fx.2 h (bu hsc)
      (fun gs4 k4 s4 b4 fx h hx4=>?_) (fun gs4 s4=>?_) (fun gt4 t4 fr1 st1 h hb=>?_)
     ·unfold w7m at h
      refine ct ?_
      refine rn ?_
      have fy:=(show(rows w3X l0).getD k4 []=w3X (get l0 k4)from y2e (E:=w3X) (l:=l0) (k:=k4) (by first|omega|(simp;omega)))
      have fy:=fa fy (show k4<l0.length from by first|omega|(simp;omega))
      refine dwy [] 0 ?_
      refine cd h (fun hc h=>?_) fun hc h=>?_
      ·obtain⟨fx,h⟩:=ck fx h
       have fy:=(show(rows w3X l1).getD k4 []=w3X (get l1 k4)from y2e (E:=w3X) (l:=l1) (k:=k4) (by first|omega|(simp;omega)))
       have fy:=fa fy (show k4<l1.length from by first|omega|(simp;omega))
       refine r1 ?_
       refine rn ?_
       cases h
       exact y7a () (bu hsc)
      ·refine rn ?_
       cases h
       exact x2D () (bu hsc)
     ·refine cf ?_
      refine x2J ?_;simp only[go_sem,fx]
      exact⟨(),(bu hsc)⟩
     ·try simp only[go_sem,fx]
      unfold w7n at h
      refine hj3 () _ _ _ h ?_;exact(hb.trans (bu hsc))
    ·refine r0 ?_
     refine hj3 () _ _ _ h ?_;exact(bu hsc)
end Go.Proofs.YtdjnbjnlnjhllaaGreatDoor
