import Derived.Test.YtdjnbjnlnjhllaaGreatDoorFIWalk9
set_option linter.unusedVariables false
set_option linter.unusedSimpArgs false
set_option maxHeartbeats 2000000
set_option maxRecDepth 100000
namespace Go.Proofs.YtdjnbjnlnjhllaaGreatDoor
open Go Go.Am
theorem y0e:∀(n:Nat) (a0:w3T) (r:Int×Int) (h:x1A n a0=some r),Pure Tryz.prog gl 42 [.agg [.int .i64 a0.kind,.str a0.name,.sl false 1 16 (rows w3X a0.words),.sl false 4 72 (rows w3T.cells a0.subs)]] (.tup [.int .i64 r.1,.int .i64 r.2]):=by
 intro n
 induction n with
 |zero=>intro a0 r h;cases h
 |succ n ih=>
  intro a0 r h st
  unfold x1A at h
  have fx:=trivial
  refine fb 32 [.tmp 2,.tmp 3] [0,1,2,3,4,5,7,8,9,11,12,13,14] Tryz.func42 fun hsc=>?_
  refine aln 11 fun hl0=>?_
  refine rng (body:=x2w (x1A n) a0) (kk:=x2x) (n:=a0.subs.length) (s0:=(1,0))
   (fun(gs0:Unit) (k0:Nat) (s0:Int×Int)=>[(4,.int .i64 s0.1),(5,.int .i64 s0.2),(11,.sl false 4 72 (rows w3T.cells a0.subs)),(12,.int .i64 (↑a0.subs.length:Int)),(13,.int .i64 (↑k0:Int))])
   (fun(gs0:Unit) (k0:Nat) (s0:Int×Int)=>st)
   (fun(gt0:Unit) (t0:Int×Int)=>[(4,.int .i64 t0.1),(5,.int .i64 t0.2)])
   (fun(gt0:Unit) (t0:Int×Int)=>st)
   () fx hl0 h (bm0 hsc)
   (fun gs0 k0 s0 b0 fx h hx0=>?_) (fun gs0 s0=>?_) (fun gt0 t0 fr1 st1 h hb=>?_)
  ·unfold x2w at h
   refine ct ?_
   refine cl h (ih _) fun v2 h=>?_
   refine rn ?_
   cases h
   exact x2D () (bm0 hsc)
  ·refine cf ?_
   refine x2J ?_;simp only[go_sem,fx]
   exact⟨(),(x4b hsc)⟩
  ·try simp only[go_sem,fx]
   unfold x2x at h
   refine w5A hb ?_
   exact rt
theorem w9m(n:Nat)(a0:Int)(a1:Int)(a2:Bs)(w4B:(List w3V))(r:Bs)(h:w4Q n a0 a1 a2 w4B=some r):∀(st:St) (o0:Nat) (hnd: [o0].Nodup) (w8Z:Am.look st o0=some (.arr 0 1 0 [[.sl false 6 104 (rows w3V.cells w4B)]])),Am.Spec Tryz.prog gl 39 [.int .i64 a0,.int .i64 a1,.str a2,.ptr o0 0 0 0] st (fun d st'=>d= .str r∧st'=puts st []):=by
 intro st o0 hnd w8Z
 unfold w4Q at h
 have ho0:=w5a w8Z
 have fx:=idf ho0
 refine fb 28 [.tmp 7] [0,1,2,3,7,8,12,21] Tryz.func39 fun hsc=>?_
 refine x1L (s':=(w4O st [(o0,(.arr 0 1 0 [[.sl false 6 104 (rows w3V.cells w4B)]]))])) (w4w (by simp[w8Z])) ?_
 refine rn ?_
 refine w4m (body:=w7t a1 w4B a2) (kk:=x0L a2) (n:=n) (s0:=a0)
  (fun(gs0:Unit) (s0:Int)=>[(1,.int .i64 a1),(2,.str a2),(3,.ptr o0 0 0 0),(8,.int .i64 s0)])
  (fun(gs0:Unit) (s0:Int)=>(w4O st [(o0,(.arr 0 1 0 [[.sl false 6 104 (rows w3V.cells w4B)]]))]))
  (fun(gt0:Unit) (t0:Unit)=>[(2,.str a2)])
  (fun(gt0:Unit) (t0:Unit)=>(w4O st [(o0,(.arr 0 1 0 [[.sl false 6 104 (rows w3V.cells w4B)]]))]))
  () h (y1c hsc)
  (fun gs0 s0 b0 h hx0=>?_) (fun gt0 t0 fr1 st1 h hb=>?_)
 ·unfold w7t at h
  refine cd h (fun hc h=>?_) fun hc h=>?_
  ·obtain⟨fx,h⟩:=ck fx h
   refine cd h (fun hc h=>?_) fun hc h=>?_
   ·refine ra ?_
    cases h
    refine w9J ?_;have h:=congrArg some (hx0 _ rfl)
    refine rr ?_
    exact fus (.str ((get w4B s0.toNat).text)) (.same _) h hsc (hr:=by rintro rfl;exact⟨rfl,w4w (by simp[w8Z])⟩)
   ·refine rn ?_
    cases h
    exact w4s () (y1c hsc)
  ·refine rn ?_
   cases h
   exact w4H () (y1c hsc)
 ·try simp only[go_sem,fx]
  unfold x0L at h
  refine w5A hb ?_
  refine rr ?_
  exact fus (.str a2) (.same _) h hsc (hr:=by rintro rfl;exact⟨rfl,w4w (by simp[w8Z])⟩)
theorem x5L:∀(n:Nat) (a0:w3T) (a1:Int) (a2:(List Bs)) (w4B:Int) (x0X:Bs) (x0Y:(List Bs)) (x0Z:(List w3T)) (x0g:(List Bs)) (x0Q:(List Bs)) (w8T:(List Bs)) (w5n:(List w3V)) (w9w:Int) (x4s:Int) (r:w3T×Bool×Int) (h:w4r n a0 a1 a2 w4B x0X x0Y x0Z x0g x0Q w8T w5n w9w x4s=some r),∀(st:St) (o0 o1 o2 o3 o4 o5:Nat) (hnd: [o0,o1,o2,o3,o4,o5].Nodup) (w8Z:Am.look st o0=some (.arr 0 7 0 [[.int .i64 w4B,.str x0X,.sl false 1 16 (rows w3X x0Y),.sl false 4 72 (rows w3T.cells x0Z),.sl false 1 16 (rows w3X x0g),.sl false 1 16 (rows w3X x0Q),.sl false 1 16 (rows w3X w8T)]])) (x6d:Am.look st o1=some (.arr 0 1 0 [[.sl false 6 104 (rows w3V.cells w5n)]])) (y4d:Am.look st o2=some (.arr 0 1 0 [[.int .i64 w9w]])) (z2b:Am.look st o3=some (.arr 0 1 0 [[.int .i64 x4s]])) (z2c:Am.look st o4=some (.arr 0 1 0 [[.fn 39 [] [.ptr o1 0 0 0]]])) (z6s:Am.look st o5=some (.arr 0 1 0 [[.fn 40 [] [.ptr o0 0 0 0,.ptr o1 0 0 0,.ptr o2 0 0 0,.ptr o3 0 0 0,.ptr o4 0 0 0,.ptr o5 0 0 0]]])),Am.Spec Tryz.prog gl 40 [.agg [.int .i64 a0.kind,.str a0.name,.sl false 1 16 (rows w3X a0.words),.sl false 4 72 (rows w3T.cells a0.subs)],.int .i64 a1,.sl false 1 16 (rows w3X a2),.ptr o0 0 0 0,.ptr o1 0 0 0,.ptr o2 0 0 0,.ptr o3 0 0 0,.ptr o4 0 0 0,.ptr o5 0 0 0] st (fun d st'=>d= .tup [.agg [.int .i64 r.1.kind,.str r.1.name,.sl false 1 16 (rows w3X r.1.words),.sl false 4 72 (rows w3T.cells r.1.subs)],.bool r.2.1]∧st'=puts st [(o0,(.arr 0 7 0 [[.int .i64 w4B,.str x0X,.sl false 1 16 (rows w3X x0Y),.sl false 4 72 (rows w3T.cells x0Z),.sl false 1 16 (rows w3X x0g),.sl false 1 16 (rows w3X x0Q),.sl false 1 16 (rows w3X w8T)]])),(o1,(.arr 0 1 0 [[.sl false 6 104 (rows w3V.cells w5n)]])),(o2,(.arr 0 1 0 [[.int .i64 w9w]])),(o3,(.arr 0 1 0 [[.int .i64 r.2.2]])),(o4,(.arr 0 1 0 [[.fn 39 [] [.ptr o1 0 0 0]]])),(o5,(.arr 0 1 0 [[.fn 40 [] [.ptr o0 0 0 0,.ptr o1 0 0 0,.ptr o2 0 0 0,.ptr o3 0 0 0,.ptr o4 0 0 0,.ptr o5 0 0 0]]]))]):=by
 intro n
 induction n with
 |zero=>intro a0 a1 a2 w4B x0X x0Y x0Z x0g x0Q w8T w5n w9w x4s r h;cases h
 |succ n ih=>
  intro a0 a1 a2 w4B x0X x0Y x0Z x0g x0Q w8T w5n w9w x4s r h st o0 o1 o2 o3 o4 o5 hnd w8Z x6d y4d z2b z2c z6s
  unfold w4r at h
  have ho0:=w5a w8Z
  have ho1:=w5a x6d
  have ho2:=w5a y4d
  have ho3:=w5a z2b
  have ho4:=w5a z2c
  have ho5:=w5a z6s
  have fx:=fa (fa (fa (fa (fa (fa (idf ho0) (idf ho1)) (idf ho2)) (idf ho3)) (idf ho4)) (idf ho5)) (nd6 hnd)
  refine fb 175 [.cell 12 25,.tmp 13] [0,1,2,3,4,5,6,7,8,9,12,13,15,16,17,18,20,21,23,24,25,28,36,37,38,39,46,61,62,63,64,65,76,77,78,79,84,109,130,143,144,147,148,149,150,170] Tryz.func40 fun hsc=>?_
  refine x1L (s':=(w4O st [(o0,(.arr 0 7 0 [[.int .i64 w4B,.str x0X,.sl false 1 16 (rows w3X x0Y),.sl false 4 72 (rows w3T.cells x0Z),.sl false 1 16 (rows w3X x0g),.sl false 1 16 (rows w3X x0Q),.sl false 1 16 (rows w3X w8T)]])),(o1,(.arr 0 1 0 [[.sl false 6 104 (rows w3V.cells w5n)]])),(o2,(.arr 0 1 0 [[.int .i64 w9w]])),(o3,(.arr 0 1 0 [[.int .i64 x4s]])),(o4,(.arr 0 1 0 [[.fn 39 [] [.ptr o1 0 0 0]]])),(o5,(.arr 0 1 0 [[.fn 40 [] [.ptr o0 0 0 0,.ptr o1 0 0 0,.ptr o2 0 0 0,.ptr o3 0 0 0,.ptr o4 0 0 0,.ptr o5 0 0 0]]]))])) (w4w (by simp[w8Z,x6d,y4d,z2b,z2c,z6s])) ?_
  refine cl h (x2W _ _) fun v1 h=>?_
  refine rn ?_
  refine w9Q (w6j (w4r n) n a2 a0 w9w w8T w5n x0g a1 w4B x0X x0Y x0Z x0Q x4s) r (fun(gj0:Unit) (j0:Unit)=>[(1,.int .i64 a1),(2,.sl false 1 16 (rows w3X a2)),(3,.ptr o0 0 0 0),(4,.ptr o1 0 0 0),(5,.ptr o2 0 0 0),(6,.ptr o3 0 0 0),(7,.ptr o4 0 0 0),(8,.ptr o5 0 0 0),(9,.ptr st.length 0 0 0),(12,.ptr (st.length+1) 0 0 0)]) (fun(gj0:Unit) (j0:Unit)=>(w4O st [(o0,(.arr 0 7 0 [[.int .i64 w4B,.str x0X,.sl false 1 16 (rows w3X x0Y),.sl false 4 72 (rows w3T.cells x0Z),.sl false 1 16 (rows w3X x0g),.sl false 1 16 (rows w3X x0Q),.sl false 1 16 (rows w3X w8T)]])),(o1,(.arr 0 1 0 [[.sl false 6 104 (rows w3V.cells w5n)]])),(o2,(.arr 0 1 0 [[.int .i64 w9w]])),(o3,(.arr 0 1 0 [[.int .i64 x4s]])),(o4,(.arr 0 1 0 [[.fn 39 [] [.ptr o1 0 0 0]]])),(o5,(.arr 0 1 0 [[.fn 40 [] [.ptr o0 0 0 0,.ptr o1 0 0 0,.ptr o2 0 0 0,.ptr o3 0 0 0,.ptr o4 0 0 0,.ptr o5 0 0 0]]]))])++[some (.arr 0 4 0 [[.int .i64 a0.kind,.str a0.name,.sl false 1 16 (rows w3X a0.words),.sl false 4 72 (rows w3T.cells a0.subs)]]),some (.arr 0 4 0 [[.int .i64 0,.str [],.w4g,.w4g]])]) (fun gj0 j0 fr1 st1 h hb=>?_) (fun hj0=>?_)
  ·try simp only[go_sem,fx]
   unfold w6j at h
   refine w5A hb ?_
   refine r0 ?_
   refine r0 ?_
   refine r0 ?_
   (repeat apply sq_)
   refine w9I 1 16 ?_
   try simp only[List.append_assoc,List.cons_append,List.nil_append]
   refine w5A (F:=[(1,.int .i64 a1),(2,.sl false 1 16 (rows w3X a2)),(3,.ptr o0 0 0 0),(4,.ptr o1 0 0 0),(5,.ptr o2 0 0 0),(6,.ptr o3 0 0 0),(7,.ptr o4 0 0 0),(8,.ptr o5 0 0 0),(9,.ptr st.length 0 0 0),(12,.ptr (st.length+1) 0 0 0),(18,.ptr (st.length+2) 0 0 0),(76,.sl false 1 16 (rows w3X a0.words)),(77,.int .i64 (↑a0.words.length:Int)),(78,.int .i64 0)]) (T:=(w4O st [(o0,(.arr 0 7 0 [[.int .i64 w4B,.str x0X,.sl false 1 16 (rows w3X x0Y),.sl false 4 72 (rows w3T.cells x0Z),.sl false 1 16 (rows w3X x0g),.sl false 1 16 (rows w3X x0Q),.sl false 1 16 (rows w3X w8T)]])),(o1,(.arr 0 1 0 [[.sl false 6 104 (rows w3V.cells w5n)]])),(o2,(.arr 0 1 0 [[.int .i64 w9w]])),(o3,(.arr 0 1 0 [[.int .i64 (wr .i64 (x4s+1))]])),(o4,(.arr 0 1 0 [[.fn 39 [] [.ptr o1 0 0 0]]])),(o5,(.arr 0 1 0 [[.fn 40 [] [.ptr o0 0 0 0,.ptr o1 0 0 0,.ptr o2 0 0 0,.ptr o3 0 0 0,.ptr o4 0 0 0,.ptr o5 0 0 0]]]))])++[some (.arr 0 4 0 [[.int .i64 a0.kind,.str a0.name,.sl false 1 16 (rows w3X a0.words),.sl false 4 72 (rows w3T.cells a0.subs)]]),some (.arr 0 4 0 [[.int .i64 0,.str [],.w4g,.w4g]]),some (.arr 0 4 0 [[.int .i64 a0.kind,.str a0.name,.ref false (st.length+3) 0 0 0,.w4g]]),some (.arr 0 1 16 (rows w3X []))]) (x2E (by simp) (w8D hsc (by simp<;>omega)) (.lv (.lv (.live _ _ _ _ (.arr _ _ _ _ _ (.cons _ _ _ _ (.cons _ _ _ _ .s (.cons _ _ _ _ .s (.cons _ _ _ _ (.nref _ _ _ _ _ _ (w4P.trans rfl)) (.cons _ _ _ _ .s .nil)))) (.same _))) (.lv (.nil _))))) (by simp<;>omega) ⟨.s,.s,.s,.s,.s,.s,.s,.s,.s,.s,.s,.s,.s,.s,trivial⟩ (by simp<;>omega)) ?_
   refine aln 76 fun hl2=>?_
   refine rng (body:=w9h n a2 a0 w9w w8T w5n x0g) (kk:=w9k (w4r n) n a0 a2 w9w w8T w5n a1 w4B x0X x0Y x0Z x0g x0Q x4s) (n:=a0.words.length) (s0:=[])
    (fun(gs2:Nat) (k2:Nat) (s2:(List Bs))=>[(1,.int .i64 a1),(2,.sl false 1 16 (rows w3X a2)),(3,.ptr o0 0 0 0),(4,.ptr o1 0 0 0),(5,.ptr o2 0 0 0),(6,.ptr o3 0 0 0),(7,.ptr o4 0 0 0),(8,.ptr o5 0 0 0),(9,.ptr st.length 0 0 0),(12,.ptr (st.length+1) 0 0 0),(18,.ptr (st.length+2) 0 0 0),(76,.sl false 1 16 (rows w3X a0.words)),(77,.int .i64 (↑a0.words.length:Int)),(78,.int .i64 (↑k2:Int))])
    (fun(gs2:Nat) (k2:Nat) (s2:(List Bs))=>(w4O st [(o0,(.arr 0 7 0 [[.int .i64 w4B,.str x0X,.sl false 1 16 (rows w3X x0Y),.sl false 4 72 (rows w3T.cells x0Z),.sl false 1 16 (rows w3X x0g),.sl false 1 16 (rows w3X x0Q),.sl false 1 16 (rows w3X w8T)]])),(o1,(.arr 0 1 0 [[.sl false 6 104 (rows w3V.cells w5n)]])),(o2,(.arr 0 1 0 [[.int .i64 w9w]])),(o3,(.arr 0 1 0 [[.int .i64 (wr .i64 (x4s+1))]])),(o4,(.arr 0 1 0 [[.fn 39 [] [.ptr o1 0 0 0]]])),(o5,(.arr 0 1 0 [[.fn 40 [] [.ptr o0 0 0 0,.ptr o1 0 0 0,.ptr o2 0 0 0,.ptr o3 0 0 0,.ptr o4 0 0 0,.ptr o5 0 0 0]]]))])++[some (.arr 0 4 0 [[.int .i64 a0.kind,.str a0.name,.sl false 1 16 (rows w3X a0.words),.sl false 4 72 (rows w3T.cells a0.subs)]]),some (.arr 0 4 0 [[.int .i64 0,.str [],.w4g,.w4g]]),some (.arr 0 4 0 [[.int .i64 a0.kind,.str a0.name,.ref false (st.length+3) gs2 0 s2.length,.w4g]]),some (.arr gs2 1 16 (rows w3X s2))])
    (fun(gt2:Nat) (t2:(List Bs))=>[(1,.int .i64 a1),(2,.sl false 1 16 (rows w3X a2)),(3,.ptr o0 0 0 0),(4,.ptr o1 0 0 0),(5,.ptr o2 0 0 0),(6,.ptr o3 0 0 0),(7,.ptr o4 0 0 0),(8,.ptr o5 0 0 0),(9,.ptr st.length 0 0 0),(12,.ptr (st.length+1) 0 0 0),(18,.ptr (st.length+2) 0 0 0)])
    (fun(gt2:Nat) (t2:(List Bs))=>(w4O st [(o0,(.arr 0 7 0 [[.int .i64 w4B,.str x0X,.sl false 1 16 (rows w3X x0Y),.sl false 4 72 (rows w3T.cells x0Z),.sl false 1 16 (rows w3X x0g),.sl false 1 16 (rows w3X x0Q),.sl false 1 16 (rows w3X w8T)]])),(o1,(.arr 0 1 0 [[.sl false 6 104 (rows w3V.cells w5n)]])),(o2,(.arr 0 1 0 [[.int .i64 w9w]])),(o3,(.arr 0 1 0 [[.int .i64 (wr .i64 (x4s+1))]])),(o4,(.arr 0 1 0 [[.fn 39 [] [.ptr o1 0 0 0]]])),(o5,(.arr 0 1 0 [[.fn 40 [] [.ptr o0 0 0 0,.ptr o1 0 0 0,.ptr o2 0 0 0,.ptr o3 0 0 0,.ptr o4 0 0 0,.ptr o5 0 0 0]]]))])++[some (.arr 0 4 0 [[.int .i64 a0.kind,.str a0.name,.sl false 1 16 (rows w3X a0.words),.sl false 4 72 (rows w3T.cells a0.subs)]]),some (.arr 0 4 0 [[.int .i64 0,.str [],.w4g,.w4g]]),some (.arr 0 4 0 [[.int .i64 a0.kind,.str a0.name,.ref false (st.length+3) gt2 0 t2.length,.w4g]]),some (.arr gt2 1 16 (rows w3X t2))])
    0 fx hl2 h (bu hsc)
    (fun gs2 k2 s2 b2 fx h hx2=>?_) (fun gs2 s2=>?_) (fun gt2 t2 fr1 st1 h hb=>?_)
   ·unfold w9h at h
    refine ct ?_
    refine cl h (w4e _ _) fun v22 h=>?_
    refine cd h (fun hc h=>?_) fun hc h=>?_
    ·refine rn ?_
     obtain⟨v23,hv23,h⟩:=w7w h
     refine(w9m n _ _ _ _ _ hv23 _ _ (by simp[fx]<;>omega) (by simp only[go_sem,fx])).mono ?_
     rintro d1 st1 ⟨rfl,rfl⟩
     try simp only[go_sem,fx]
     obtain⟨c25,z7g,h⟩:=x1k h
     have fy:=(show rows w3X s2++[[.str v23]]=rows w3X c25 from by rw[z7g];first|exact w4k (E:=w3X) s2 [v23]|simp only[go_sem,rows,List.map_append,List.map_cons,List.map_nil])
     have fy:=fa fy (show s2.length+1=c25.length from by rw[z7g];simp)
     obtain⟨fx,h⟩:=ck fx h
     refine r1 ?_
     refine rn ?_
     cases h
     exact x2D (gs2+1) (bu hsc)
    ·refine rn ?_
     obtain⟨v30,hv30,h⟩:=w7w h
     refine(w9m n _ _ _ _ _ hv30 _ _ (by simp[fx]<;>omega) (by simp only[go_sem,fx])).mono ?_
     rintro d1 st1 ⟨rfl,rfl⟩
     try simp only[go_sem,fx]
     obtain⟨c32,z7h,h⟩:=x1k h
     have fy:=(show rows w3X s2++[[.str v30]]=rows w3X c32 from by rw[z7h];first|exact w4k (E:=w3X) s2 [v30]|simp only[go_sem,rows,List.map_append,List.map_cons,List.map_nil])
     have fy:=fa fy (show s2.length+1=c32.length from by rw[z7h];simp)
     obtain⟨fx,h⟩:=ck fx h
     refine r1 ?_
     refine rn ?_
     cases h
     exact x2D (gs2+1) (bu hsc)
   ·refine cf ?_
    refine x2J ?_;simp only[go_sem,fx]
    exact⟨gs2,(bu hsc)⟩
   ·try simp only[go_sem,fx]
    unfold w9k at h
    refine w5A hb ?_
    refine cl h (w5L _) fun v37 h=>?_
    refine rn ?_
    refine w9Q (w5z (w4r n) a0 a1 w4B x0X x0Y x0Z x0g x0Q w8T w5n w9w x4s t2) r (fun(gj3:Unit) (j3:Bs×(List Bs))=>[(1,.int .i64 a1),(2,.sl false 1 16 (rows w3X j3.2)),(6,.ptr o3 0 0 0),(8,.ptr o5 0 0 0),(9,.ptr st.length 0 0 0),(12,.ptr (st.length+1) 0 0 0),(18,.ptr (st.length+2) 0 0 0)]) (fun(gj3:Unit) (j3:Bs×(List Bs))=>(w4O st [(o0,(.arr 0 7 0 [[.int .i64 w4B,.str x0X,.sl false 1 16 (rows w3X x0Y),.sl false 4 72 (rows w3T.cells x0Z),.sl false 1 16 (rows w3X x0g),.sl false 1 16 (rows w3X x0Q),.sl false 1 16 (rows w3X w8T)]])),(o1,(.arr 0 1 0 [[.sl false 6 104 (rows w3V.cells w5n)]])),(o2,(.arr 0 1 0 [[.int .i64 w9w]])),(o3,(.arr 0 1 0 [[.int .i64 (wr .i64 (x4s+1))]])),(o4,(.arr 0 1 0 [[.fn 39 [] [.ptr o1 0 0 0]]])),(o5,(.arr 0 1 0 [[.fn 40 [] [.ptr o0 0 0 0,.ptr o1 0 0 0,.ptr o2 0 0 0,.ptr o3 0 0 0,.ptr o4 0 0 0,.ptr o5 0 0 0]]]))])++[some (.arr 0 4 0 [[.int .i64 a0.kind,.str a0.name,.sl false 1 16 (rows w3X a0.words),.sl false 4 72 (rows w3T.cells a0.subs)]]),some (.arr 0 4 0 [[.int .i64 0,.str [],.w4g,.w4g]]),some (.arr 0 4 0 [[.int .i64 a0.kind,.str j3.1,.ref false (st.length+3) gt2 0 t2.length,.w4g]]),some (.arr gt2 1 16 (rows w3X t2))]) (fun gj3 j3 fr1 st1 h hb=>?_) (fun hj3=>?_)
    ·try simp only[go_sem,fx]
     unfold w5z at h
     refine w5A hb ?_
     (repeat apply sq_)
     refine w5A (F:=[(1,.int .i64 a1),(2,.sl false 1 16 (rows w3X j3.2)),(6,.ptr o3 0 0 0),(8,.ptr o5 0 0 0),(9,.ptr st.length 0 0 0),(12,.ptr (st.length+1) 0 0 0),(18,.ptr (st.length+2) 0 0 0)]) (T:=(w4O st [(o0,(.arr 0 7 0 [[.int .i64 w4B,.str x0X,.sl false 1 16 (rows w3X x0Y),.sl false 4 72 (rows w3T.cells x0Z),.sl false 1 16 (rows w3X x0g),.sl false 1 16 (rows w3X x0Q),.sl false 1 16 (rows w3X w8T)]])),(o1,(.arr 0 1 0 [[.sl false 6 104 (rows w3V.cells w5n)]])),(o2,(.arr 0 1 0 [[.int .i64 w9w]])),(o3,(.arr 0 1 0 [[.int .i64 (wr .i64 (x4s+1))]])),(o4,(.arr 0 1 0 [[.fn 39 [] [.ptr o1 0 0 0]]])),(o5,(.arr 0 1 0 [[.fn 40 [] [.ptr o0 0 0 0,.ptr o1 0 0 0,.ptr o2 0 0 0,.ptr o3 0 0 0,.ptr o4 0 0 0,.ptr o5 0 0 0]]]))])++[some (.arr 0 4 0 [[.int .i64 a0.kind,.str a0.name,.sl false 1 16 (rows w3X a0.words),.sl false 4 72 (rows w3T.cells a0.subs)]]),some (.arr 0 4 0 [[.int .i64 0,.str [],.w4g,.w4g]]),some (.arr 0 4 0 [[.int .i64 a0.kind,.str j3.1,.sl false 1 16 (rows w3X t2),.w4g]])]) (x2E (by simp) (w8D hsc (by simp<;>omega)) (.lv (.lv (.live _ _ _ _ (.arr _ _ _ _ _ (.cons _ _ _ _ (.cons _ _ _ _ .s (.cons _ _ _ _ .s (.cons _ _ _ _ (.ref _ _ _ _ _ _ _ _ _ (w4P.trans rfl) (x0k (by first|decide|simp)) (by decide) (x4L _) (by simp only[go_sem])) (.cons _ _ _ _ .s .nil)))) (.same _))) (.nil _)))) (by simp<;>omega) ⟨.s,.s,.s,.s,.s,.s,.s,trivial⟩ (by simp<;>omega)) ?_
     refine r0 ?_
     refine r0 ?_
     (repeat apply sq_)
     refine w9I 4 72 ?_
     try simp only[List.append_assoc,List.cons_append,List.nil_append]
     refine w5A (F:=[(1,.int .i64 a1),(2,.sl false 1 16 (rows w3X j3.2)),(8,.ptr o5 0 0 0),(12,.ptr (st.length+1) 0 0 0),(18,.ptr (st.length+2) 0 0 0),(21,.bool (bif (decide ((wr .i64 (x4s+1))≤200))then(decide (a1≤40))else false)),(147,.sl false 4 72 (rows w3T.cells a0.subs)),(148,.int .i64 (↑a0.subs.length:Int)),(149,.int .i64 0)]) (T:=(w4O st [(o0,(.arr 0 7 0 [[.int .i64 w4B,.str x0X,.sl false 1 16 (rows w3X x0Y),.sl false 4 72 (rows w3T.cells x0Z),.sl false 1 16 (rows w3X x0g),.sl false 1 16 (rows w3X x0Q),.sl false 1 16 (rows w3X w8T)]])),(o1,(.arr 0 1 0 [[.sl false 6 104 (rows w3V.cells w5n)]])),(o2,(.arr 0 1 0 [[.int .i64 w9w]])),(o3,(.arr 0 1 0 [[.int .i64 (wr .i64 (x4s+1))]])),(o4,(.arr 0 1 0 [[.fn 39 [] [.ptr o1 0 0 0]]])),(o5,(.arr 0 1 0 [[.fn 40 [] [.ptr o0 0 0 0,.ptr o1 0 0 0,.ptr o2 0 0 0,.ptr o3 0 0 0,.ptr o4 0 0 0,.ptr o5 0 0 0]]]))])++[some (.arr 0 4 0 [[.int .i64 a0.kind,.str a0.name,.sl false 1 16 (rows w3X a0.words),.sl false 4 72 (rows w3T.cells a0.subs)]]),some (.arr 0 4 0 [[.int .i64 0,.str [],.w4g,.w4g]]),some (.arr 0 4 0 [[.int .i64 a0.kind,.str j3.1,.sl false 1 16 (rows w3X t2),.ref false (st.length+3) 0 0 0]]),some (.arr 0 4 72 (rows w3T.cells []))]) (x2E (by simp) (w8D hsc (by simp<;>omega)) (.lv (.lv (.live _ _ _ _ (.arr _ _ _ _ _ (.cons _ _ _ _ (.cons _ _ _ _ .s (.cons _ _ _ _ .s (.cons _ _ _ _ .s (.cons _ _ _ _ (.nref _ _ _ _ _ _ (w4P.trans rfl)) .nil)))) (.same _))) (.lv (.nil _))))) (by simp<;>omega) ⟨.s,.s,.s,.s,.s,.s,.s,.s,.s,trivial⟩ (by simp<;>omega)) ?_
     refine aln 147 fun hl4=>?_
     refine rng (body:=w9i (w4r n) a0 a1 j3 w4B x0X x0Y x0Z x0g x0Q w8T w5n w9w) (kk:=w9j a0 j3 t2) (n:=a0.subs.length) (s0:=((wr .i64 (x4s+1)),[],(bif (decide ((wr .i64 (x4s+1))≤200))then(decide (a1≤40))else false)))
      (fun(gs4:Nat) (k4:Nat) (s4:Int×(List w3T)×Bool)=>[(1,.int .i64 a1),(2,.sl false 1 16 (rows w3X j3.2)),(8,.ptr o5 0 0 0),(12,.ptr (st.length+1) 0 0 0),(18,.ptr (st.length+2) 0 0 0),(21,.bool s4.2.2),(147,.sl false 4 72 (rows w3T.cells a0.subs)),(148,.int .i64 (↑a0.subs.length:Int)),(149,.int .i64 (↑k4:Int))])
      (fun(gs4:Nat) (k4:Nat) (s4:Int×(List w3T)×Bool)=>(w4O st [(o0,(.arr 0 7 0 [[.int .i64 w4B,.str x0X,.sl false 1 16 (rows w3X x0Y),.sl false 4 72 (rows w3T.cells x0Z),.sl false 1 16 (rows w3X x0g),.sl false 1 16 (rows w3X x0Q),.sl false 1 16 (rows w3X w8T)]])),(o1,(.arr 0 1 0 [[.sl false 6 104 (rows w3V.cells w5n)]])),(o2,(.arr 0 1 0 [[.int .i64 w9w]])),(o3,(.arr 0 1 0 [[.int .i64 s4.1]])),(o4,(.arr 0 1 0 [[.fn 39 [] [.ptr o1 0 0 0]]])),(o5,(.arr 0 1 0 [[.fn 40 [] [.ptr o0 0 0 0,.ptr o1 0 0 0,.ptr o2 0 0 0,.ptr o3 0 0 0,.ptr o4 0 0 0,.ptr o5 0 0 0]]]))])++[none,some (.arr 0 4 0 [[.int .i64 0,.str [],.w4g,.w4g]]),some (.arr 0 4 0 [[.int .i64 a0.kind,.str j3.1,.sl false 1 16 (rows w3X t2),.ref false (st.length+3) gs4 0 s4.2.1.length]]),some (.arr gs4 4 72 (rows w3T.cells s4.2.1))])
      (fun(gt4:Nat) (t4:Int×(List w3T)×Bool)=>[(12,.ptr (st.length+1) 0 0 0),(18,.ptr (st.length+2) 0 0 0),(21,.bool t4.2.2)])
      (fun(gt4:Nat) (t4:Int×(List w3T)×Bool)=>(w4O st [(o0,(.arr 0 7 0 [[.int .i64 w4B,.str x0X,.sl false 1 16 (rows w3X x0Y),.sl false 4 72 (rows w3T.cells x0Z),.sl false 1 16 (rows w3X x0g),.sl false 1 16 (rows w3X x0Q),.sl false 1 16 (rows w3X w8T)]])),(o1,(.arr 0 1 0 [[.sl false 6 104 (rows w3V.cells w5n)]])),(o2,(.arr 0 1 0 [[.int .i64 w9w]])),(o3,(.arr 0 1 0 [[.int .i64 t4.1]])),(o4,(.arr 0 1 0 [[.fn 39 [] [.ptr o1 0 0 0]]])),(o5,(.arr 0 1 0 [[.fn 40 [] [.ptr o0 0 0 0,.ptr o1 0 0 0,.ptr o2 0 0 0,.ptr o3 0 0 0,.ptr o4 0 0 0,.ptr o5 0 0 0]]]))])++[none,some (.arr 0 4 0 [[.int .i64 0,.str [],.w4g,.w4g]]),some (.arr 0 4 0 [[.int .i64 a0.kind,.str j3.1,.sl false 1 16 (rows w3X t2),.ref false (st.length+3) gt4 0 t4.2.1.length]]),some (.arr gt4 4 72 (rows w3T.cells t4.2.1))])
      0 fx hl4 h (bu hsc)
      (fun gs4 k4 s4 b4 fx h hx4=>?_) (fun gs4 s4=>?_) (fun gt4 t4 fr1 st1 h hb=>?_)
     ·unfold w9i at h
      refine ct ?_
      refine rn ?_
      obtain⟨v54,hv54,h⟩:=w7w h
      refine(ih _ _ _ _ _ _ _ _ _ _ _ _ _ _ hv54 _ _ _ _ _ _ _ hnd (by simp only[go_sem,fx]) (by simp only[go_sem,fx]) (by simp only[go_sem,fx]) (by simp only[go_sem,fx]) (by simp only[go_sem,fx]) (by simp only[go_sem,fx])).mono ?_
      rintro d1 st1 ⟨rfl,rfl⟩
      try simp only[go_sem,fx]
      obtain⟨c56,z4v,h⟩:=x1k h
      have fy:=(show rows w3T.cells s4.2.1++[[.int .i64 v54.1.kind,.str v54.1.name,.sl false 1 16 (rows w3X v54.1.words),.sl false 4 72 (rows w3T.cells v54.1.subs)]]=rows w3T.cells c56 from by rw[z4v];first|exact w4k (E:=w3T.cells) s4.2.1 [v54.1]|simp only[go_sem,rows,List.map_append,List.map_cons,List.map_nil])
      have fy:=fa fy (show s4.2.1.length+1=c56.length from by rw[z4v];simp)
      obtain⟨fx,h⟩:=ck fx h
      refine r1 ?_
      refine rn ?_
      cases h
      exact x2D (gs4+1) (bu hsc)
     ·refine cf ?_
      refine x2J ?_;simp only[go_sem,fx]
      exact⟨gs4,(bu hsc)⟩
     ·try simp only[go_sem,fx]
      unfold w9j at h
      refine w5A hb ?_
      refine rr ?_
      exact fuo (.tup [.agg [.int .i64 a0.kind,.str j3.1,.sl false 1 16 (rows w3X t2),.sl false 4 72 (rows w3T.cells t4.2.1)],.bool t4.2.2]) (.tup _ _ (.cons _ _ _ _ (.agg _ _ (.cons _ _ _ _ .s (.cons _ _ _ _ .s (.cons _ _ _ _ .s (.cons _ _ _ _ (.ref _ _ _ _ _ _ _ _ _ (w4P.trans rfl) x2F (by decide) (x4L _) (by simp only[go_sem])) .nil))))) (.cons _ _ _ _ .s .nil)) rfl) h hsc
    ·refine cd h (fun hc h=>?_) fun hc h=>?_
     ·(repeat apply sq_)
      refine w9I 1 16 ?_
      try simp only[List.append_assoc,List.cons_append,List.nil_append]
      refine w5A (F:=[(1,.int .i64 a1),(2,.sl false 1 16 (rows w3X a2)),(3,.ptr o0 0 0 0),(4,.ptr o1 0 0 0),(5,.ptr o2 0 0 0),(6,.ptr o3 0 0 0),(7,.ptr o4 0 0 0),(8,.ptr o5 0 0 0),(9,.ptr st.length 0 0 0),(12,.ptr (st.length+1) 0 0 0),(18,.ptr (st.length+2) 0 0 0),(109,.bool v37)]) (T:=(w4O st [(o0,(.arr 0 7 0 [[.int .i64 w4B,.str x0X,.sl false 1 16 (rows w3X x0Y),.sl false 4 72 (rows w3T.cells x0Z),.sl false 1 16 (rows w3X x0g),.sl false 1 16 (rows w3X x0Q),.sl false 1 16 (rows w3X w8T)]])),(o1,(.arr 0 1 0 [[.sl false 6 104 (rows w3V.cells w5n)]])),(o2,(.arr 0 1 0 [[.int .i64 w9w]])),(o3,(.arr 0 1 0 [[.int .i64 (wr .i64 (x4s+1))]])),(o4,(.arr 0 1 0 [[.fn 39 [] [.ptr o1 0 0 0]]])),(o5,(.arr 0 1 0 [[.fn 40 [] [.ptr o0 0 0 0,.ptr o1 0 0 0,.ptr o2 0 0 0,.ptr o3 0 0 0,.ptr o4 0 0 0,.ptr o5 0 0 0]]]))])++[some (.arr 0 4 0 [[.int .i64 a0.kind,.str a0.name,.sl false 1 16 (rows w3X a0.words),.sl false 4 72 (rows w3T.cells a0.subs)]]),some (.arr 0 4 0 [[.int .i64 0,.str [],.w4g,.w4g]]),some (.arr 0 4 0 [[.int .i64 a0.kind,.str a0.name,.ref false (st.length+3) gt2 0 t2.length,.w4g]]),some (.arr gt2 1 16 (rows w3X t2)),some (.arr 0 1 16 (rows w3X []))]) (x2E (by simp) (w8D hsc (by simp<;>omega)) (.lv (.lv (.lv (.lv (.lv (.nil _)))))) (by simp<;>omega) ⟨.s,.s,.s,.s,.s,.s,.s,.s,.s,.s,.s,.s,trivial⟩ (by simp<;>omega)) ?_
      refine rs ?_
      refine dw [1,3] 2 ?_
      obtain⟨v38,hv38,h⟩:=w7w h
      refine x7e [(st.length+4)] (fun st2 h2=>(x0x _ _ _ hv38 st2 (st.length+4) 0 (by simp) ((h2 _ (by simp)).trans (w9K.trans rfl)))) (by simp) (by simp only[List.mem_cons,List.not_mem_nil,or_false,forall_eq_or_imp,forall_eq];exact⟨by first|omega|(simp<;>omega),_,(w9K.trans rfl),Ob.noConfusion⟩) (by simp) ?_
      obtain⟨c40,z0H,h⟩:=x1k h
      have fy:=(show rows w3X v38++[[.str a0.name]]=rows w3X c40 from by rw[z0H];first|exact w4k (E:=w3X) v38 [a0.name]|simp only[go_sem,rows,List.map_append,List.map_cons,List.map_nil])
      have fy:=fa fy (show v38.length+1=c40.length from by rw[z0H];simp)
      obtain⟨fx,h⟩:=ck fx h
      try simp only[go_sem,fx,fy]
      try refine⟨by first|omega|(simp<;>omega),?_⟩
      refine rn ?_
      obtain⟨v45,hv45,h⟩:=w7w h
      refine(w9m n _ _ _ _ _ hv45 _ _ (by simp[fx]<;>omega) (by simp only[go_sem,fx])).mono ?_
      rintro d1 st1 ⟨rfl,rfl⟩
      try simp only[go_sem,fx]
      refine hj3 () _ _ _ h ?_;exact(bu hsc (hf:=⟨.s,.ref _ _ _ _ _ _ _ _ _ (w4P.trans rfl) (x0k (by first|decide|simp)) (by decide) (x4L _) (by simp only[go_sem]),.s,.s,.s,.s,.s,trivial⟩))
     ·refine cd h (fun hc h=>?_) fun hc h=>?_
      ·refine rn ?_
       obtain⟨v46,hv46,h⟩:=w7w h
       refine(w9m n _ _ _ _ _ hv46 _ _ (by simp[fx]<;>omega) (by simp only[go_sem,fx])).mono ?_
       rintro d1 st1 ⟨rfl,rfl⟩
       try simp only[go_sem,fx]
       refine hj3 () _ _ _ h ?_;exact(bu hsc)
      ·refine r0 ?_
       refine hj3 () _ _ _ h ?_;exact(bu hsc)
  ·refine cd h (fun hc h=>?_) fun hc h=>?_
   ·obtain⟨fx,h⟩:=ck fx h
    refine aln 36 fun hl1=>?_
    refine rng (body:=w9l n w5n w9w w8T a0 x4s a1) (kk:=x0M (w4r n) n a2 a0 w9w w8T w5n x0g a1 w4B x0X x0Y x0Z x0Q x4s) (n:=((w5n.drop w9w.toNat).take ((wr .i64 (w9w+(↑w8T.length:Int))).toNat-w9w.toNat)).length) (s0:=())
     (fun(gs1:Unit) (k1:Nat) (s1:Unit)=>[(1,.int .i64 a1),(2,.sl false 1 16 (rows w3X a2)),(3,.ptr o0 0 0 0),(4,.ptr o1 0 0 0),(5,.ptr o2 0 0 0),(6,.ptr o3 0 0 0),(7,.ptr o4 0 0 0),(8,.ptr o5 0 0 0),(9,.ptr st.length 0 0 0),(12,.ptr (st.length+1) 0 0 0),(36,.sl false 6 104 (rows w3V.cells ((w5n.drop w9w.toNat).take ((wr .i64 (w9w+(↑w8T.length:Int))).toNat-w9w.toNat)))),(37,.int .i64 (↑(((w5n.drop w9w.toNat).take ((wr .i64 (w9w+(↑w8T.length:Int))).toNat-w9w.toNat)).length):Int)),(38,.int .i64 (↑k1:Int))])
     (fun(gs1:Unit) (k1:Nat) (s1:Unit)=>(w4O st [(o0,(.arr 0 7 0 [[.int .i64 w4B,.str x0X,.sl false 1 16 (rows w3X x0Y),.sl false 4 72 (rows w3T.cells x0Z),.sl false 1 16 (rows w3X x0g),.sl false 1 16 (rows w3X x0Q),.sl false 1 16 (rows w3X w8T)]])),(o1,(.arr 0 1 0 [[.sl false 6 104 (rows w3V.cells w5n)]])),(o2,(.arr 0 1 0 [[.int .i64 w9w]])),(o3,(.arr 0 1 0 [[.int .i64 x4s]])),(o4,(.arr 0 1 0 [[.fn 39 [] [.ptr o1 0 0 0]]])),(o5,(.arr 0 1 0 [[.fn 40 [] [.ptr o0 0 0 0,.ptr o1 0 0 0,.ptr o2 0 0 0,.ptr o3 0 0 0,.ptr o4 0 0 0,.ptr o5 0 0 0]]]))])++[some (.arr 0 4 0 [[.int .i64 a0.kind,.str a0.name,.sl false 1 16 (rows w3X a0.words),.sl false 4 72 (rows w3T.cells a0.subs)]]),some (.arr 0 4 0 [[.int .i64 0,.str [],.w4g,.w4g]])])
     (fun(gt1:Unit) (t1:Unit)=>[(1,.int .i64 a1),(2,.sl false 1 16 (rows w3X a2)),(3,.ptr o0 0 0 0),(4,.ptr o1 0 0 0),(5,.ptr o2 0 0 0),(6,.ptr o3 0 0 0),(7,.ptr o4 0 0 0),(8,.ptr o5 0 0 0),(9,.ptr st.length 0 0 0),(12,.ptr (st.length+1) 0 0 0)])
     (fun(gt1:Unit) (t1:Unit)=>(w4O st [(o0,(.arr 0 7 0 [[.int .i64 w4B,.str x0X,.sl false 1 16 (rows w3X x0Y),.sl false 4 72 (rows w3T.cells x0Z),.sl false 1 16 (rows w3X x0g),.sl false 1 16 (rows w3X x0Q),.sl false 1 16 (rows w3X w8T)]])),(o1,(.arr 0 1 0 [[.sl false 6 104 (rows w3V.cells w5n)]])),(o2,(.arr 0 1 0 [[.int .i64 w9w]])),(o3,(.arr 0 1 0 [[.int .i64 x4s]])),(o4,(.arr 0 1 0 [[.fn 39 [] [.ptr o1 0 0 0]]])),(o5,(.arr 0 1 0 [[.fn 40 [] [.ptr o0 0 0 0,.ptr o1 0 0 0,.ptr o2 0 0 0,.ptr o3 0 0 0,.ptr o4 0 0 0,.ptr o5 0 0 0]]]))])++[some (.arr 0 4 0 [[.int .i64 a0.kind,.str a0.name,.sl false 1 16 (rows w3X a0.words),.sl false 4 72 (rows w3T.cells a0.subs)]]),some (.arr 0 4 0 [[.int .i64 0,.str [],.w4g,.w4g]])])
     () fx hl1 h (bu hsc)
     (fun gs1 k1 s1 b1 fx h hx1=>?_) (fun gs1 s1=>?_) (fun gt1 t1 fr1 st1 h hb=>?_)
    ·unfold w9l at h
     refine ct ?_
     refine cd h (fun hc h=>?_) fun hc h=>?_
     ·refine cl h (y0e n _) fun v6 h=>?_
      refine ra ?_
      cases h
      refine w8C ?_;have h:=congrArg some (hx1 _ rfl)
      refine rr ?_
      exact fuo (.tup [.agg [.int .i64 ((get ((w5n.drop w9w.toNat).take ((wr .i64 (w9w+(↑w8T.length:Int))).toNat-w9w.toNat)) k1).form.kind),.str ((get ((w5n.drop w9w.toNat).take ((wr .i64 (w9w+(↑w8T.length:Int))).toNat-w9w.toNat)) k1).form.name),.sl false 1 16 (rows w3X ((get ((w5n.drop w9w.toNat).take ((wr .i64 (w9w+(↑w8T.length:Int))).toNat-w9w.toNat)) k1).form.words)),.sl false 4 72 (rows w3T.cells ((get ((w5n.drop w9w.toNat).take ((wr .i64 (w9w+(↑w8T.length:Int))).toNat-w9w.toNat)) k1).form.subs))],.bool (bif (decide ((wr .i64 (x4s+v6.1))≤200))then(decide ((wr .i64 ((wr .i64 (a1+v6.2))-1))≤40))else false)]) (.same _) h hsc
     ·refine rn ?_
      cases h
      exact x2D () (bu hsc)
    ·refine cf ?_
     refine x2J ?_;simp only[go_sem,fx]
     exact⟨(),(bu hsc)⟩
    ·try simp only[go_sem,fx]
     unfold x0M at h
     refine hj0 () _ _ _ h ?_;exact(hb.trans (bu hsc))
   ·refine r0 ?_
    refine hj0 () _ _ _ h ?_;exact(bu hsc)
end Go.Proofs.YtdjnbjnlnjhllaaGreatDoor
