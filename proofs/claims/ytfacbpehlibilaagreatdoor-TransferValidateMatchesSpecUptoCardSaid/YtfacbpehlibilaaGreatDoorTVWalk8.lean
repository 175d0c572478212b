import Derived.Test.YtfacbpehlibilaaGreatDoorTVWalk7
set_option linter.unusedVariables false
set_option linter.unusedSimpArgs false
set_option maxHeartbeats 2000000
set_option maxRecDepth 100000
namespace Go.Proofs.YtfacbpehlibilaaGreatDoor
open Go Go.Am
theorem u8S:∀(n:Nat) (a0:p6w) (a1:(List r5i)) (r5q:Int) (r9d:(List Bs)) (r:p6w×Int) (h:r9z n a0 a1 r5q r9d=some r),∀(st:St) (o0 o1:Nat) (hnd: [o0,o1].Nodup) (r6Q:Am.look st o0=some (.arr 0 1 0 [[.int .i64 r5q]])) (r9o:Am.look st o1=some (.arr 0 1 0 [[.sl false 1 16 (rows r4X r9d)]])),Am.Spec Tryz.prog gl 104 [.agg [.int .i64 a0.kind,.str a0.name,.sl false 1 16 (rows r4X a0.words),.sl false 4 72 (rows p6w.cells a0.subs)],.sl false 2 32 (rows r5i.cells a1),.fn 103 [] [.ptr o0 0 0 0,.ptr o1 0 0 0]] st (fun d st'=>d= .agg [.int .i64 r.1.kind,.str r.1.name,.sl false 1 16 (rows r4X r.1.words),.sl false 4 72 (rows p6w.cells r.1.subs)]∧st'=puts st [(o0,(.arr 0 1 0 [[.int .i64 r.2]])),(o1,(.arr 0 1 0 [[.sl false 1 16 (rows r4X r9d)]]))]):=by
 intro n
 induction n with
 |zero=>intro a0 a1 r5q r9d r h;cases h
 |succ n ih=>
  intro a0 a1 r5q r9d r h st o0 o1 hnd r6Q r9o
  unfold r9z at h
  have ho0:=r5h r6Q
  have ho1:=r5h r9o
  have fx:=fa (fa (idf ho0) (idf ho1)) (nd2 hnd)
  refine fb 87 [.cell 6 31] [0,1,2,3,6,7,9,10,12,19,20,21,22,29,38,52,70,71,72,73] Tryz.func104 fun hsc=>?_
  refine r8l (s':=(r5k st [(o0,(.arr 0 1 0 [[.int .i64 r5q]])),(o1,(.arr 0 1 0 [[.sl false 1 16 (rows r4X r9d)]]))])) (r5p (by simp[r6Q,r9o])) ?_
  refine r0 ?_
  refine r0 ?_
  refine r0 ?_
  (repeat apply sq_)
  refine r9q 1 16 ?_
  try simp only[List.append_assoc,List.cons_append,List.nil_append]
  refine r6O (F:=[(1,.sl false 2 32 (rows r5i.cells a1)),(2,.fn 103 [] [.ptr o0 0 0 0,.ptr o1 0 0 0]),(3,.ptr st.length 0 0 0),(6,.ptr (st.length+1) 0 0 0),(7,.ptr (st.length+2) 0 0 0),(19,.sl false 1 16 (rows r4X a0.words)),(20,.int .i64 (↑a0.words.length:Int)),(21,.int .i64 0)]) (T:=(r5k st [(o0,(.arr 0 1 0 [[.int .i64 r5q]])),(o1,(.arr 0 1 0 [[.sl false 1 16 (rows r4X r9d)]]))])++[some (.arr 0 4 0 [[.int .i64 a0.kind,.str a0.name,.sl false 1 16 (rows r4X a0.words),.sl false 4 72 (rows p6w.cells a0.subs)]]),some (.arr 0 4 0 [[.int .i64 0,.str [],.r5g,.r5g]]),some (.arr 0 4 0 [[.int .i64 a0.kind,.str a0.name,.ref false (st.length+3) 0 0 0,.r5g]]),some (.arr 0 1 16 (rows r4X []))]) (u0G (by simp) (r7P hsc (by simp<;>omega)) (.lv (.lv (.live _ _ _ _ (.arr _ _ _ _ _ (.cons _ _ _ _ (.cons _ _ _ _ .s (.cons _ _ _ _ .s (.cons _ _ _ _ (.nref _ _ _ _ _ _ (r5u.trans rfl)) (.cons _ _ _ _ .s .nil)))) (.same _))) (.lv (.nil _))))) (by simp<;>omega) ⟨.s,.s,.s,.s,.s,.s,.s,.s,trivial⟩ (by simp<;>omega)) ?_
  refine aln 19 fun hl0=>?_
  refine rng (body:=u2X n a1 a0) (kk:=u3a (r9z n) n a0 r5q r9d a1) (n:=a0.words.length) (s0:=[])
   (fun(gs0:Nat) (k0:Nat) (s0:(List Bs))=>[(1,.sl false 2 32 (rows r5i.cells a1)),(2,.fn 103 [] [.ptr o0 0 0 0,.ptr o1 0 0 0]),(3,.ptr st.length 0 0 0),(6,.ptr (st.length+1) 0 0 0),(7,.ptr (st.length+2) 0 0 0),(19,.sl false 1 16 (rows r4X a0.words)),(20,.int .i64 (↑a0.words.length:Int)),(21,.int .i64 (↑k0:Int))])
   (fun(gs0:Nat) (k0:Nat) (s0:(List Bs))=>(r5k st [(o0,(.arr 0 1 0 [[.int .i64 r5q]])),(o1,(.arr 0 1 0 [[.sl false 1 16 (rows r4X r9d)]]))])++[some (.arr 0 4 0 [[.int .i64 a0.kind,.str a0.name,.sl false 1 16 (rows r4X a0.words),.sl false 4 72 (rows p6w.cells a0.subs)]]),some (.arr 0 4 0 [[.int .i64 0,.str [],.r5g,.r5g]]),some (.arr 0 4 0 [[.int .i64 a0.kind,.str a0.name,.ref false (st.length+3) gs0 0 s0.length,.r5g]]),some (.arr gs0 1 16 (rows r4X s0))])
   (fun(gt0:Nat) (t0:(List Bs))=>[(1,.sl false 2 32 (rows r5i.cells a1)),(2,.fn 103 [] [.ptr o0 0 0 0,.ptr o1 0 0 0]),(3,.ptr st.length 0 0 0),(6,.ptr (st.length+1) 0 0 0),(7,.ptr (st.length+2) 0 0 0)])
   (fun(gt0:Nat) (t0:(List Bs))=>(r5k st [(o0,(.arr 0 1 0 [[.int .i64 r5q]])),(o1,(.arr 0 1 0 [[.sl false 1 16 (rows r4X r9d)]]))])++[some (.arr 0 4 0 [[.int .i64 a0.kind,.str a0.name,.sl false 1 16 (rows r4X a0.words),.sl false 4 72 (rows p6w.cells a0.subs)]]),some (.arr 0 4 0 [[.int .i64 0,.str [],.r5g,.r5g]]),some (.arr 0 4 0 [[.int .i64 a0.kind,.str a0.name,.ref false (st.length+3) gt0 0 t0.length,.r5g]]),some (.arr gt0 1 16 (rows r4X t0))])
   0 fx hl0 h (bu hsc)
   (fun gs0 k0 s0 b0 fx h hx0=>?_) (fun gs0 s0=>?_) (fun gt0 t0 fr1 st1 h hb=>?_)
  ·unfold u2X at h
   refine ct ?_
   refine rn ?_
   refine r5M (body:=u2V a1 a0 k0) (kk:=u2W s0) (n:=n) (s0:=(wr .i64 ((↑a1.length:Int)-1)))
    (fun(gs2:Unit) (s2:Int)=>[(1,.sl false 2 32 (rows r5i.cells a1)),(2,.fn 103 [] [.ptr o0 0 0 0,.ptr o1 0 0 0]),(3,.ptr st.length 0 0 0),(6,.ptr (st.length+1) 0 0 0),(7,.ptr (st.length+2) 0 0 0),(9,.str (get a0.words k0)),(10,.int .i64 s2),(19,.sl false 1 16 (rows r4X a0.words)),(20,.int .i64 (↑a0.words.length:Int)),(21,.int .i64 (↑k0:Int))])
    (fun(gs2:Unit) (s2:Int)=>(r5k st [(o0,(.arr 0 1 0 [[.int .i64 r5q]])),(o1,(.arr 0 1 0 [[.sl false 1 16 (rows r4X r9d)]]))])++[some (.arr 0 4 0 [[.int .i64 a0.kind,.str a0.name,.sl false 1 16 (rows r4X a0.words),.sl false 4 72 (rows p6w.cells a0.subs)]]),some (.arr 0 4 0 [[.int .i64 0,.str [],.r5g,.r5g]]),some (.arr 0 4 0 [[.int .i64 a0.kind,.str a0.name,.ref false (st.length+3) gs0 0 s0.length,.r5g]]),some (.arr gs0 1 16 (rows r4X s0))])
    (fun(gt2:Unit) (t2:Bs)=>[(1,.sl false 2 32 (rows r5i.cells a1)),(2,.fn 103 [] [.ptr o0 0 0 0,.ptr o1 0 0 0]),(3,.ptr st.length 0 0 0),(6,.ptr (st.length+1) 0 0 0),(7,.ptr (st.length+2) 0 0 0),(9,.str t2),(19,.sl false 1 16 (rows r4X a0.words)),(20,.int .i64 (↑a0.words.length:Int)),(21,.int .i64 (↑k0:Int))])
    (fun(gt2:Unit) (t2:Bs)=>(r5k st [(o0,(.arr 0 1 0 [[.int .i64 r5q]])),(o1,(.arr 0 1 0 [[.sl false 1 16 (rows r4X r9d)]]))])++[some (.arr 0 4 0 [[.int .i64 a0.kind,.str a0.name,.sl false 1 16 (rows r4X a0.words),.sl false 4 72 (rows p6w.cells a0.subs)]]),some (.arr 0 4 0 [[.int .i64 0,.str [],.r5g,.r5g]]),some (.arr 0 4 0 [[.int .i64 a0.kind,.str a0.name,.ref false (st.length+3) gs0 0 s0.length,.r5g]]),some (.arr gs0 1 16 (rows r4X s0))])
    () h (bu hsc)
    (fun gs2 s2 b2 h hx2=>?_) (fun gt2 t2 fr1 st1 h hb=>?_)
   ·unfold u2V at h
    refine cd h (fun hc h=>?_) fun hc h=>?_
    ·obtain⟨fx,h⟩:=ck fx h
     refine cd h (fun hc h=>?_) fun hc h=>?_
     ·refine rn ?_
      cases h
      exact r7i () (bu hsc)
     ·refine rn ?_
      cases h
      exact r6h () (bu hsc)
    ·refine rn ?_
     cases h
     exact r7i () (bu hsc)
   ·try simp only[go_sem,fx]
    unfold u2W at h
    refine r6O hb ?_
    obtain⟨c16,y1K,h⟩:=u2v h
    have fy:=(show rows r4X s0++[[.str t2]]=rows r4X c16 from by rw[y1K];first|exact r5y (E:=r4X) s0 [t2]|simp only[go_sem,rows,List.map_append,List.map_cons,List.map_nil])
    have fy:=fa fy (show s0.length+1=c16.length from by rw[y1K];simp)
    obtain⟨fx,h⟩:=ck fx h
    refine r1 ?_
    refine rn ?_
    cases h
    exact u2o (gs0+1) (bu hsc)
  ·refine cf ?_
   refine u2n ?_;simp only[go_sem,fx]
   exact⟨gs0,(bu hsc)⟩
  ·try simp only[go_sem,fx]
   unfold u3a at h
   refine r6O hb ?_
   refine cl h (r5F _) fun v21 h=>?_
   refine rn ?_
   refine r9E (u1i (r9z n) a0 r9d t0) r (fun(gj3:Unit) (j3:Int×Bs×(List r5i))=>[(1,.sl false 2 32 (rows r5i.cells j3.2.2)),(2,.fn 103 [] [.ptr o0 0 0 0,.ptr o1 0 0 0]),(3,.ptr st.length 0 0 0),(6,.ptr (st.length+1) 0 0 0),(7,.ptr (st.length+2) 0 0 0)]) (fun(gj3:Unit) (j3:Int×Bs×(List r5i))=>(r5k st [(o0,(.arr 0 1 0 [[.int .i64 j3.1]])),(o1,(.arr 0 1 0 [[.sl false 1 16 (rows r4X r9d)]]))])++[some (.arr 0 4 0 [[.int .i64 a0.kind,.str a0.name,.sl false 1 16 (rows r4X a0.words),.sl false 4 72 (rows p6w.cells a0.subs)]]),some (.arr 0 4 0 [[.int .i64 0,.str [],.r5g,.r5g]]),some (.arr 0 4 0 [[.int .i64 a0.kind,.str j3.2.1,.ref false (st.length+3) gt0 0 t0.length,.r5g]]),some (.arr gt0 1 16 (rows r4X t0))]) (fun gj3 j3 fr1 st1 h hb=>?_) (fun hj3=>?_)
   ·try simp only[go_sem,fx]
    unfold u1i at h
    refine r6O hb ?_
    refine r0 ?_
    (repeat apply sq_)
    refine r9q 4 72 ?_
    try simp only[List.append_assoc,List.cons_append,List.nil_append]
    refine r6O (F:=[(1,.sl false 2 32 (rows r5i.cells j3.2.2)),(2,.fn 103 [] [.ptr o0 0 0 0,.ptr o1 0 0 0]),(6,.ptr (st.length+1) 0 0 0),(7,.ptr (st.length+2) 0 0 0),(70,.sl false 4 72 (rows p6w.cells a0.subs)),(71,.int .i64 (↑a0.subs.length:Int)),(72,.int .i64 0)]) (T:=(r5k st [(o0,(.arr 0 1 0 [[.int .i64 j3.1]])),(o1,(.arr 0 1 0 [[.sl false 1 16 (rows r4X r9d)]]))])++[some (.arr 0 4 0 [[.int .i64 a0.kind,.str a0.name,.sl false 1 16 (rows r4X a0.words),.sl false 4 72 (rows p6w.cells a0.subs)]]),some (.arr 0 4 0 [[.int .i64 0,.str [],.r5g,.r5g]]),some (.arr 0 4 0 [[.int .i64 a0.kind,.str j3.2.1,.ref false (st.length+3) gt0 0 t0.length,.ref false (st.length+4) 0 0 0]]),some (.arr gt0 1 16 (rows r4X t0)),some (.arr 0 4 72 (rows p6w.cells []))]) (u0G (by simp) (r7P hsc (by simp<;>omega)) (.lv (.lv (.live _ _ _ _ (.arr _ _ _ _ _ (.cons _ _ _ _ (.cons _ _ _ _ .s (.cons _ _ _ _ .s (.cons _ _ _ _ .s (.cons _ _ _ _ (.nref _ _ _ _ _ _ (r5u.trans rfl)) .nil)))) (.same _))) (.lv (.lv (.nil _)))))) (by simp<;>omega) ⟨.s,.s,.s,.s,.s,.s,.s,trivial⟩ (by simp<;>omega)) ?_
    refine aln 70 fun hl4=>?_
    refine rng (body:=u2Y (r9z n) a0 j3 r9d) (kk:=u2Z a0 j3 t0) (n:=a0.subs.length) (s0:=(j3.1,[]))
     (fun(gs4:Nat) (k4:Nat) (s4:Int×(List p6w))=>[(1,.sl false 2 32 (rows r5i.cells j3.2.2)),(2,.fn 103 [] [.ptr o0 0 0 0,.ptr o1 0 0 0]),(6,.ptr (st.length+1) 0 0 0),(7,.ptr (st.length+2) 0 0 0),(70,.sl false 4 72 (rows p6w.cells a0.subs)),(71,.int .i64 (↑a0.subs.length:Int)),(72,.int .i64 (↑k4:Int))])
     (fun(gs4:Nat) (k4:Nat) (s4:Int×(List p6w))=>(r5k st [(o0,(.arr 0 1 0 [[.int .i64 s4.1]])),(o1,(.arr 0 1 0 [[.sl false 1 16 (rows r4X r9d)]]))])++[none,some (.arr 0 4 0 [[.int .i64 0,.str [],.r5g,.r5g]]),some (.arr 0 4 0 [[.int .i64 a0.kind,.str j3.2.1,.ref false (st.length+3) gt0 0 t0.length,.ref false (st.length+4) gs4 0 s4.2.length]]),some (.arr gt0 1 16 (rows r4X t0)),some (.arr gs4 4 72 (rows p6w.cells s4.2))])
     (fun(gt4:Nat) (t4:Int×(List p6w))=>[(6,.ptr (st.length+1) 0 0 0),(7,.ptr (st.length+2) 0 0 0)])
     (fun(gt4:Nat) (t4:Int×(List p6w))=>(r5k st [(o0,(.arr 0 1 0 [[.int .i64 t4.1]])),(o1,(.arr 0 1 0 [[.sl false 1 16 (rows r4X r9d)]]))])++[none,some (.arr 0 4 0 [[.int .i64 0,.str [],.r5g,.r5g]]),some (.arr 0 4 0 [[.int .i64 a0.kind,.str j3.2.1,.ref false (st.length+3) gt0 0 t0.length,.ref false (st.length+4) gt4 0 t4.2.length]]),some (.arr gt0 1 16 (rows r4X t0)),some (.arr gt4 4 72 (rows p6w.cells t4.2))])
     0 fx hl4 h (bu hsc)
     (fun gs4 k4 s4 b4 fx h hx4=>?_) (fun gs4 s4=>?_) (fun gt4 t4 fr1 st1 h hb=>?_)
    ·unfold u2Y at h
     refine ct ?_
     refine rn ?_
     refine dw [1,5] 2 ?_
     obtain⟨v38,hv38,h⟩:=r7G h
     refine u2j [o0,o1] (fun st2 h2=>(ih _ _ _ _ _ hv38 st2 _ _ hnd ((h2 _ (by simp)).trans (by simp only[go_sem,fx])) ((h2 _ (by simp)).trans (by simp only[go_sem,fx])))) (by simp) (by simp only[List.mem_cons,List.not_mem_nil,or_false,forall_eq_or_imp,forall_eq];exact⟨⟨by first|omega|(simp<;>omega),_,(by simp only[go_sem,fx]<;>rfl),Ob.noConfusion⟩,⟨by first|omega|(simp<;>omega),_,(by simp only[go_sem,fx]<;>rfl),Ob.noConfusion⟩⟩) (by simp) ?_
     obtain⟨c40,x8J,h⟩:=u2v h
     have fy:=(show rows p6w.cells s4.2++[[.int .i64 v38.1.kind,.str v38.1.name,.sl false 1 16 (rows r4X v38.1.words),.sl false 4 72 (rows p6w.cells v38.1.subs)]]=rows p6w.cells c40 from by rw[x8J];first|exact r5y (E:=p6w.cells) s4.2 [v38.1]|simp only[go_sem,rows,List.map_append,List.map_cons,List.map_nil])
     have fy:=fa fy (show s4.2.length+1=c40.length from by rw[x8J];simp)
     obtain⟨fx,h⟩:=ck fx h
     try simp only[go_sem,fx,fy]
     try refine⟨by first|omega|(simp<;>omega),?_⟩
     refine rn ?_
     cases h
     exact u2o (gs4+1) (bu hsc)
    ·refine cf ?_
     refine u2n ?_;simp only[go_sem,fx]
     exact⟨gs4,(bu hsc)⟩
    ·try simp only[go_sem,fx]
     unfold u2Z at h
     refine r6O hb ?_
     refine rr ?_
     exact fuo (.agg [.int .i64 a0.kind,.str j3.2.1,.sl false 1 16 (rows r4X t0),.sl false 4 72 (rows p6w.cells t4.2)]) (.agg _ _ (.cons _ _ _ _ .s (.cons _ _ _ _ .s (.cons _ _ _ _ (.ref _ _ _ _ _ _ _ _ _ (r5u.trans rfl) r9r (by decide) (u4I _) (by simp only[go_sem])) (.cons _ _ _ _ (.ref _ _ _ _ _ _ _ _ _ (r5u.trans rfl) r9r (by decide) (u4I _) (by simp only[go_sem])) .nil))))) h hsc
   ·refine cd h (fun hc h=>?_) fun hc h=>?_
    ·refine rn ?_
     obtain⟨v22,hv22,h⟩:=r7G h
     refine(u9z n _ _ _ hv22 _ _ _ hnd (by simp only[go_sem,fx]) (by simp only[go_sem,fx])).mono ?_
     rintro d1 st1 ⟨rfl,rfl⟩
     refine rn ?_
     obtain⟨fx,h⟩:=ck fx h
     obtain⟨c26,x8I,h⟩:=u2v h
     have fy:=(show rows r5i.cells a1++[[.str a0.name,.str v22.1]]=rows r5i.cells c26 from by rw[x8I];first|exact r5y (E:=r5i.cells) a1 [(r5i.mk a0.name v22.1)]|simp only[go_sem,rows,List.map_append,List.map_cons,List.map_nil])
     have fy:=fa fy (show a1.length+1=c26.length from by rw[x8I];simp)
     obtain⟨fx,h⟩:=ck fx h
     refine dwy [] 2 ?_
     refine hj3 () _ _ _ h ?_;exact(bu hsc (hf:=⟨.ref _ _ _ _ _ _ _ _ _ (r5u.trans rfl) (u0Z (by first|decide|simp)) (by decide) (u4I _) (by simp only[go_sem]),.s,.s,.s,.s,trivial⟩))
    ·refine r0 ?_
     refine hj3 () _ _ _ h ?_;exact(bu hsc)
theorem u8T(n:Nat)(a0:p6w)(a1:(List r5i))(r:p6w)(h:u4Y n a0 a1=some r):Pure Tryz.prog gl 75 [.agg [.int .i64 a0.kind,.str a0.name,.sl false 1 16 (rows r4X a0.words),.sl false 4 72 (rows p6w.cells a0.subs)],.sl false 2 32 (rows r5i.cells a1)] (.agg [.int .i64 r.kind,.str r.name,.sl false 1 16 (rows r4X r.words),.sl false 4 72 (rows p6w.cells r.subs)]):=by
 intro st
 unfold u4Y at h
 have fx:=trivial
 refine fb 43 [.cell 4 31] [0,1,2,4,5,7,8,9,10,11,14,15,16,17,20,21,22,23,30] Tryz.func75 fun hsc=>?_
 refine cl h (u4p n _) fun v1 h=>?_
 refine aln 1 fun hl0=>?_
 refine rng (body:=u3d v1 a1) (kk:=u3e n a0 a1 v1) (n:=a1.length) (s0:=())
  (fun(gs0:Unit) (k0:Nat) (s0:Unit)=>[(1,.sl false 2 32 (rows r5i.cells a1)),(2,.ptr st.length 0 0 0),(4,.ptr (st.length+1) 0 0 0),(5,.ptr (st.length+2) 0 0 0),(14,.sl false 2 32 (rows r5i.cells a1)),(15,.int .i64 (↑a1.length:Int)),(16,.int .i64 (↑k0:Int))])
  (fun(gs0:Unit) (k0:Nat) (s0:Unit)=>st++[some (.arr 0 4 0 [[.int .i64 a0.kind,.str a0.name,.sl false 1 16 (rows r4X a0.words),.sl false 4 72 (rows p6w.cells a0.subs)]]),some (.arr 0 4 0 [[.int .i64 0,.str [],.r5g,.r5g]]),some (.arr 0 1 0 [[.sl false 1 16 (rows r4X v1)]])])
  (fun(gt0:Unit) (t0:Unit)=>[(1,.sl false 2 32 (rows r5i.cells a1)),(2,.ptr st.length 0 0 0),(4,.ptr (st.length+1) 0 0 0),(5,.ptr (st.length+2) 0 0 0)])
  (fun(gt0:Unit) (t0:Unit)=>st++[some (.arr 0 4 0 [[.int .i64 a0.kind,.str a0.name,.sl false 1 16 (rows r4X a0.words),.sl false 4 72 (rows p6w.cells a0.subs)]]),some (.arr 0 4 0 [[.int .i64 0,.str [],.r5g,.r5g]]),some (.arr 0 1 0 [[.sl false 1 16 (rows r4X v1)]])])
  () fx hl0 h (bm hsc)
  (fun gs0 k0 s0 b0 fx h hx0=>?_) (fun gs0 s0=>?_) (fun gt0 t0 fr1 st1 h hb=>?_)
 ·unfold u3d at h
  refine ct ?_
  refine aln 20 fun hl1=>?_
  refine rng (body:=u3b v1 a1 k0) (kk:=u3c) (n:=v1.length) (s0:=())
   (fun(gs1:Unit) (k1:Nat) (s1:Unit)=>[(1,.sl false 2 32 (rows r5i.cells a1)),(2,.ptr st.length 0 0 0),(4,.ptr (st.length+1) 0 0 0),(5,.ptr (st.length+2) 0 0 0),(7,.ptr (st.length+3) 0 0 0),(14,.sl false 2 32 (rows r5i.cells a1)),(15,.int .i64 (↑a1.length:Int)),(16,.int .i64 (↑k0:Int)),(20,.sl false 1 16 (rows r4X v1)),(21,.int .i64 (↑v1.length:Int)),(22,.int .i64 (↑k1:Int))])
   (fun(gs1:Unit) (k1:Nat) (s1:Unit)=>st++[some (.arr 0 4 0 [[.int .i64 a0.kind,.str a0.name,.sl false 1 16 (rows r4X a0.words),.sl false 4 72 (rows p6w.cells a0.subs)]]),some (.arr 0 4 0 [[.int .i64 0,.str [],.r5g,.r5g]]),some (.arr 0 1 0 [[.sl false 1 16 (rows r4X v1)]]),some (.arr 0 2 0 [[.str ((get a1 k0).from_),.str ((get a1 k0).to_)]])])
   (fun(gt1:Unit) (t1:Unit)=>[(1,.sl false 2 32 (rows r5i.cells a1)),(2,.ptr st.length 0 0 0),(4,.ptr (st.length+1) 0 0 0),(5,.ptr (st.length+2) 0 0 0),(14,.sl false 2 32 (rows r5i.cells a1)),(15,.int .i64 (↑a1.length:Int)),(16,.int .i64 (↑k0:Int))])
   (fun(gt1:Unit) (t1:Unit)=>st++[some (.arr 0 4 0 [[.int .i64 a0.kind,.str a0.name,.sl false 1 16 (rows r4X a0.words),.sl false 4 72 (rows p6w.cells a0.subs)]]),some (.arr 0 4 0 [[.int .i64 0,.str [],.r5g,.r5g]]),some (.arr 0 1 0 [[.sl false 1 16 (rows r4X v1)]])])
   () fx hl1 h (bm hsc)
   (fun gs1 k1 s1 b1 fx h hx1=>?_) (fun gs1 s1=>?_) (fun gt1 t1 fr1 st1 h hb=>?_)
  ·unfold u3b at h
   refine ct ?_
   refine cd h (fun hc h=>?_) fun hc h=>?_
   ·cases h
   ·refine rn ?_
    cases h
    exact u2o () (bm hsc)
  ·refine cf ?_
   refine u2n ?_;simp only[go_sem,fx]
   exact⟨(),(bm hsc)⟩
  ·try simp only[go_sem,fx]
   unfold u3c at h
   refine r6O hb ?_
   refine rn ?_
   cases h
   exact u2o () (bm hsc)
 ·refine cf ?_
  refine u2n ?_;simp only[go_sem,fx]
  exact⟨(),(bm hsc)⟩
 ·try simp only[go_sem,fx]
  unfold u3e at h
  refine r6O hb ?_
  refine rn ?_
  obtain⟨v2,hv2,h⟩:=r7G h
  refine(u8S n _ _ _ _ _ hv2 _ _ _ (by simp) (u4b.trans rfl) (u4b.trans rfl)).mono ?_
  rintro d1 st1 ⟨rfl,rfl⟩
  exact rt
theorem w1p(n:Nat)(a0:p6w)(r:p6w)(h:u6y n a0=some r):Pure Tryz.prog gl 47 [.agg [.int .i64 a0.kind,.str a0.name,.sl false 1 16 (rows r4X a0.words),.sl false 4 72 (rows p6w.cells a0.subs)]] (.agg [.int .i64 r.kind,.str r.name,.sl false 1 16 (rows r4X r.words),.sl false 4 72 (rows p6w.cells r.subs)]):=by
 intro st
 unfold u6y at h
 have fx:=trivial
 refine fb 5 [.cell 2 31] [0,1,2] Tryz.func47 fun hsc=>?_
 refine cl h (up (u8T n _ _) (fun _=>(.cons _ _ _ _ .s (.cons _ _ _ _ (.r5g _ _ _ (by decide)) .nil)))) fun v1 h=>?_
 exact rt
theorem u7e(n:Nat)(a0:(List r4V))(a1:p6w)(r:p6w×(List r4W)×Bool)(h:u5Q n a0 a1=some r):Pure Tryz.prog gl 39 [.sl false 11 216 (rows r4V.cells a0),.agg [.int .i64 a1.kind,.str a1.name,.sl false 1 16 (rows r4X a1.words),.sl false 4 72 (rows p6w.cells a1.subs)]] (.tup [.agg [.int .i64 r.1.kind,.str r.1.name,.sl false 1 16 (rows r4X r.1.words),.sl false 4 72 (rows p6w.cells r.1.subs)],.sl false 2 16 (rows r4W.cells r.2.1),.bool r.2.2]):=by
 intro st
 unfold u5Q at h
 have fx:=trivial
 refine fb 42 [.cell 4 31,.tmp 5,.tmp 6] [0,1,3,4,5,6,7,8,9,10,28] Tryz.func39 fun hsc=>?_
 refine r0 ?_
 refine r0 ?_
 (repeat apply sq_)
 refine r9q 2 16 ?_
 try simp only[List.append_assoc,List.cons_append,List.nil_append]
 refine r6O (F:=[(3,.ptr st.length 0 0 0),(4,.ptr (st.length+1) 0 0 0),(7,.ptr (st.length+3) 0 0 0)]) (T:=st++[some (.arr 0 4 0 [[.int .i64 a1.kind,.str a1.name,.sl false 1 16 (rows r4X a1.words),.sl false 4 72 (rows p6w.cells a1.subs)]]),some (.arr 0 4 0 [[.int .i64 0,.str [],.r5g,.r5g]]),some (.mps false (mrw u0I [])),some (.arr 0 4 0 [[.sl false 11 216 (rows r4V.cells a0),.mp (st.length+2),.ref false (st.length+4) 0 0 0,.int .i64 0]]),some (.arr 0 2 16 (rows r4W.cells []))]) (w5R hsc (.lv (.lv (.lv (.live _ _ _ _ (.arr _ _ _ _ _ (.cons _ _ _ _ (.cons _ _ _ _ .s (.cons _ _ _ _ .s (.cons _ _ _ _ (.nref _ _ _ _ _ _ (w0z.trans rfl)) (.cons _ _ _ _ .s .nil)))) (.same _))) (.lv (.nil _)))))) (by simp) ⟨.s,.s,.s,trivial⟩ (by simp)) ?_
 refine rn ?_
 obtain⟨v1,hv1,h⟩:=r7G h
 refine(u7s n _ _ _ _ _ _ hv1 _ _ _ _ 0 (by simp) (u4b.trans rfl) (u4b.trans rfl) (u4b.trans rfl)).mono ?_
 rintro d1 st1 ⟨rfl,rfl⟩
 refine rn ?_
 obtain⟨v2,hv2,h⟩:=r7G h
 refine(u6U n _ _ _ _ _ _ _ hv2 _ _ _ _ 0 (by simp) (u4b.trans rfl) (u4b.trans rfl) (u4b.trans rfl)).mono ?_
 rintro d1 st1 ⟨rfl,rfl⟩
 refine rn ?_
 obtain⟨v3,hv3,h⟩:=r7G h
 refine(u7u n _ _ _ _ _ _ _ hv3 _ _ _ _ 0 (by simp) (u4b.trans rfl) (u4b.trans rfl) (u4b.trans rfl)).mono ?_
 rintro d1 st1 ⟨rfl,rfl⟩
 refine cd h (fun hc h=>?_) fun hc h=>?_
 ·refine rr ?_
  exact fo (.tup [.agg [.int .i64 0,.str [],.sl false 1 16 (rows r4X []),.sl false 4 72 (rows p6w.cells [])],.sl false 2 16 (rows r4W.cells []),.bool false]) (.tup _ _ (.cons _ _ _ _ (.agg _ _ (.cons _ _ _ _ .s (.cons _ _ _ _ .s (.cons _ _ _ _ (.r5g _ _ _ (by decide)) (.cons _ _ _ _ (.r5g _ _ _ (by decide)) .nil))))) (.cons _ _ _ _ (.r5g _ _ _ (by decide)) (.cons _ _ _ _ .s .nil))) rfl) h hsc
 ·refine rn ?_
  obtain⟨v4,hv4,h⟩:=r7G h
  refine(u1t _ _ hv4 _ _ v3.2.2.2.length (by simp) (u4b.trans rfl)).mono ?_
  rintro d1 st1 ⟨rfl,rfl⟩
  try simp only[go_sem,fx]
  have e5:D.ref false (st.length+4) v3.2.2.2.length 0 v3.2.2.2.length=D.ref false (st.length+4) v3.2.2.2.length 0 v4.length:=by rw[u1j hv4]
  try simp only[e5]
  refine rs ?_
  refine dw [6,7] 0 ?_
  obtain⟨v6,hv6,h⟩:=r7G h
  refine r8U (w1p n _ _ hv6) ?_
  try simp only[go_sem,fx]
  try refine⟨by first|omega|(simp<;>omega),?_⟩
  refine rr ?_
  exact fo (.tup [.agg [.int .i64 v6.kind,.str v6.name,.sl false 1 16 (rows r4X v6.words),.sl false 4 72 (rows p6w.cells v6.subs)],.sl false 2 16 (rows r4W.cells v4),.bool true]) (.tup _ _ (.cons _ _ _ _ .s (.cons _ _ _ _ (.ref _ _ _ _ _ _ _ _ _ (w0z.trans rfl) x1H (by decide) (u4I _) (by simp only[go_sem])) (.cons _ _ _ _ .s .nil))) rfl) h hsc
theorem u9A(n:Nat)(a0:(List r4V))(a1:p6w)(r:p6w×r5d)(h:u5R n a0 a1=some r):Pure Tryz.prog gl 13 [.sl false 11 216 (rows r4V.cells a0),.agg [.int .i64 a1.kind,.str a1.name,.sl false 1 16 (rows r4X a1.words),.sl false 4 72 (rows p6w.cells a1.subs)]] (.tup [.agg [.int .i64 r.1.kind,.str r.1.name,.sl false 1 16 (rows r4X r.1.words),.sl false 4 72 (rows p6w.cells r.1.subs)],.agg [.int .i64 r.2.code,.int .i64 r.2.index]]):=by
 intro st
 unfold u5R at h
 have fx:=trivial
 refine fb 31 [.cell 4 31,.cell 5 25] [0,1,3,4,5,6,7,9,15,26] Tryz.func13 fun hsc=>?_
 refine cl h (u5Y n _ _) fun v1 h=>?_
 refine cd h (fun hc h=>?_) fun hc h=>?_
 ·refine rs ?_
  refine dw [1,2] 0 ?_
  try refine⟨by first|omega|(simp<;>omega),?_⟩
  refine rr ?_
  exact fo (.tup [.agg [.int .i64 0,.str [],.sl false 1 16 (rows r4X []),.sl false 4 72 (rows p6w.cells [])],.agg [.int .i64 v1.code,.int .i64 v1.index]]) (.tup _ _ (.cons _ _ _ _ (.agg _ _ (.cons _ _ _ _ .s (.cons _ _ _ _ .s (.cons _ _ _ _ (.r5g _ _ _ (by decide)) (.cons _ _ _ _ (.r5g _ _ _ (by decide)) .nil))))) (.cons _ _ _ _ .s .nil)) rfl) h hsc
 ·refine cl h (u7e n _ _) fun v2 h=>?_
  refine cd h (fun hc h=>?_) fun hc h=>?_
  ·refine cl h (r7F _ _) fun v3 h=>?_
   refine rr ?_
   exact fo (.tup [.agg [.int .i64 0,.str [],.sl false 1 16 (rows r4X []),.sl false 4 72 (rows p6w.cells [])],.agg [.int .i64 v3.code,.int .i64 v3.index]]) (.tup _ _ (.cons _ _ _ _ (.agg _ _ (.cons _ _ _ _ .s (.cons _ _ _ _ .s (.cons _ _ _ _ (.r5g _ _ _ (by decide)) (.cons _ _ _ _ (.r5g _ _ _ (by decide)) .nil))))) (.cons _ _ _ _ .s .nil)) rfl) h hsc
  ·exact rt
theorem u9B(n:Nat)(a0:(List r4V))(a1:p6w)(r:(List r4W)×r5d)(h:u5S n a0 a1=some r):Pure Tryz.prog gl 14 [.sl false 11 216 (rows r4V.cells a0),.agg [.int .i64 a1.kind,.str a1.name,.sl false 1 16 (rows r4X a1.words),.sl false 4 72 (rows p6w.cells a1.subs)]] (.tup [.sl false 2 16 (rows r4W.cells r.1),.agg [.int .i64 r.2.code,.int .i64 r.2.index]]):=by
 intro st
 unfold u5S at h
 have fx:=trivial
 refine fb 29 [.tmp 4,.cell 5 25] [0,1,3,4,5,6,8,9,15,25] Tryz.func14 fun hsc=>?_
 refine cl h (u5Y n _ _) fun v1 h=>?_
 refine cd h (fun hc h=>?_) fun hc h=>?_
 ·refine rs ?_
  refine dw [] 0 ?_
  refine rr ?_
  exact fo (.tup [.sl false 2 16 (rows r4W.cells []),.agg [.int .i64 v1.code,.int .i64 v1.index]]) (.tup _ _ (.cons _ _ _ _ (.r5g _ _ _ (by decide)) (.cons _ _ _ _ .s .nil)) rfl) h hsc
 ·refine cl h (u7e n _ _) fun v2 h=>?_
  refine cd h (fun hc h=>?_) fun hc h=>?_
  ·refine cl h (r7F _ _) fun v3 h=>?_
   refine rr ?_
   exact fo (.tup [.sl false 2 16 (rows r4W.cells []),.agg [.int .i64 v3.code,.int .i64 v3.index]]) (.tup _ _ (.cons _ _ _ _ (.r5g _ _ _ (by decide)) (.cons _ _ _ _ .s .nil)) rfl) h hsc
  ·exact rt
end Go.Proofs.YtfacbpehlibilaaGreatDoor
