import Derived.Test.YtfacbpehlibilaaGreatDoorTAWalk7
set_option linter.unusedVariables false
set_option linter.unusedSimpArgs false
set_option maxHeartbeats 2000000
set_option maxRecDepth 100000
namespace Go.Proofs.YtfacbpehlibilaaGreatDoor
open Go Go.Am
theorem d8z:∀(n:Nat) (a0:Lr) (a1:(List Wy)) (WH:Int) (Zz:(List Bs)) (r:Lr×Int) (h:Xu n a0 a1 WH Zz=some r),∀(st:St) (o0 o1:Nat) (hnd: [o0,o1].Nodup) (XZ:Am.look st o0=some (.arr 0 1 0 [[.int .i64 WH]])) (ZG:Am.look st o1=some (.arr 0 1 0 [[.sl false 1 16 (rows Wt Zz)]])),Am.Spec Tryz.prog gl 104 [.agg [.int .i64 a0.kind,.str a0.name,.sl false 1 16 (rows Wt a0.words),.sl false 4 72 (rows Lr.cells a0.subs)],.sl false 2 32 (rows Wy.cells a1),.fn 103 [] [.ptr o0 0 0 0,.ptr o1 0 0 0]] st (fun d st'=>d= .agg [.int .i64 r.1.kind,.str r.1.name,.sl false 1 16 (rows Wt r.1.words),.sl false 4 72 (rows Lr.cells r.1.subs)]∧st'=puts st [(o0,(.arr 0 1 0 [[.int .i64 r.2]])),(o1,(.arr 0 1 0 [[.sl false 1 16 (rows Wt Zz)]]))]):=by
 intro n
 induction n with
 |zero=>intro a0 a1 WH Zz r h;cases h
 |succ n ih=>
  intro a0 a1 WH Zz r h st o0 o1 hnd XZ ZG
  unfold Xu at h
  have ho0:=WA XZ
  have ho1:=WA ZG
  have fx:=fa (fa (idf ho0) (idf ho1)) (nd2 hnd)
  refine fb 87 [.cell 6 31] [0,1,2,3,6,7,9,10,12,19,20,21,22,29,38,52,70,71,72,73] Tryz.func104 fun hsc=>?_
  refine ZJ (s':=(WE st [(o0,(.arr 0 1 0 [[.int .i64 WH]])),(o1,(.arr 0 1 0 [[.sl false 1 16 (rows Wt Zz)]]))])) (WJ (by simp[XZ,ZG])) ?_
  refine r0 ?_
  refine r0 ?_
  refine r0 ?_
  (repeat apply sq_)
  refine d0f 1 16 ?_
  try simp only[List.append_assoc,List.cons_append,List.nil_append]
  refine Zk (F:=[(1,.sl false 2 32 (rows Wy.cells a1)),(2,.fn 103 [] [.ptr o0 0 0 0,.ptr o1 0 0 0]),(3,.ptr st.length 0 0 0),(6,.ptr (st.length+1) 0 0 0),(7,.ptr (st.length+2) 0 0 0),(19,.sl false 1 16 (rows Wt a0.words)),(20,.int .i64 (↑a0.words.length:Int)),(21,.int .i64 0)]) (T:=(WE st [(o0,(.arr 0 1 0 [[.int .i64 WH]])),(o1,(.arr 0 1 0 [[.sl false 1 16 (rows Wt Zz)]]))])++[some (.arr 0 4 0 [[.int .i64 a0.kind,.str a0.name,.sl false 1 16 (rows Wt a0.words),.sl false 4 72 (rows Lr.cells a0.subs)]]),some (.arr 0 4 0 [[.int .i64 0,.str [],.WB,.WB]]),some (.arr 0 4 0 [[.int .i64 a0.kind,.str a0.name,.ref false (st.length+3) 0 0 0,.WB]]),some (.arr 0 1 16 (rows Wt []))]) (d1O (by simp) (YP hsc (by simp<;>omega)) (.lv (.lv (.live _ _ _ _ (.arr _ _ _ _ _ (.cons _ _ _ _ (.cons _ _ _ _ .s (.cons _ _ _ _ .s (.cons _ _ _ _ (.nref _ _ _ _ _ _ (WT.trans rfl)) (.cons _ _ _ _ .s .nil)))) (.same _))) (.lv (.nil _))))) (by simp<;>omega) ⟨.s,.s,.s,.s,.s,.s,.s,.s,trivial⟩ (by simp<;>omega)) ?_
  refine aln 19 fun hl0=>?_
  refine rng (body:=d0i n a1 a0) (kk:=d0m (Xu n) n a0 WH Zz a1) (n:=a0.words.length) (s0:=[])
   (fun(gs0:Nat) (k0:Nat) (s0:(List Bs))=>[(1,.sl false 2 32 (rows Wy.cells a1)),(2,.fn 103 [] [.ptr o0 0 0 0,.ptr o1 0 0 0]),(3,.ptr st.length 0 0 0),(6,.ptr (st.length+1) 0 0 0),(7,.ptr (st.length+2) 0 0 0),(19,.sl false 1 16 (rows Wt a0.words)),(20,.int .i64 (↑a0.words.length:Int)),(21,.int .i64 (↑k0:Int))])
   (fun(gs0:Nat) (k0:Nat) (s0:(List Bs))=>(WE st [(o0,(.arr 0 1 0 [[.int .i64 WH]])),(o1,(.arr 0 1 0 [[.sl false 1 16 (rows Wt Zz)]]))])++[some (.arr 0 4 0 [[.int .i64 a0.kind,.str a0.name,.sl false 1 16 (rows Wt a0.words),.sl false 4 72 (rows Lr.cells a0.subs)]]),some (.arr 0 4 0 [[.int .i64 0,.str [],.WB,.WB]]),some (.arr 0 4 0 [[.int .i64 a0.kind,.str a0.name,.ref false (st.length+3) gs0 0 s0.length,.WB]]),some (.arr gs0 1 16 (rows Wt s0))])
   (fun(gt0:Nat) (t0:(List Bs))=>[(1,.sl false 2 32 (rows Wy.cells a1)),(2,.fn 103 [] [.ptr o0 0 0 0,.ptr o1 0 0 0]),(3,.ptr st.length 0 0 0),(6,.ptr (st.length+1) 0 0 0),(7,.ptr (st.length+2) 0 0 0)])
   (fun(gt0:Nat) (t0:(List Bs))=>(WE st [(o0,(.arr 0 1 0 [[.int .i64 WH]])),(o1,(.arr 0 1 0 [[.sl false 1 16 (rows Wt Zz)]]))])++[some (.arr 0 4 0 [[.int .i64 a0.kind,.str a0.name,.sl false 1 16 (rows Wt a0.words),.sl false 4 72 (rows Lr.cells a0.subs)]]),some (.arr 0 4 0 [[.int .i64 0,.str [],.WB,.WB]]),some (.arr 0 4 0 [[.int .i64 a0.kind,.str a0.name,.ref false (st.length+3) gt0 0 t0.length,.WB]]),some (.arr gt0 1 16 (rows Wt t0))])
   0 fx hl0 h (bu hsc)
   (fun gs0 k0 s0 b0 fx h hx0=>?_) (fun gs0 s0=>?_) (fun gt0 t0 fr1 st1 h hb=>?_)
  ·unfold d0i at h
   refine ct ?_
   refine rn ?_
   refine d7x (body:=YD a1 a0 k0) (kk:=d0j s0) (n:=n) (s0:=(wr .i64 ((↑a1.length:Int)-1)))
    (fun(gs2:Unit) (s2:Int)=>[(1,.sl false 2 32 (rows Wy.cells a1)),(2,.fn 103 [] [.ptr o0 0 0 0,.ptr o1 0 0 0]),(3,.ptr st.length 0 0 0),(6,.ptr (st.length+1) 0 0 0),(7,.ptr (st.length+2) 0 0 0),(9,.str (get a0.words k0)),(10,.int .i64 s2),(19,.sl false 1 16 (rows Wt a0.words)),(20,.int .i64 (↑a0.words.length:Int)),(21,.int .i64 (↑k0:Int))])
    (fun(gs2:Unit) (s2:Int)=>(WE st [(o0,(.arr 0 1 0 [[.int .i64 WH]])),(o1,(.arr 0 1 0 [[.sl false 1 16 (rows Wt Zz)]]))])++[some (.arr 0 4 0 [[.int .i64 a0.kind,.str a0.name,.sl false 1 16 (rows Wt a0.words),.sl false 4 72 (rows Lr.cells a0.subs)]]),some (.arr 0 4 0 [[.int .i64 0,.str [],.WB,.WB]]),some (.arr 0 4 0 [[.int .i64 a0.kind,.str a0.name,.ref false (st.length+3) gs0 0 s0.length,.WB]]),some (.arr gs0 1 16 (rows Wt s0))])
    (fun(gt2:Unit) (t2:Bs)=>[(1,.sl false 2 32 (rows Wy.cells a1)),(2,.fn 103 [] [.ptr o0 0 0 0,.ptr o1 0 0 0]),(3,.ptr st.length 0 0 0),(6,.ptr (st.length+1) 0 0 0),(7,.ptr (st.length+2) 0 0 0),(9,.str t2),(19,.sl false 1 16 (rows Wt a0.words)),(20,.int .i64 (↑a0.words.length:Int)),(21,.int .i64 (↑k0:Int))])
    (fun(gt2:Unit) (t2:Bs)=>(WE st [(o0,(.arr 0 1 0 [[.int .i64 WH]])),(o1,(.arr 0 1 0 [[.sl false 1 16 (rows Wt Zz)]]))])++[some (.arr 0 4 0 [[.int .i64 a0.kind,.str a0.name,.sl false 1 16 (rows Wt a0.words),.sl false 4 72 (rows Lr.cells a0.subs)]]),some (.arr 0 4 0 [[.int .i64 0,.str [],.WB,.WB]]),some (.arr 0 4 0 [[.int .i64 a0.kind,.str a0.name,.ref false (st.length+3) gs0 0 s0.length,.WB]]),some (.arr gs0 1 16 (rows Wt s0))])
    () h (bu hsc)
    (fun gs2 s2 b2 h hx2=>?_) (fun gt2 t2 fr1 st1 h hb=>?_)
   ·unfold YD at h
    refine cd h (fun hc h=>?_) fun hc h=>?_
    ·obtain⟨fx,h⟩:=ck fx h
     refine cd h (fun hc h=>?_) fun hc h=>?_
     ·refine rn ?_
      cases h
      exact i2v () (bu hsc)
     ·refine rn ?_
      cases h
      exact i2u () (bu hsc)
    ·refine rn ?_
     cases h
     exact i2v () (bu hsc)
   ·try simp only[go_sem,fx]
    unfold d0j at h
    refine Zk hb ?_
    obtain⟨c16,r1G,h⟩:=d4o h
    have fy:=(show rows Wt s0++[[.str t2]]=rows Wt c16 from by rw[r1G];first|exact Xi (E:=Wt) s0 [t2]|simp only[go_sem,rows,List.map_append,List.map_cons,List.map_nil])
    have fy:=fa fy (show s0.length+1=c16.length from by rw[r1G];simp)
    obtain⟨fx,h⟩:=ck fx h
    refine r1 ?_
    refine rn ?_
    cases h
    exact d2U (gs0+1) (bu hsc)
  ·refine cf ?_
   refine d2V ?_;simp only[go_sem,fx]
   exact⟨gs0,(bu hsc)⟩
  ·try simp only[go_sem,fx]
   unfold d0m at h
   refine Zk hb ?_
   refine cl h (WX _) fun v21 h=>?_
   refine rn ?_
   refine d2X (Ya (Xu n) a0 Zz t0) r (fun(gj3:Unit) (j3:Int×Bs×(List Wy))=>[(1,.sl false 2 32 (rows Wy.cells j3.2.2)),(2,.fn 103 [] [.ptr o0 0 0 0,.ptr o1 0 0 0]),(3,.ptr st.length 0 0 0),(6,.ptr (st.length+1) 0 0 0),(7,.ptr (st.length+2) 0 0 0)]) (fun(gj3:Unit) (j3:Int×Bs×(List Wy))=>(WE st [(o0,(.arr 0 1 0 [[.int .i64 j3.1]])),(o1,(.arr 0 1 0 [[.sl false 1 16 (rows Wt Zz)]]))])++[some (.arr 0 4 0 [[.int .i64 a0.kind,.str a0.name,.sl false 1 16 (rows Wt a0.words),.sl false 4 72 (rows Lr.cells a0.subs)]]),some (.arr 0 4 0 [[.int .i64 0,.str [],.WB,.WB]]),some (.arr 0 4 0 [[.int .i64 a0.kind,.str j3.2.1,.ref false (st.length+3) gt0 0 t0.length,.WB]]),some (.arr gt0 1 16 (rows Wt t0))]) (fun gj3 j3 fr1 st1 h hb=>?_) (fun hj3=>?_)
   ·try simp only[go_sem,fx]
    unfold Ya at h
    refine Zk hb ?_
    refine r0 ?_
    (repeat apply sq_)
    refine d0f 4 72 ?_
    try simp only[List.append_assoc,List.cons_append,List.nil_append]
    refine Zk (F:=[(1,.sl false 2 32 (rows Wy.cells j3.2.2)),(2,.fn 103 [] [.ptr o0 0 0 0,.ptr o1 0 0 0]),(6,.ptr (st.length+1) 0 0 0),(7,.ptr (st.length+2) 0 0 0),(70,.sl false 4 72 (rows Lr.cells a0.subs)),(71,.int .i64 (↑a0.subs.length:Int)),(72,.int .i64 0)]) (T:=(WE st [(o0,(.arr 0 1 0 [[.int .i64 j3.1]])),(o1,(.arr 0 1 0 [[.sl false 1 16 (rows Wt Zz)]]))])++[some (.arr 0 4 0 [[.int .i64 a0.kind,.str a0.name,.sl false 1 16 (rows Wt a0.words),.sl false 4 72 (rows Lr.cells a0.subs)]]),some (.arr 0 4 0 [[.int .i64 0,.str [],.WB,.WB]]),some (.arr 0 4 0 [[.int .i64 a0.kind,.str j3.2.1,.ref false (st.length+3) gt0 0 t0.length,.ref false (st.length+4) 0 0 0]]),some (.arr gt0 1 16 (rows Wt t0)),some (.arr 0 4 72 (rows Lr.cells []))]) (d1O (by simp) (YP hsc (by simp<;>omega)) (.lv (.lv (.live _ _ _ _ (.arr _ _ _ _ _ (.cons _ _ _ _ (.cons _ _ _ _ .s (.cons _ _ _ _ .s (.cons _ _ _ _ .s (.cons _ _ _ _ (.nref _ _ _ _ _ _ (WT.trans rfl)) .nil)))) (.same _))) (.lv (.lv (.nil _)))))) (by simp<;>omega) ⟨.s,.s,.s,.s,.s,.s,.s,trivial⟩ (by simp<;>omega)) ?_
    refine aln 70 fun hl4=>?_
    refine rng (body:=d0k (Xu n) a0 j3 Zz) (kk:=d0l a0 j3 t0) (n:=a0.subs.length) (s0:=(j3.1,[]))
     (fun(gs4:Nat) (k4:Nat) (s4:Int×(List Lr))=>[(1,.sl false 2 32 (rows Wy.cells j3.2.2)),(2,.fn 103 [] [.ptr o0 0 0 0,.ptr o1 0 0 0]),(6,.ptr (st.length+1) 0 0 0),(7,.ptr (st.length+2) 0 0 0),(70,.sl false 4 72 (rows Lr.cells a0.subs)),(71,.int .i64 (↑a0.subs.length:Int)),(72,.int .i64 (↑k4:Int))])
     (fun(gs4:Nat) (k4:Nat) (s4:Int×(List Lr))=>(WE st [(o0,(.arr 0 1 0 [[.int .i64 s4.1]])),(o1,(.arr 0 1 0 [[.sl false 1 16 (rows Wt Zz)]]))])++[none,some (.arr 0 4 0 [[.int .i64 0,.str [],.WB,.WB]]),some (.arr 0 4 0 [[.int .i64 a0.kind,.str j3.2.1,.ref false (st.length+3) gt0 0 t0.length,.ref false (st.length+4) gs4 0 s4.2.length]]),some (.arr gt0 1 16 (rows Wt t0)),some (.arr gs4 4 72 (rows Lr.cells s4.2))])
     (fun(gt4:Nat) (t4:Int×(List Lr))=>[(6,.ptr (st.length+1) 0 0 0),(7,.ptr (st.length+2) 0 0 0)])
     (fun(gt4:Nat) (t4:Int×(List Lr))=>(WE st [(o0,(.arr 0 1 0 [[.int .i64 t4.1]])),(o1,(.arr 0 1 0 [[.sl false 1 16 (rows Wt Zz)]]))])++[none,some (.arr 0 4 0 [[.int .i64 0,.str [],.WB,.WB]]),some (.arr 0 4 0 [[.int .i64 a0.kind,.str j3.2.1,.ref false (st.length+3) gt0 0 t0.length,.ref false (st.length+4) gt4 0 t4.2.length]]),some (.arr gt0 1 16 (rows Wt t0)),some (.arr gt4 4 72 (rows Lr.cells t4.2))])
     0 fx hl4 h (bu hsc)
     (fun gs4 k4 s4 b4 fx h hx4=>?_) (fun gs4 s4=>?_) (fun gt4 t4 fr1 st1 h hb=>?_)
    ·unfold d0k at h
     refine ct ?_
     refine rn ?_
     refine dw [1,5] 2 ?_
     obtain⟨v38,hv38,h⟩:=ZA h
     refine d2Y [o0,o1] (fun st2 h2=>(ih _ _ _ _ _ hv38 st2 _ _ hnd ((h2 _ (by simp)).trans (by simp only[go_sem,fx])) ((h2 _ (by simp)).trans (by simp only[go_sem,fx])))) (by simp) (by simp only[List.mem_cons,List.not_mem_nil,or_false,forall_eq_or_imp,forall_eq];exact⟨⟨by first|omega|(simp<;>omega),_,(by simp only[go_sem,fx]<;>rfl),Ob.noConfusion⟩,⟨by first|omega|(simp<;>omega),_,(by simp only[go_sem,fx]<;>rfl),Ob.noConfusion⟩⟩) (by simp) ?_
     obtain⟨c40,p8B,h⟩:=d4o h
     have fy:=(show rows Lr.cells s4.2++[[.int .i64 v38.1.kind,.str v38.1.name,.sl false 1 16 (rows Wt v38.1.words),.sl false 4 72 (rows Lr.cells v38.1.subs)]]=rows Lr.cells c40 from by rw[p8B];first|exact Xi (E:=Lr.cells) s4.2 [v38.1]|simp only[go_sem,rows,List.map_append,List.map_cons,List.map_nil])
     have fy:=fa fy (show s4.2.length+1=c40.length from by rw[p8B];simp)
     obtain⟨fx,h⟩:=ck fx h
     try simp only[go_sem,fx,fy]
     try refine⟨by first|omega|(simp<;>omega),?_⟩
     refine rn ?_
     cases h
     exact d2U (gs4+1) (bu hsc)
    ·refine cf ?_
     refine d2V ?_;simp only[go_sem,fx]
     exact⟨gs4,(bu hsc)⟩
    ·try simp only[go_sem,fx]
     unfold d0l at h
     refine Zk hb ?_
     refine rr ?_
     exact fuo (.agg [.int .i64 a0.kind,.str j3.2.1,.sl false 1 16 (rows Wt t0),.sl false 4 72 (rows Lr.cells t4.2)]) (.agg _ _ (.cons _ _ _ _ .s (.cons _ _ _ _ .s (.cons _ _ _ _ (.ref _ _ _ _ _ _ _ _ _ (WT.trans rfl) ZK (by decide) (d5x _) (by simp only[go_sem])) (.cons _ _ _ _ (.ref _ _ _ _ _ _ _ _ _ (WT.trans rfl) ZK (by decide) (d5x _) (by simp only[go_sem])) .nil))))) h hsc
   ·refine cd h (fun hc h=>?_) fun hc h=>?_
    ·refine rn ?_
     obtain⟨v22,hv22,h⟩:=ZA h
     refine(d8Z n _ _ _ hv22 _ _ _ hnd (by simp only[go_sem,fx]) (by simp only[go_sem,fx])).mono ?_
     rintro d1 st1 ⟨rfl,rfl⟩
     refine rn ?_
     obtain⟨fx,h⟩:=ck fx h
     obtain⟨c26,p8A,h⟩:=d4o h
     have fy:=(show rows Wy.cells a1++[[.str a0.name,.str v22.1]]=rows Wy.cells c26 from by rw[p8A];first|exact Xi (E:=Wy.cells) a1 [(Wy.mk a0.name v22.1)]|simp only[go_sem,rows,List.map_append,List.map_cons,List.map_nil])
     have fy:=fa fy (show a1.length+1=c26.length from by rw[p8A];simp)
     obtain⟨fx,h⟩:=ck fx h
     refine dwy [] 2 ?_
     refine hj3 () _ _ _ h ?_;exact(bu hsc (hf:=⟨.ref _ _ _ _ _ _ _ _ _ (WT.trans rfl) (d3c (by first|decide|simp)) (by decide) (d5x _) (by simp only[go_sem]),.s,.s,.s,.s,trivial⟩))
    ·refine r0 ?_
     refine hj3 () _ _ _ h ?_;exact(bu hsc)
theorem d8A(n:Nat)(a0:Lr)(a1:(List Wy))(r:Lr)(h:d1Z n a0 a1=some r):Pure Tryz.prog gl 75 [.agg [.int .i64 a0.kind,.str a0.name,.sl false 1 16 (rows Wt a0.words),.sl false 4 72 (rows Lr.cells a0.subs)],.sl false 2 32 (rows Wy.cells a1)] (.agg [.int .i64 r.kind,.str r.name,.sl false 1 16 (rows Wt r.words),.sl false 4 72 (rows Lr.cells r.subs)]):=by
 intro st
 unfold d1Z at h
 have fx:=trivial
 refine fb 43 [.cell 4 31] [0,1,2,4,5,7,8,9,10,11,14,15,16,17,20,21,22,23,30] Tryz.func75 fun hsc=>?_
 refine cl h (d4a n _) fun v1 h=>?_
 refine aln 1 fun hl0=>?_
 refine rng (body:=d3h v1 a1) (kk:=d0n n a0 a1 v1) (n:=a1.length) (s0:=())
  (fun(gs0:Unit) (k0:Nat) (s0:Unit)=>[(1,.sl false 2 32 (rows Wy.cells a1)),(2,.ptr st.length 0 0 0),(4,.ptr (st.length+1) 0 0 0),(5,.ptr (st.length+2) 0 0 0),(14,.sl false 2 32 (rows Wy.cells a1)),(15,.int .i64 (↑a1.length:Int)),(16,.int .i64 (↑k0:Int))])
  (fun(gs0:Unit) (k0:Nat) (s0:Unit)=>st++[some (.arr 0 4 0 [[.int .i64 a0.kind,.str a0.name,.sl false 1 16 (rows Wt a0.words),.sl false 4 72 (rows Lr.cells a0.subs)]]),some (.arr 0 4 0 [[.int .i64 0,.str [],.WB,.WB]]),some (.arr 0 1 0 [[.sl false 1 16 (rows Wt v1)]])])
  (fun(gt0:Unit) (t0:Unit)=>[(1,.sl false 2 32 (rows Wy.cells a1)),(2,.ptr st.length 0 0 0),(4,.ptr (st.length+1) 0 0 0),(5,.ptr (st.length+2) 0 0 0)])
  (fun(gt0:Unit) (t0:Unit)=>st++[some (.arr 0 4 0 [[.int .i64 a0.kind,.str a0.name,.sl false 1 16 (rows Wt a0.words),.sl false 4 72 (rows Lr.cells a0.subs)]]),some (.arr 0 4 0 [[.int .i64 0,.str [],.WB,.WB]]),some (.arr 0 1 0 [[.sl false 1 16 (rows Wt v1)]])])
  () fx hl0 h (bm hsc)
  (fun gs0 k0 s0 b0 fx h hx0=>?_) (fun gs0 s0=>?_) (fun gt0 t0 fr1 st1 h hb=>?_)
 ·unfold d3h at h
  refine ct ?_
  refine aln 20 fun hl1=>?_
  refine rng (body:=d3f v1 a1 k0) (kk:=d3g) (n:=v1.length) (s0:=())
   (fun(gs1:Unit) (k1:Nat) (s1:Unit)=>[(1,.sl false 2 32 (rows Wy.cells a1)),(2,.ptr st.length 0 0 0),(4,.ptr (st.length+1) 0 0 0),(5,.ptr (st.length+2) 0 0 0),(7,.ptr (st.length+3) 0 0 0),(14,.sl false 2 32 (rows Wy.cells a1)),(15,.int .i64 (↑a1.length:Int)),(16,.int .i64 (↑k0:Int)),(20,.sl false 1 16 (rows Wt v1)),(21,.int .i64 (↑v1.length:Int)),(22,.int .i64 (↑k1:Int))])
   (fun(gs1:Unit) (k1:Nat) (s1:Unit)=>st++[some (.arr 0 4 0 [[.int .i64 a0.kind,.str a0.name,.sl false 1 16 (rows Wt a0.words),.sl false 4 72 (rows Lr.cells a0.subs)]]),some (.arr 0 4 0 [[.int .i64 0,.str [],.WB,.WB]]),some (.arr 0 1 0 [[.sl false 1 16 (rows Wt v1)]]),some (.arr 0 2 0 [[.str ((get a1 k0).from_),.str ((get a1 k0).to_)]])])
   (fun(gt1:Unit) (t1:Unit)=>[(1,.sl false 2 32 (rows Wy.cells a1)),(2,.ptr st.length 0 0 0),(4,.ptr (st.length+1) 0 0 0),(5,.ptr (st.length+2) 0 0 0),(14,.sl false 2 32 (rows Wy.cells a1)),(15,.int .i64 (↑a1.length:Int)),(16,.int .i64 (↑k0:Int))])
   (fun(gt1:Unit) (t1:Unit)=>st++[some (.arr 0 4 0 [[.int .i64 a0.kind,.str a0.name,.sl false 1 16 (rows Wt a0.words),.sl false 4 72 (rows Lr.cells a0.subs)]]),some (.arr 0 4 0 [[.int .i64 0,.str [],.WB,.WB]]),some (.arr 0 1 0 [[.sl false 1 16 (rows Wt v1)]])])
   () fx hl1 h (bm hsc)
   (fun gs1 k1 s1 b1 fx h hx1=>?_) (fun gs1 s1=>?_) (fun gt1 t1 fr1 st1 h hb=>?_)
  ·unfold d3f at h
   refine ct ?_
   refine cd h (fun hc h=>?_) fun hc h=>?_
   ·cases h
   ·refine rn ?_
    cases h
    exact d2U () (bm hsc)
  ·refine cf ?_
   refine d2V ?_;simp only[go_sem,fx]
   exact⟨(),(bm hsc)⟩
  ·try simp only[go_sem,fx]
   unfold d3g at h
   refine Zk hb ?_
   refine rn ?_
   cases h
   exact d2U () (bm hsc)
 ·refine cf ?_
  refine d2V ?_;simp only[go_sem,fx]
  exact⟨(),(bm hsc)⟩
 ·try simp only[go_sem,fx]
  unfold d0n at h
  refine Zk hb ?_
  refine rn ?_
  obtain⟨v2,hv2,h⟩:=ZA h
  refine(d8z n _ _ _ _ _ hv2 _ _ _ (by simp) (d4H.trans rfl) (d4H.trans rfl)).mono ?_
  rintro d1 st1 ⟨rfl,rfl⟩
  exact rt
theorem d6b(n:Nat)(a0:Lr)(r:Lr)(h:d0u n a0=some r):Pure Tryz.prog gl 47 [.agg [.int .i64 a0.kind,.str a0.name,.sl false 1 16 (rows Wt a0.words),.sl false 4 72 (rows Lr.cells a0.subs)]] (.agg [.int .i64 r.kind,.str r.name,.sl false 1 16 (rows Wt r.words),.sl false 4 72 (rows Lr.cells r.subs)]):=by
 intro st
 unfold d0u at h
 have fx:=trivial
 refine fb 5 [.cell 2 31] [0,1,2] Tryz.func47 fun hsc=>?_
 refine cl h (up (d8A n _ _) (fun _=>(.cons _ _ _ _ .s (.cons _ _ _ _ (.WB _ _ _ (by decide)) .nil)))) fun v1 h=>?_
 exact rt
theorem d6J(n:Nat)(a0:(List Wq))(a1:Lr)(r:Lr×(List Wp)×Bool)(h:Yo n a0 a1=some r):Pure Tryz.prog gl 39 [.sl false 11 216 (rows Wq.cells a0),.agg [.int .i64 a1.kind,.str a1.name,.sl false 1 16 (rows Wt a1.words),.sl false 4 72 (rows Lr.cells a1.subs)]] (.tup [.agg [.int .i64 r.1.kind,.str r.1.name,.sl false 1 16 (rows Wt r.1.words),.sl false 4 72 (rows Lr.cells r.1.subs)],.sl false 2 16 (rows Wp.cells r.2.1),.bool r.2.2]):=by
 intro st
 unfold Yo at h
 have fx:=trivial
 refine fb 42 [.cell 4 31,.tmp 5,.tmp 6] [0,1,3,4,5,6,7,8,9,10,28] Tryz.func39 fun hsc=>?_
 refine r0 ?_
 refine r0 ?_
 (repeat apply sq_)
 refine d0f 2 16 ?_
 try simp only[List.append_assoc,List.cons_append,List.nil_append]
 refine Zk (F:=[(3,.ptr st.length 0 0 0),(4,.ptr (st.length+1) 0 0 0),(7,.ptr (st.length+3) 0 0 0)]) (T:=st++[some (.arr 0 4 0 [[.int .i64 a1.kind,.str a1.name,.sl false 1 16 (rows Wt a1.words),.sl false 4 72 (rows Lr.cells a1.subs)]]),some (.arr 0 4 0 [[.int .i64 0,.str [],.WB,.WB]]),some (.mps false (mrw d1r [])),some (.arr 0 4 0 [[.sl false 11 216 (rows Wq.cells a0),.mp (st.length+2),.ref false (st.length+4) 0 0 0,.int .i64 0]]),some (.arr 0 2 16 (rows Wp.cells []))]) (i8C hsc (.lv (.lv (.lv (.live _ _ _ _ (.arr _ _ _ _ _ (.cons _ _ _ _ (.cons _ _ _ _ .s (.cons _ _ _ _ .s (.cons _ _ _ _ (.nref _ _ _ _ _ _ (i2t.trans rfl)) (.cons _ _ _ _ .s .nil)))) (.same _))) (.lv (.nil _)))))) (by simp) ⟨.s,.s,.s,trivial⟩ (by simp)) ?_
 refine rn ?_
 obtain⟨v1,hv1,h⟩:=ZA h
 refine(d7a n _ _ _ _ _ _ hv1 _ _ _ _ 0 (by simp) (d4H.trans rfl) (d4H.trans rfl) (d4H.trans rfl)).mono ?_
 rintro d1 st1 ⟨rfl,rfl⟩
 refine rn ?_
 obtain⟨v2,hv2,h⟩:=ZA h
 refine(d6x n _ _ _ _ _ _ _ hv2 _ _ _ _ 0 (by simp) (d4H.trans rfl) (d4H.trans rfl) (d4H.trans rfl)).mono ?_
 rintro d1 st1 ⟨rfl,rfl⟩
 refine rn ?_
 obtain⟨v3,hv3,h⟩:=ZA h
 refine(d7c n _ _ _ _ _ _ _ hv3 _ _ _ _ 0 (by simp) (d4H.trans rfl) (d4H.trans rfl) (d4H.trans rfl)).mono ?_
 rintro d1 st1 ⟨rfl,rfl⟩
 refine cd h (fun hc h=>?_) fun hc h=>?_
 ·refine rr ?_
  exact fo (.tup [.agg [.int .i64 0,.str [],.sl false 1 16 (rows Wt []),.sl false 4 72 (rows Lr.cells [])],.sl false 2 16 (rows Wp.cells []),.bool false]) (.tup _ _ (.cons _ _ _ _ (.agg _ _ (.cons _ _ _ _ .s (.cons _ _ _ _ .s (.cons _ _ _ _ (.WB _ _ _ (by decide)) (.cons _ _ _ _ (.WB _ _ _ (by decide)) .nil))))) (.cons _ _ _ _ (.WB _ _ _ (by decide)) (.cons _ _ _ _ .s .nil))) rfl) h hsc
 ·refine rn ?_
  obtain⟨v4,hv4,h⟩:=ZA h
  refine(d1W _ _ hv4 _ _ v3.2.2.2.length (by simp) (d4H.trans rfl)).mono ?_
  rintro d1 st1 ⟨rfl,rfl⟩
  try simp only[go_sem,fx]
  have e5:D.ref false (st.length+4) v3.2.2.2.length 0 v3.2.2.2.length=D.ref false (st.length+4) v3.2.2.2.length 0 v4.length:=by rw[d1M hv4]
  try simp only[e5]
  refine rs ?_
  refine dw [6,7] 0 ?_
  obtain⟨v6,hv6,h⟩:=ZA h
  refine d1v (d6b n _ _ hv6) ?_
  try simp only[go_sem,fx]
  try refine⟨by first|omega|(simp<;>omega),?_⟩
  refine rr ?_
  exact fo (.tup [.agg [.int .i64 v6.kind,.str v6.name,.sl false 1 16 (rows Wt v6.words),.sl false 4 72 (rows Lr.cells v6.subs)],.sl false 2 16 (rows Wp.cells v4),.bool true]) (.tup _ _ (.cons _ _ _ _ .s (.cons _ _ _ _ (.ref _ _ _ _ _ _ _ _ _ (i2t.trans rfl) p2p (by decide) (d5x _) (by simp only[go_sem])) (.cons _ _ _ _ .s .nil))) rfl) h hsc
theorem d3C(n:Nat)(a0:(List Wq))(a1:Lr)(r:Lr×WC)(h:Zg n a0 a1=some r):Pure Tryz.prog gl 13 [.sl false 11 216 (rows Wq.cells a0),.agg [.int .i64 a1.kind,.str a1.name,.sl false 1 16 (rows Wt a1.words),.sl false 4 72 (rows Lr.cells a1.subs)]] (.tup [.agg [.int .i64 r.1.kind,.str r.1.name,.sl false 1 16 (rows Wt r.1.words),.sl false 4 72 (rows Lr.cells r.1.subs)],.agg [.int .i64 r.2.code,.int .i64 r.2.index]]):=by
 intro st
 unfold Zg at h
 have fx:=trivial
 refine fb 31 [.cell 4 31,.cell 5 25] [0,1,3,4,5,6,7,9,15,26] Tryz.func13 fun hsc=>?_
 refine cl h (d5w n _ _) fun v1 h=>?_
 refine cd h (fun hc h=>?_) fun hc h=>?_
 ·refine rs ?_
  refine dw [1,2] 0 ?_
  try refine⟨by first|omega|(simp<;>omega),?_⟩
  refine rr ?_
  exact fo (.tup [.agg [.int .i64 0,.str [],.sl false 1 16 (rows Wt []),.sl false 4 72 (rows Lr.cells [])],.agg [.int .i64 v1.code,.int .i64 v1.index]]) (.tup _ _ (.cons _ _ _ _ (.agg _ _ (.cons _ _ _ _ .s (.cons _ _ _ _ .s (.cons _ _ _ _ (.WB _ _ _ (by decide)) (.cons _ _ _ _ (.WB _ _ _ (by decide)) .nil))))) (.cons _ _ _ _ .s .nil)) rfl) h hsc
 ·refine cl h (d6J n _ _) fun v2 h=>?_
  refine cd h (fun hc h=>?_) fun hc h=>?_
  ·refine cl h (Yt _ _) fun v3 h=>?_
   refine rr ?_
   exact fo (.tup [.agg [.int .i64 0,.str [],.sl false 1 16 (rows Wt []),.sl false 4 72 (rows Lr.cells [])],.agg [.int .i64 v3.code,.int .i64 v3.index]]) (.tup _ _ (.cons _ _ _ _ (.agg _ _ (.cons _ _ _ _ .s (.cons _ _ _ _ .s (.cons _ _ _ _ (.WB _ _ _ (by decide)) (.cons _ _ _ _ (.WB _ _ _ (by decide)) .nil))))) (.cons _ _ _ _ .s .nil)) rfl) h hsc
  ·exact rt
theorem d9a(n:Nat)(a0:(List Wq))(a1:Lr)(r:(List Wp)×WC)(h:d5s n a0 a1=some r):Pure Tryz.prog gl 14 [.sl false 11 216 (rows Wq.cells a0),.agg [.int .i64 a1.kind,.str a1.name,.sl false 1 16 (rows Wt a1.words),.sl false 4 72 (rows Lr.cells a1.subs)]] (.tup [.sl false 2 16 (rows Wp.cells r.1),.agg [.int .i64 r.2.code,.int .i64 r.2.index]]):=by
 intro st
 unfold d5s at h
 have fx:=trivial
 refine fb 29 [.tmp 4,.cell 5 25] [0,1,3,4,5,6,8,9,15,25] Tryz.func14 fun hsc=>?_
 refine cl h (d5w n _ _) fun v1 h=>?_
 refine cd h (fun hc h=>?_) fun hc h=>?_
 ·refine rs ?_
  refine dw [] 0 ?_
  refine rr ?_
  exact fo (.tup [.sl false 2 16 (rows Wp.cells []),.agg [.int .i64 v1.code,.int .i64 v1.index]]) (.tup _ _ (.cons _ _ _ _ (.WB _ _ _ (by decide)) (.cons _ _ _ _ .s .nil)) rfl) h hsc
 ·refine cl h (d6J n _ _) fun v2 h=>?_
  refine cd h (fun hc h=>?_) fun hc h=>?_
  ·refine cl h (Yt _ _) fun v3 h=>?_
   refine rr ?_
   exact fo (.tup [.sl false 2 16 (rows Wp.cells []),.agg [.int .i64 v3.code,.int .i64 v3.index]]) (.tup _ _ (.cons _ _ _ _ (.WB _ _ _ (by decide)) (.cons _ _ _ _ .s .nil)) rfl) h hsc
  ·exact rt
end Go.Proofs.YtfacbpehlibilaaGreatDoor
