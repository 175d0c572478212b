import Derived.Test.YtfogbhjeihkliaaGreatDoorDXWalk8
set_option linter.unusedVariables false
set_option linter.unusedSimpArgs false
set_option maxHeartbeats 2000000
set_option maxRecDepth 100000
namespace Go.Proofs.YtfogbhjeihkliaaGreatDoor
open Go Go.Am
theorem ou(a0:B3)(r:Int)(h:S2 a0=some r):Pure Tryz.prog gl 90 [.agg [.sl false 2 32 (rows y4.cells a0.nodes)]] (.int .i64 r):=by
 intro st
 unfold S2 at h
 have fx:=trivial
 refine fb 47 [.tmp 2] [0,1,2,3,4,5,7,16,17,18,20,21,22,23,28,29,30,31,37] Tryz.func90 fun hsc=>?_
 refine r0 ?_
 obtain⟨fx,h⟩:=ck fx h
 have fy:=(show List.replicate a0.nodes.length [.bool false]=rows J9 (List.replicate a0.nodes.length (default:Bool))from tP (E:=J9) _ default)
 refine r1 ?_
 obtain⟨fx,h⟩:=ck fx h
 have fy:=(show(rows J9 (List.replicate a0.nodes.length (default:Bool))).getD 0 []=J9 (get (List.replicate a0.nodes.length (default:Bool)) 0)from qg (E:=J9) (l:=(List.replicate a0.nodes.length (default:Bool))) (k:=0) (by first|omega|(simp;omega)))
 have fy:=fa fy (show 0<a0.nodes.length from by first|omega|(simp;omega))
 obtain⟨c7,hc7,h⟩:=oz h
 have fy:=fa fy (show(rows J9 (List.replicate a0.nodes.length (default:Bool))).set 0 [.bool true]=rows J9 c7 from by rw[hc7];first|exact CF (E:=J9) _ _ _|simp only[go_sem,rows,List.map_set])
 refine r1 ?_
 have e9:D.ref true (st.length+1) 0 0 a0.nodes.length=D.ref true (st.length+1) 0 0 c7.length:=by simp[hc7]
 simp only[e9]
 obtain⟨fx,h⟩:=ck fx h
 refine rn ?_
 refine rng (body:=Z9 a0) (kk:=au) (n:=a0.nodes.length) (s0:=c7)
  (fun(gs0:Nat) (k0:Nat) (s0:(List Bool))=>[(1,.ptr st.length 0 0 0),(3,.ref true (st.length+1) gs0 0 s0.length),(16,.int .i64 (↑a0.nodes.length:Int)),(17,.int .i64 (↑k0:Int))])
  (fun(gs0:Nat) (k0:Nat) (s0:(List Bool))=>st++[some (.arr 0 1 0 [[.sl false 2 32 (rows y4.cells a0.nodes)]]),some (.arr gs0 1 1 (rows J9 s0))])
  (fun(gt0:Nat) (t0:(List Bool))=>[(3,.ref true (st.length+1) gt0 0 t0.length)])
  (fun(gt0:Nat) (t0:(List Bool))=>st++[none,some (.arr gt0 1 1 (rows J9 t0))])
  0 fx fx.2 h (bm hsc)
  (fun gs0 k0 s0 b0 fx h hx0=>?_) (fun gs0 s0=>?_) (fun gt0 t0 fr1 st1 h hb=>?_)
 ·unfold Z9 at h
  refine ct ?_
  refine aln 20 fun hl4=>?_
  refine rng (body:=ah a0) (kk:=aq) (n:=a0.nodes.length) (s0:=s0)
   (fun(gs4:Nat) (k4:Nat) (s4:(List Bool))=>[(1,.ptr st.length 0 0 0),(3,.ref true (st.length+1) gs4 0 s4.length),(16,.int .i64 (↑a0.nodes.length:Int)),(17,.int .i64 (↑k0:Int)),(20,.sl false 2 32 (rows y4.cells a0.nodes)),(21,.int .i64 (↑a0.nodes.length:Int)),(22,.int .i64 (↑k4:Int))])
   (fun(gs4:Nat) (k4:Nat) (s4:(List Bool))=>st++[some (.arr 0 1 0 [[.sl false 2 32 (rows y4.cells a0.nodes)]]),some (.arr gs4 1 1 (rows J9 s4))])
   (fun(gt4:Nat) (t4:(List Bool))=>[(1,.ptr st.length 0 0 0),(3,.ref true (st.length+1) gt4 0 t4.length),(16,.int .i64 (↑a0.nodes.length:Int)),(17,.int .i64 (↑k0:Int))])
   (fun(gt4:Nat) (t4:(List Bool))=>st++[some (.arr 0 1 0 [[.sl false 2 32 (rows y4.cells a0.nodes)]]),some (.arr gt4 1 1 (rows J9 t4))])
   gs0 fx hl4 h (bm hsc)
   (fun gs4 k4 s4 b4 fx h hx4=>?_) (fun gs4 s4=>?_) (fun gt4 t4 fr1 st1 h hb=>?_)
  ·unfold ah at h
   refine ct ?_
   refine aln 28 fun hl6=>?_
   refine rng (body:=aj k4 a0) (kk:=ak) (n:=((get a0.nodes k4).links).length) (s0:=s4)
    (fun(gs6:Nat) (k6:Nat) (s6:(List Bool))=>[(1,.ptr st.length 0 0 0),(3,.ref true (st.length+1) gs6 0 s6.length),(4,.int .i64 (↑k4:Int)),(16,.int .i64 (↑a0.nodes.length:Int)),(17,.int .i64 (↑k0:Int)),(20,.sl false 2 32 (rows y4.cells a0.nodes)),(21,.int .i64 (↑a0.nodes.length:Int)),(22,.int .i64 (↑k4:Int)),(28,.sl false 2 16 (rows G5.cells ((get a0.nodes k4).links))),(29,.int .i64 (↑(((get a0.nodes k4).links).length):Int)),(30,.int .i64 (↑k6:Int))])
    (fun(gs6:Nat) (k6:Nat) (s6:(List Bool))=>st++[some (.arr 0 1 0 [[.sl false 2 32 (rows y4.cells a0.nodes)]]),some (.arr gs6 1 1 (rows J9 s6))])
    (fun(gt6:Nat) (t6:(List Bool))=>[(1,.ptr st.length 0 0 0),(3,.ref true (st.length+1) gt6 0 t6.length),(16,.int .i64 (↑a0.nodes.length:Int)),(17,.int .i64 (↑k0:Int)),(20,.sl false 2 32 (rows y4.cells a0.nodes)),(21,.int .i64 (↑a0.nodes.length:Int)),(22,.int .i64 (↑k4:Int))])
    (fun(gt6:Nat) (t6:(List Bool))=>st++[some (.arr 0 1 0 [[.sl false 2 32 (rows y4.cells a0.nodes)]]),some (.arr gt6 1 1 (rows J9 t6))])
    gs4 fx hl6 h (bm hsc)
    (fun gs6 k6 s6 b6 fx h hx6=>?_) (fun gs6 s6=>?_) (fun gt6 t6 fr1 st1 h hb=>?_)
   ·unfold aj at h
    refine ct ?_
    refine r0 ?_
    refine r0 ?_
    refine r0 ?_
    obtain⟨fx,h⟩:=ck fx h
    have fy:=(show(rows J9 s6).getD k4 []=J9 (get s6 k4)from qg (E:=J9) (l:=s6) (k:=k4) (by first|omega|(simp;omega)))
    have fy:=fa fy (show k4<s6.length from by first|omega|(simp;omega))
    refine r1 ?_
    refine cd h (fun hc h=>?_) fun hc h=>?_
    ·obtain⟨fx,h⟩:=ck fx h
     have fy:=(show(rows J9 s6).getD (((get ((get a0.nodes k4).links) k6).to_).toNat) []=J9 (get s6 (((get ((get a0.nodes k4).links) k6).to_).toNat))from qg (E:=J9) (l:=s6) (k:=((get ((get a0.nodes k4).links) k6).to_).toNat) (by first|omega|(simp;omega)))
     have fy:=fa fy (show((get ((get a0.nodes k4).links) k6).to_).toNat<s6.length from by first|omega|(simp;omega))
     obtain⟨c88,Vl,h⟩:=oz h
     have fy:=fa fy (show(rows J9 s6).set (((get ((get a0.nodes k4).links) k6).to_).toNat) [.bool true]=rows J9 c88 from by rw[Vl];first|exact CF (E:=J9) _ _ _|simp only[go_sem,rows,List.map_set])
     refine r1 ?_
     have e90:D.ref true (st.length+1) gs6 0 s6.length=D.ref true (st.length+1) gs6 0 c88.length:=by simp[Vl]
     simp only[e90]
     refine rn ?_
     cases h
     exact gW gs6 (bm hsc)
    ·refine rn ?_
     cases h
     exact gW gs6 (bm hsc)
   ·refine cf ?_
    refine gV ?_;simp only[go_sem,fx]
    exact⟨gs6,(bm hsc)⟩
   ·try simp only[go_sem,fx]
    unfold ak at h
    refine R4 hb ?_
    refine rn ?_
    cases h
    exact gW gt6 (bm hsc)
  ·refine cf ?_
   refine gV ?_;simp only[go_sem,fx]
   exact⟨gs4,(bm hsc)⟩
  ·try simp only[go_sem,fx]
   unfold aq at h
   refine R4 hb ?_
   refine rn ?_
   cases h
   exact gW gt4 (bm hsc)
 ·refine cf ?_
  refine gV ?_;simp only[go_sem,fx]
  exact⟨gs0,(bm hsc)⟩
 ·try simp only[go_sem,fx]
  unfold au at h
  refine R4 hb ?_
  refine rn ?_
  obtain⟨v91,hv91,h⟩:=F9 h
  refine((ly _ _ _ hv91).borrow (args:=[.ref true (st.length+1) gt0 0 t0.length,.bool false]) (.cons _ _ _ _ (.ref _ _ _ _ _ _ _ _ _ (pL.trans rfl) tS (by decide) (ru _) (by simp only[go_sem])) (.cons _ _ _ _ .s .nil)) (by simp) rfl ) ?_
  exact rt
theorem cr(n:Nat)(a0:y6)(a1:B3)(r:w9)(h:L1 n a0 a1=some r):Pure Tryz.prog gl 60 [.agg [.sl false 2 40 (rows x7.cells a0.types),.sl false 3 32 (rows y8.cells a0.C1)],.agg [.sl false 2 32 (rows y4.cells a1.nodes)]] (.agg [.int .i64 r.code,.int .i64 r.index]):=by
 intro st
 unfold L1 at h
 have fx:=trivial
 refine fb 74 [.cell 4 37] [0,1,2,3,4,5,6,7,9,10,11,17,20,21,22,23,28,29,30,31,49,50,51,52,53,54,55,56,57,58,59,60,61,62,70] Tryz.func60 fun hsc=>?_
 refine cl h (nj _ _) fun v1 h=>?_
 refine cd h (fun hc h=>?_) fun hc h=>?_
 ·exact rt
 ·refine aln 20 fun hl0=>?_
  refine rng (body:=W7 n a1 a0) (kk:=X0 a1) (n:=a1.nodes.length) (s0:=())
   (fun(gs0:Unit) (k0:Nat) (s0:Unit)=>[(2,.ptr st.length 0 0 0),(3,.ptr (st.length+1) 0 0 0),(4,.ptr (st.length+2) 0 0 0),(20,.sl false 2 32 (rows y4.cells a1.nodes)),(21,.int .i64 (↑a1.nodes.length:Int)),(22,.int .i64 (↑k0:Int))])
   (fun(gs0:Unit) (k0:Nat) (s0:Unit)=>st++[some (.arr 0 2 0 [[.sl false 2 40 (rows x7.cells a0.types),.sl false 3 32 (rows y8.cells a0.C1)]]),some (.arr 0 1 0 [[.sl false 2 32 (rows y4.cells a1.nodes)]]),some (.arr 0 2 0 [[.int .i64 0,.int .i64 0]])])
   (fun(gt0:Unit) (t0:Unit)=>[(3,.ptr (st.length+1) 0 0 0),(4,.ptr (st.length+2) 0 0 0)])
   (fun(gt0:Unit) (t0:Unit)=>st++[none,some (.arr 0 1 0 [[.sl false 2 32 (rows y4.cells a1.nodes)]]),some (.arr 0 2 0 [[.int .i64 0,.int .i64 0]])])
   () fx hl0 h (bm hsc)
   (fun gs0 k0 s0 b0 fx h hx0=>?_) (fun gs0 s0=>?_) (fun gt0 t0 fr1 st1 h hb=>?_)
  ·unfold W7 at h
   refine ct ?_
   refine aln 28 fun hl2=>?_
   refine rng (body:=W8 n a1 k0 a0) (kk:=W9) (n:=((get a1.nodes k0).links).length) (s0:=())
    (fun(gs2:Unit) (k2:Nat) (s2:Unit)=>[(2,.ptr st.length 0 0 0),(3,.ptr (st.length+1) 0 0 0),(4,.ptr (st.length+2) 0 0 0),(6,.int .i64 (↑k0:Int)),(7,.ptr (st.length+3) 0 0 0),(20,.sl false 2 32 (rows y4.cells a1.nodes)),(21,.int .i64 (↑a1.nodes.length:Int)),(22,.int .i64 (↑k0:Int)),(28,.sl false 2 16 (rows G5.cells ((get a1.nodes k0).links))),(29,.int .i64 (↑(((get a1.nodes k0).links).length):Int)),(30,.int .i64 (↑k2:Int))])
    (fun(gs2:Unit) (k2:Nat) (s2:Unit)=>st++[some (.arr 0 2 0 [[.sl false 2 40 (rows x7.cells a0.types),.sl false 3 32 (rows y8.cells a0.C1)]]),some (.arr 0 1 0 [[.sl false 2 32 (rows y4.cells a1.nodes)]]),some (.arr 0 2 0 [[.int .i64 0,.int .i64 0]]),some (.arr 0 2 0 [[.int .i64 ((get a1.nodes k0).type),.sl false 2 16 (rows G5.cells ((get a1.nodes k0).links))]])])
    (fun(gt2:Unit) (t2:Unit)=>[(2,.ptr st.length 0 0 0),(3,.ptr (st.length+1) 0 0 0),(4,.ptr (st.length+2) 0 0 0),(20,.sl false 2 32 (rows y4.cells a1.nodes)),(21,.int .i64 (↑a1.nodes.length:Int)),(22,.int .i64 (↑k0:Int))])
    (fun(gt2:Unit) (t2:Unit)=>st++[some (.arr 0 2 0 [[.sl false 2 40 (rows x7.cells a0.types),.sl false 3 32 (rows y8.cells a0.C1)]]),some (.arr 0 1 0 [[.sl false 2 32 (rows y4.cells a1.nodes)]]),some (.arr 0 2 0 [[.int .i64 0,.int .i64 0]])])
    () fx hl2 h (bm hsc)
    (fun gs2 k2 s2 b2 fx h hx2=>?_) (fun gs2 s2=>?_) (fun gt2 t2 fr1 st1 h hb=>?_)
   ·unfold W8 at h
    refine ct ?_
    obtain⟨fx,h⟩:=ck fx h
    refine rn ?_
    refine dw [] 0 ?_
    obtain⟨v25,hv25,h⟩:=F9 h
    refine A9 (iP n _ _ _ _ hv25) ?_
    obtain⟨fx,h⟩:=ck fx h
    try simp only[go_sem,fx]
    obtain⟨v29,hv29,h⟩:=F9 h
    refine fT (fun hG=>(iP n _ _ _ _ (tO hv29 (by simpa using hG)))) ?_
    try simp only[go_sem,fx]
    refine cd h (fun hc h=>?_) fun hc h=>?_
    ·refine ra ?_
     cases h
     refine F4 ?_;obtain rfl:=hx2 _ rfl;try simp only[go_sem,fx]
     refine F4 ?_;have h:=congrArg some (hx0 _ rfl)
     exact rt
    ·refine rn ?_
     cases h
     exact gW () (bm hsc)
   ·refine cf ?_
    refine gV ?_;simp only[go_sem,fx]
    exact⟨(),(bm hsc)⟩
   ·try simp only[go_sem,fx]
    unfold W9 at h
    refine R4 hb ?_
    refine rn ?_
    cases h
    exact gW () (bm hsc)
  ·refine cf ?_
   refine gV ?_;simp only[go_sem,fx]
   exact⟨(),(bm hsc)⟩
  ·try simp only[go_sem,fx]
   unfold X0 at h
   refine R4 hb ?_
   refine cl h (ou _) fun v30 h=>?_
   refine cd h (fun hc h=>?_) fun hc h=>?_
   ·exact rt
   ·exact rt
theorem pZ(a0:B3)(a1:Int)(a2:Int)(r:Int)(h:bH a0 a1 a2=some r):Pure Tryz.prog gl 85 [.agg [.sl false 2 32 (rows y4.cells a0.nodes)],.int .i64 a1,.int .i64 a2] (.int .i64 r):=by
 intro st
 unfold bH at h
 have fx:=trivial
 refine fb 27 [.tmp 6] [0,1,2,3,6,8,14,15,16,17,23] Tryz.func85 fun hsc=>?_
 obtain⟨fx,h⟩:=ck fx h
 refine aln 14 fun hl0=>?_
 refine rng (body:=bP a0 a1 a2) (kk:=bQ) (n:=((get a0.nodes a1.toNat).links).length) (s0:=())
  (fun(gs0:Unit) (k0:Nat) (s0:Unit)=>[(2,.int .i64 a2),(14,.sl false 2 16 (rows G5.cells ((get a0.nodes a1.toNat).links))),(15,.int .i64 (↑(((get a0.nodes a1.toNat).links).length):Int)),(16,.int .i64 (↑k0:Int))])
  (fun(gs0:Unit) (k0:Nat) (s0:Unit)=>st)
  (fun(gt0:Unit) (t0:Unit)=>[])
  (fun(gt0:Unit) (t0:Unit)=>st)
  () fx hl0 h (bm0 hsc)
  (fun gs0 k0 s0 b0 fx h hx0=>?_) (fun gs0 s0=>?_) (fun gt0 t0 fr1 st1 h hb=>?_)
 ·unfold bP at h
  refine ct ?_
  refine cd h (fun hc h=>?_) fun hc h=>?_
  ·refine ra ?_
   cases h
   refine F4 ?_;have h:=congrArg some (hx0 _ rfl)
   exact rt
  ·refine rn ?_
   cases h
   exact gW () (bm0 hsc)
 ·refine cf ?_
  refine gV ?_;simp only[go_sem,fx]
  exact⟨(),(gX hsc)⟩
 ·try simp only[go_sem,fx]
  unfold bQ at h
  refine R4 hb ?_
  exact rt
theorem pX(a0:w6)(r:Bool)(h:bI a0=some r):Pure Tryz.prog gl 131 [.agg [.str a0.base,.sl false 2 40 (rows w6.cells a0.args)]] (.bool r):=by
 intro st
 unfold bI at h
 have fx:=trivial
 refine fb 12 [.tmp 2] [0,1,2,7,8,9,10] Tryz.func131 fun hsc=>?_
 exact rt
theorem qP(n:Nat)(a0:Bs)(r:Bool)(h:dc n a0=some r):Pure Tryz.prog gl 132 [.str a0] (.bool r):=by
 intro st
 unfold dc at h
 have fx:=trivial
 refine fb 62 [.tmp 2] [0,2,3,4,5,10,11,12,13,17,25,26,27,28,35,36,37,38,41,42,43,44,47,48,49,50,55,56,57,58,59,60,61] Tryz.func132 fun hsc=>?_
 refine cd h (fun hc h=>?_) fun hc h=>?_
 ·exact rt
 ·refine rn ?_
  refine E8 (body:=dI a0) (kk:=gR) (n:=n) (s0:=0)
   (fun(gs0:Unit) (s0:Int)=>[(0,.str a0),(3,.int .i64 s0)])
   (fun(gs0:Unit) (s0:Int)=>st)
   (fun(gt0:Unit) (t0:Unit)=>[])
   (fun(gt0:Unit) (t0:Unit)=>st)
   () h (gX hsc)
   (fun gs0 s0 b0 h hx0=>?_) (fun gt0 t0 fr1 st1 h hb=>?_)
  ·unfold dI at h
   refine cd h (fun hc h=>?_) fun hc h=>?_
   ·obtain⟨fx,h⟩:=ck fx h
    refine cd h (fun hc h=>?_) fun hc h=>?_
    ·refine ra ?_
     cases h
     refine aP ?_;have h:=congrArg some (hx0 _ rfl)
     exact rt
    ·refine rn ?_
     cases h
     exact F5 () (gX hsc)
   ·refine rn ?_
    cases h
    exact K7 () (gX hsc)
  ·try simp only[go_sem,fx]
   unfold gR at h
   refine R4 hb ?_
   exact rt
theorem mH(n:Nat)(a0:w6)(r:Int)(h:U4 n a0=some r):Pure Tryz.prog gl 133 [.agg [.str a0.base,.sl false 2 40 (rows w6.cells a0.args)]] (.int .i64 r):=by
 intro st
 unfold U4 at h
 have fx:=trivial
 refine fb 79 [.tmp 2] [0,1,2,3,4,5,11,28,29,30,31,35,40,67,68,69,70,73,74,75,76,77,78] Tryz.func133 fun hsc=>?_
 refine rn ?_
 refine E8 (body:=F7) (kk:=X1) (n:=n) (s0:=([(y7.mk a0 1)],0,1))
  (fun(gs0:Nat) (s0:(List y7)×Int×Nat)=>[(3,.ref false (st.length+1) gs0 0 s0.2.2),(4,.int .i64 s0.2.1)])
  (fun(gs0:Nat) (s0:(List y7)×Int×Nat)=>st++[none,some (.arr gs0 3 48 (rows y7.cells s0.1))])
  (fun(gt0:Unit) (t0:Unit)=>[])
  (fun(gt0:Unit) (t0:Unit)=>st)
  0 h (bm hsc)
  (fun gs0 s0 b0 h hx0=>?_) (fun gt0 t0 fr1 st1 h hb=>?_)
 ·unfold F7 at h
  refine cd h (fun hc h=>?_) fun hc h=>?_
  ·refine r0 ?_
   refine r0 ?_
   obtain⟨fx,h⟩:=ck fx h
   obtain⟨fx,h⟩:=ck fx h
   have fy:=(show(rows y7.cells s0.1).getD ((wr .i64 ((↑s0.2.2:Int)-1)).toNat) []=y7.cells (get s0.1 ((wr .i64 ((↑s0.2.2:Int)-1)).toNat))from qg (E:=y7.cells) (l:=s0.1) (k:=(wr .i64 ((↑s0.2.2:Int)-1)).toNat) (by first|omega|(simp;omega)))
   have fy:=fa fy (show(wr .i64 ((↑s0.2.2:Int)-1)).toNat<s0.1.length from by first|omega|(simp;omega))
   refine r1 ?_
   obtain⟨fx,h⟩:=ck fx h
   refine cd h (fun hc h=>?_) fun hc h=>?_
   ·refine ra ?_
    cases h
    refine aP ?_;have h:=congrArg some (hx0 _ rfl)
    exact rt
   ·refine cd h (fun hc h=>?_) fun hc h=>?_
    ·refine cd h (fun hc h=>?_) fun hc h=>?_
     ·refine ra ?_
      cases h
      refine aP ?_;have h:=congrArg some (hx0 _ rfl)
      exact rt
     ·refine rn ?_
      obtain⟨fx,h⟩:=ck fx h
      obtain⟨fx,h⟩:=ck fx h
      obtain⟨fx,h⟩:=ck fx h
      obtain⟨c25,Vm,h⟩:=oz h
      have fy:=(show rows y7.cells (s0.1.take ((wr .i64 ((↑s0.2.2:Int)-1)).toNat))++[[.str ((get ((get s0.1 ((wr .i64 ((↑s0.2.2:Int)-1)).toNat)).s.args) 1).base),.sl false 2 40 (rows w6.cells ((get ((get s0.1 ((wr .i64 ((↑s0.2.2:Int)-1)).toNat)).s.args) 1).args)),.int .i64 (wr .i64 (((get s0.1 ((wr .i64 ((↑s0.2.2:Int)-1)).toNat)).depth)+1))],[.str ((get ((get s0.1 ((wr .i64 ((↑s0.2.2:Int)-1)).toNat)).s.args) 0).base),.sl false 2 40 (rows w6.cells ((get ((get s0.1 ((wr .i64 ((↑s0.2.2:Int)-1)).toNat)).s.args) 0).args)),.int .i64 (wr .i64 (((get s0.1 ((wr .i64 ((↑s0.2.2:Int)-1)).toNat)).depth)+1))]]=rows y7.cells c25 from by rw[Vm];first|exact U8 (E:=y7.cells) (s0.1.take ((wr .i64 ((↑s0.2.2:Int)-1)).toNat)) [(y7.mk (get ((get s0.1 ((wr .i64 ((↑s0.2.2:Int)-1)).toNat)).s.args) 1) (wr .i64 (((get s0.1 ((wr .i64 ((↑s0.2.2:Int)-1)).toNat)).depth)+1))),(y7.mk (get ((get s0.1 ((wr .i64 ((↑s0.2.2:Int)-1)).toNat)).s.args) 0) (wr .i64 (((get s0.1 ((wr .i64 ((↑s0.2.2:Int)-1)).toNat)).depth)+1)))]|simp only[go_sem,rows,List.map_append,List.map_cons,List.map_nil])
      have fy:=fa fy (show(wr .i64 ((↑s0.2.2:Int)-1)).toNat+2=c25.length from by rw[Vm];simp<;>omega)
      obtain⟨fx,h⟩:=ck fx h
      refine dwy [] 2 ?_
      cases h
      exact F5 (gs0+1) (bm hsc)
    ·refine cd h (fun hc h=>?_) fun hc h=>?_
     ·refine ra ?_
      cases h
      refine aP ?_;have h:=congrArg some (hx0 _ rfl)
      exact rt
     ·refine rn ?_
      cases h
      exact F5 gs0 (bm hsc)
  ·refine rn ?_
   cases h
   exact K7 () (bm0 hsc)
 ·try simp only[go_sem,fx]
  unfold X1 at h
  refine R4 hb ?_
  exact rt
theorem qe(n:Nat)(a0:(List B9))(a1:Int)(r:Int)(h:X7 n a0 a1=some r):Pure Tryz.prog gl 143 [.sl false 7 104 (rows B9.cells a0),.int .i64 a1] (.int .i64 r):=by
 intro st
 unfold X7 at h
 have fx:=trivial
 refine fb 35 [.tmp 4] [0,1,4,5,6,18,29,31] Tryz.func143 fun hsc=>?_
 obtain⟨fx,h⟩:=ck fx h
 refine rn ?_
 refine E8 (body:=N8 a0) (kk:=fO) (n:=n) (s0:=((get a0 a1.toNat).index,(get a0 a1.toNat).up))
  (fun(gs0:Unit) (s0:Int×Int)=>[(0,.sl false 7 104 (rows B9.cells a0)),(5,.int .i64 s0.1),(6,.int .i64 s0.2)])
  (fun(gs0:Unit) (s0:Int×Int)=>st)
  (fun(gt0:Unit) (t0:Unit)=>[])
  (fun(gt0:Unit) (t0:Unit)=>st)
  () h (gX hsc)
  (fun gs0 s0 b0 h hx0=>?_) (fun gt0 t0 fr1 st1 h hb=>?_)
 ·unfold N8 at h
  refine cd h (fun hc h=>?_) fun hc h=>?_
  ·obtain⟨fx,h⟩:=ck fx h
   refine cd h (fun hc h=>?_) fun hc h=>?_
   ·refine cd h (fun hc h=>?_) fun hc h=>?_
    ·refine ra ?_
     cases h
     refine aP ?_;have h:=congrArg some (hx0 _ rfl)
     exact rt
    ·refine rn ?_
     cases h
     exact F5 () (gX hsc)
   ·refine rn ?_
    cases h
    exact F5 () (gX hsc)
  ·refine rn ?_
   cases h
   exact K7 () (gX hsc)
 ·try simp only[go_sem,fx]
  unfold fO at h
  refine R4 hb ?_
  exact rt
theorem sy(a0:w6)(a1:w6)(r:w6)(h:jf a0 a1=some r):Pure Tryz.prog gl 144 [.agg [.str a0.base,.sl false 2 40 (rows w6.cells a0.args)],.agg [.str a1.base,.sl false 2 40 (rows w6.cells a1.args)]] (.agg [.str r.base,.sl false 2 40 (rows w6.cells r.args)]):=by
 intro st
 unfold jf at h
 have fx:=trivial
 refine fb 9 [.cell 4 83] [0,1,2,3,4] Tryz.func144 fun hsc=>?_
 refine rr ?_
 exact fo (.agg [.str [],.sl false 2 40 (rows w6.cells [a0,a1])]) (.agg _ _ (.cons _ _ _ _ .s (.cons _ _ _ _ (.ref _ _ _ _ _ _ _ _ _ (pL.trans rfl) zq (by decide) (by simp[Imm,D.imm]) (by simp only[go_sem,rows,List.map_cons,List.map_nil])) .nil))) h hsc
theorem iD:∀(n:Nat) (a0:w6) (r:Bs) (h:H6 n a0=some r),Pure Tryz.prog gl 150 [.agg [.str a0.base,.sl false 2 40 (rows w6.cells a0.args)]] (.str r):=by
 intro n
 induction n with
 |zero=>intro a0 r h;cases h
 |succ n ih=>
  intro a0 r h st
  unfold H6 at h
  have fx:=trivial
  refine fb 22 [.tmp 2] [0,1,2,5] Tryz.func150 fun hsc=>?_
  refine cd h (fun hc h=>?_) fun hc h=>?_
  ·exact rt
  ·refine rn ?_
   obtain⟨fx,h⟩:=ck fx h
   refine dw [] 0 ?_
   obtain⟨v2,hv2,h⟩:=F9 h
   refine A9 (ih _ _ hv2) ?_
   obtain⟨fx,h⟩:=ck fx h
   obtain⟨fx,h⟩:=ck fx h
   obtain⟨fx,h⟩:=ck fx h
   try simp only[go_sem,fx]
   obtain⟨v6,hv6,h⟩:=F9 h
   refine A9 (ih _ _ hv6) ?_
   obtain⟨fx,h⟩:=ck fx h
   obtain⟨fx,h⟩:=ck fx h
   try simp only[go_sem,fx]
   exact rt
theorem oF(n:Nat)(a0:w6)(a1:w6)(r:Bool)(h:aA n a0 a1=some r):Pure Tryz.prog gl 145 [.agg [.str a0.base,.sl false 2 40 (rows w6.cells a0.args)],.agg [.str a1.base,.sl false 2 40 (rows w6.cells a1.args)]] (.bool r):=by
 intro st
 unfold aA at h
 have fx:=trivial
 refine fb 10 [.tmp 4] [0,1,2,3,4] Tryz.func145 fun hsc=>?_
 refine rn ?_
 refine dw [] 0 ?_
 obtain⟨v1,hv1,h⟩:=F9 h
 refine A9 (iD n _ _ hv1) ?_
 try simp only[go_sem,fx]
 obtain⟨v2,hv2,h⟩:=F9 h
 refine A9 (iD n _ _ hv2) ?_
 try simp only[go_sem,fx]
 exact rt
theorem pY(n:Nat)(a0:x9)(r:w6×Bool)(h:bJ n a0=some r):Pure Tryz.prog gl 134 [.agg [.int .i64 a0.kind,.str a0.name,.int .i64 a0.index,.str a0.type.base,.sl false 2 40 (rows w6.cells a0.type.args),.sl false 6 96 (rows x9.cells a0.args)]] (.tup [.agg [.str r.1.base,.sl false 2 40 (rows w6.cells r.1.args)],.bool r.2]):=by
 intro st
 unfold bJ at h
 have fx:=trivial
 refine fb 107 [.cell 2 83,.tmp 3] [0,1,2,3,4,5,6,7,8,9,19,27,28,35,47,62,82,83,84,85,88,89,90,91,92,93,94,95] Tryz.func134 fun hsc=>?_
 obtain⟨v1,hv1,h⟩:=F9 h
 refine r0 ?_
 (repeat apply sq_)
 refine oI 7 104 ?_
 try simp only[List.append_assoc,List.cons_append,List.nil_append]
 refine rn ?_
 refine((OP n _ _ 0 _ hv1 _ (st.length+2) 0 [] rfl (cW.trans rfl)).up (.cons _ _ _ _ .s (.cons _ _ _ _ .s (.cons _ _ _ _ (.nref _ _ _ _ _ _ (pL.trans rfl)) .nil))) (by simp)).mono ?_
 rintro d1 st1 ⟨g2,E2,N2,rfl,rfl,Kx⟩
 try simp only[go_sem,fx,aZ,Nat.zero_add]
 refine ql (fr':=[(1,.ptr st.length 0 0 0),(2,.ptr (st.length+1) 0 0 0),(3,.bool false),(4,.ref false (st.length+2) g2 0 v1.length)]) ⟨rfl,rfl,rfl,rfl,trivial⟩ ?_
 refine R4 (Mi (F:=[(1,.ptr st.length 0 0 0),(2,.ptr (st.length+1) 0 0 0),(3,.bool false),(4,.sl false 7 104 (rows B9.cells v1))]) hsc (by simpa using Kx) (by simp) (fun _ _=>⟨.s,.s,.s,.s,trivial⟩) (fun _ _ u=>⟨.s,.s,.s,u,trivial⟩) (by simp) (by simp)) ?_
 obtain⟨fx,h⟩:=ck fx h
 refine r0 ?_
 (repeat apply sq_)
 refine R4 (F:=[(2,.ptr (st.length+1) 0 0 0),(4,.sl false 7 104 (rows B9.cells v1)),(5,.ref true (st.length+2) 0 0 v1.length)]) (T:=st++[some (.arr 0 6 0 [[.int .i64 a0.kind,.str a0.name,.int .i64 a0.index,.str a0.type.base,.sl false 2 40 (rows w6.cells a0.type.args),.sl false 6 96 (rows x9.cells a0.args)]]),some (.arr 0 2 0 [[.str [],.F6]]),some (.arr 0 2 40 (rows w6.cells (List.replicate v1.length (default:w6))))]) (Af hsc (.lv (.lv (.live _ _ _ _ (.arr _ _ _ _ _ (QH (by rw[w6.D8];exact(.cons _ _ _ _ .s (.cons _ _ _ _ (.F6 _ _ _ (by decide)) .nil))))) (.nil _)))) (by simp) ⟨.s,.s,.s,trivial⟩ (by simp)) ?_
 refine rn ?_
 refine E8 (body:=S4 n v1) (kk:=bR) (n:=n) (s0:=((List.replicate v1.length (default:w6)),(wr .i64 ((↑v1.length:Int)-1))))
  (fun(gs0:Nat) (s0:(List w6)×Int)=>[(2,.ptr (st.length+1) 0 0 0),(4,.sl false 7 104 (rows B9.cells v1)),(5,.ref true (st.length+2) gs0 0 s0.1.length),(6,.int .i64 s0.2)])
  (fun(gs0:Nat) (s0:(List w6)×Int)=>st++[none,some (.arr 0 2 0 [[.str [],.F6]]),some (.arr gs0 2 40 (rows w6.cells s0.1))])
  (fun(gt0:Nat) (t0:(List w6))=>[(2,.ptr (st.length+1) 0 0 0),(5,.ref true (st.length+2) gt0 0 t0.length)])
  (fun(gt0:Nat) (t0:(List w6))=>st++[none,some (.arr 0 2 0 [[.str [],.F6]]),some (.arr gt0 2 40 (rows w6.cells t0))])
  0 h (bm hsc (hf:=⟨.s,.s,IW (by first|(simp;done)|simp[Fr.get]),.s,trivial⟩))
  (fun gs0 s0 b0 h hx0=>?_) (fun gt0 t0 fr1 st1 h hb=>?_)
 ·unfold S4 at h
  refine cd h (fun hc h=>?_) fun hc h=>?_
  ·obtain⟨fx,h⟩:=ck fx h
   refine cd h (fun hc h=>?_) fun hc h=>?_
   ·obtain⟨fx,h⟩:=ck fx h
    have fy:=(show(rows w6.cells s0.1).getD s0.2.toNat []=w6.cells (get s0.1 s0.2.toNat)from qg (E:=w6.cells) (l:=s0.1) (k:=s0.2.toNat) (by first|omega|(simp;omega)))
    have fy:=fa fy (show s0.2.toNat<s0.1.length from by first|omega|(simp;omega))
    obtain⟨c54,Vn,h⟩:=oz h
    have fy:=fa fy (show(rows w6.cells s0.1).set s0.2.toNat [.str ((get v1 s0.2.toNat).typ.base),.sl false 2 40 (rows w6.cells ((get v1 s0.2.toNat).typ.args))]=rows w6.cells c54 from by rw[Vn];first|exact CF (E:=w6.cells) _ _ _|simp only[go_sem,rows,List.map_set])
    refine r1 ?_
    have e56:D.ref true (st.length+2) gs0 0 s0.1.length=D.ref true (st.length+2) gs0 0 c54.length:=by simp[Vn]
    simp only[e56]
    refine rn ?_
    cases h
    exact F5 gs0 (bm hsc)
   ·refine cd h (fun hc h=>?_) fun hc h=>?_
    ·refine cl h (qe n _ _) fun v57 h=>?_
     obtain⟨fx,h⟩:=ck fx h
     obtain⟨fx,h⟩:=ck fx h
     have fy:=(show(rows w6.cells s0.1).getD s0.2.toNat []=w6.cells (get s0.1 s0.2.toNat)from qg (E:=w6.cells) (l:=s0.1) (k:=s0.2.toNat) (by first|omega|(simp;omega)))
     have fy:=fa fy (show s0.2.toNat<s0.1.length from by first|omega|(simp;omega))
     obtain⟨c63,hc63,h⟩:=oz h
     have fy:=fa fy (show(rows w6.cells s0.1).set s0.2.toNat [.str ((get v1 v57.toNat).typ.base),.sl false 2 40 (rows w6.cells ((get v1 v57.toNat).typ.args))]=rows w6.cells c63 from by rw[hc63];first|exact CF (E:=w6.cells) _ _ _|simp only[go_sem,rows,List.map_set])
     try simp only[go_sem,fx,fy]
     have e65:D.ref true (st.length+2) gs0 0 s0.1.length=D.ref true (st.length+2) gs0 0 c63.length:=by simp[hc63]
     simp only[e65]
     refine rn ?_
     cases h
     exact F5 gs0 (bm hsc)
    ·refine cd h (fun hc h=>?_) fun hc h=>?_
     ·refine rs ?_
      obtain⟨fx,h⟩:=ck fx h
      obtain⟨fx,h⟩:=ck fx h
      have fy:=(show(rows w6.cells s0.1).getD ((get ((get v1 s0.2.toNat).kids) 0).toNat) []=w6.cells (get s0.1 ((get ((get v1 s0.2.toNat).kids) 0).toNat))from qg (E:=w6.cells) (l:=s0.1) (k:=(get ((get v1 s0.2.toNat).kids) 0).toNat) (by first|omega|(simp;omega)))
      have fy:=fa fy (show(get ((get v1 s0.2.toNat).kids) 0).toNat<s0.1.length from by first|omega|(simp;omega))
      refine dwy [] 0 ?_
      obtain⟨v71,hv71,h⟩:=F9 h
      refine A9 (sy _ _ _ hv71) ?_
      obtain⟨fx,h⟩:=ck fx h
      have fy:=fa fy (show(rows w6.cells s0.1).getD s0.2.toNat []=w6.cells (get s0.1 s0.2.toNat)from qg (E:=w6.cells) (l:=s0.1) (k:=s0.2.toNat) (by first|omega|(simp;omega)))
      have fy:=fa fy (show s0.2.toNat<s0.1.length from by first|omega|(simp;omega))
      obtain⟨c75,Vo,h⟩:=oz h
      have fy:=fa fy (show(rows w6.cells s0.1).set s0.2.toNat [.str v71.base,.sl false 2 40 (rows w6.cells v71.args)]=rows w6.cells c75 from by rw[Vo];first|exact CF (E:=w6.cells) _ _ _|simp only[go_sem,rows,List.map_set])
      try simp only[go_sem,fx,fy]
      have e77:D.ref true (st.length+2) gs0 0 s0.1.length=D.ref true (st.length+2) gs0 0 c75.length:=by simp[Vo]
      simp only[e77]
      refine rn ?_
      cases h
      exact F5 gs0 (bm hsc)
     ·refine cd h (fun hc h=>?_) fun hc h=>?_
      ·refine rs ?_
       obtain⟨fx,h⟩:=ck fx h
       obtain⟨fx,h⟩:=ck fx h
       have fy:=(show(rows w6.cells s0.1).getD ((get ((get v1 s0.2.toNat).kids) 0).toNat) []=w6.cells (get s0.1 ((get ((get v1 s0.2.toNat).kids) 0).toNat))from qg (E:=w6.cells) (l:=s0.1) (k:=(get ((get v1 s0.2.toNat).kids) 0).toNat) (by first|omega|(simp;omega)))
       have fy:=fa fy (show(get ((get v1 s0.2.toNat).kids) 0).toNat<s0.1.length from by first|omega|(simp;omega))
       obtain⟨fx,h⟩:=ck fx h
       obtain⟨fx,h⟩:=ck fx h
       have fy:=fa fy (show(rows w6.cells s0.1).getD ((get ((get v1 s0.2.toNat).kids) 1).toNat) []=w6.cells (get s0.1 ((get ((get v1 s0.2.toNat).kids) 1).toNat))from qg (E:=w6.cells) (l:=s0.1) (k:=(get ((get v1 s0.2.toNat).kids) 1).toNat) (by first|omega|(simp;omega)))
       have fy:=fa fy (show(get ((get v1 s0.2.toNat).kids) 1).toNat<s0.1.length from by first|omega|(simp;omega))
       refine dwy [9,10,11,12,13,16] 2 ?_
       try refine⟨by(simp<;>omega),?_⟩
       refine rs ?_
       obtain⟨fx,h⟩:=ck fx h
       refine dw [] 0 ?_
       obtain⟨v90,hv90,h⟩:=F9 h
       refine fT (fun hG=>(oF n _ _ _ (tO hv90 (by simpa using hG)))) ?_
       try simp only[go_sem,fx]
       refine cd h (fun hc h=>?_) fun hc h=>?_
       ·refine ra ?_
        cases h
        refine aP ?_;have h:=congrArg some (hx0 _ rfl)
        refine rr ?_
        exact fo (.tup [.agg [.str [],.sl false 2 40 (rows w6.cells [])],.bool false]) (.tup _ _ (.cons _ _ _ _ (.agg _ _ (.cons _ _ _ _ .s (.cons _ _ _ _ (.F6 _ _ _ (by decide)) .nil))) (.cons _ _ _ _ .s .nil)) rfl) h hsc
       ·refine r0 ?_
        obtain⟨fx,h⟩:=ck fx h
        obtain⟨fx,h⟩:=ck fx h
        have fy:=(show(rows w6.cells s0.1).getD s0.2.toNat []=w6.cells (get s0.1 s0.2.toNat)from qg (E:=w6.cells) (l:=s0.1) (k:=s0.2.toNat) (by first|omega|(simp;omega)))
        have fy:=fa fy (show s0.2.toNat<s0.1.length from by first|omega|(simp;omega))
        obtain⟨c95,Vp,h⟩:=oz h
        have fy:=fa fy (show(rows w6.cells s0.1).set s0.2.toNat [.str ((get ((get s0.1 ((get ((get v1 s0.2.toNat).kids) 0).toNat)).args) 1).base),.sl false 2 40 (rows w6.cells ((get ((get s0.1 ((get ((get v1 s0.2.toNat).kids) 0).toNat)).args) 1).args))]=rows w6.cells c95 from by rw[Vp];first|exact CF (E:=w6.cells) _ _ _|simp only[go_sem,rows,List.map_set])
        refine r1 ?_
        have e97:D.ref true (st.length+2) gs0 0 s0.1.length=D.ref true (st.length+2) gs0 0 c95.length:=by simp[Vp]
        simp only[e97]
        refine rn ?_
        cases h
        exact F5 gs0 (bm hsc)
      ·refine rn ?_
       cases h
       exact F5 gs0 (bm hsc)
  ·refine rn ?_
   cases h
   exact K7 gs0 (bm hsc)
 ·try simp only[go_sem,fx]
  unfold bR at h
  refine R4 hb ?_
  obtain⟨fx,h⟩:=ck fx h
  have fy:=(show(rows w6.cells t0).getD 0 []=w6.cells (get t0 0)from qg (E:=w6.cells) (l:=t0) (k:=0) (by first|omega|(simp;omega)))
  have fy:=fa fy (show 0<t0.length from by first|omega|(simp;omega))
  refine r1 ?_
  exact rt
end Go.Proofs.YtfogbhjeihkliaaGreatDoor
