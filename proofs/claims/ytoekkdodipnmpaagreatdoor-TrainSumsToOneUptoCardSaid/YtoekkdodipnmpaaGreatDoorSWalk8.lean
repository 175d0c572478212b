import Derived.Test.YtoekkdodipnmpaaGreatDoorSWalk7
set_option linter.unusedVariables false
set_option linter.unusedSimpArgs false
set_option maxHeartbeats 2000000
set_option maxRecDepth 100000
namespace Go.Proofs.YtoekkdodipnmpaaGreatDoor
open Go Go.Am
theorem eO(n:Nat)(a0:x7)(r:w5)(h:I4 n a0=some r):Pure Tryz.prog gl 37 [.agg [.sl false 2 40 (rows x5.cells a0.types),.sl false 3 32 (rows A0.cells a0.C2)]] (.agg [.int .i64 r.code,.int .i64 r.index]):=by
 intro st
 unfold I4 at h
 have fx:=trivial
 refine fb 87 [.cell 2 39] [0,1,2,3,4,5,6,8,12,19,25,29,30,31,32,39,45,46,47,48,55,63,64,65,66,67,68,71,72,73,76,77,78,79,80,81,82] Tryz.func37 fun hsc=>?_
 refine cd h (fun hc h=>?_) fun hc h=>?_
 ·exact rt
 ·refine cl h (gF _) fun v1 h=>?_
  refine cd h (fun hc h=>?_) fun hc h=>?_
  ·exact rt
  ·refine cl h (kl n _) fun v2 h=>?_
   refine cd h (fun hc h=>?_) fun hc h=>?_
   ·exact rt
   ·refine aln 29 fun hl0=>?_
    refine rng (body:=F9 a0) (kk:=J8) (n:=a0.C2.length) (s0:=())
     (fun(gs0:Unit) (k0:Nat) (s0:Unit)=>[(1,.ptr st.length 0 0 0),(2,.ptr (st.length+1) 0 0 0),(29,.sl false 3 32 (rows A0.cells a0.C2)),(30,.int .i64 (↑a0.C2.length:Int)),(31,.int .i64 (↑k0:Int))])
     (fun(gs0:Unit) (k0:Nat) (s0:Unit)=>st++[some (.arr 0 2 0 [[.sl false 2 40 (rows x5.cells a0.types),.sl false 3 32 (rows A0.cells a0.C2)]]),some (.arr 0 2 0 [[.int .i64 0,.int .i64 0]])])
     (fun(gt0:Unit) (t0:Unit)=>[(2,.ptr (st.length+1) 0 0 0)])
     (fun(gt0:Unit) (t0:Unit)=>st++[none,some (.arr 0 2 0 [[.int .i64 0,.int .i64 0]])])
     () fx hl0 h (bm hsc)
     (fun gs0 k0 s0 b0 fx h hx0=>?_) (fun gs0 s0=>?_) (fun gt0 t0 fr1 st1 h hb=>?_)
    ·unfold F9 at h
     refine ct ?_
     refine cl h (bw _) fun v6 h=>?_
     refine cd h (fun hc h=>?_) fun hc h=>?_
     ·refine ra ?_
      cases h
      refine D4 ?_;have h:=congrArg some (hx0 _ rfl)
      exact rt
     ·obtain⟨fx,h⟩:=ck fx h
      refine aln 45 fun hl2=>?_
      refine rng (body:=G0 a0 k0) (kk:=J9 a0 k0) (n:=(a0.C2.take k0).length) (s0:=())
       (fun(gs2:Unit) (k2:Nat) (s2:Unit)=>[(1,.ptr st.length 0 0 0),(2,.ptr (st.length+1) 0 0 0),(5,.int .i64 (↑k0:Int)),(6,.ptr (st.length+2) 0 0 0),(29,.sl false 3 32 (rows A0.cells a0.C2)),(30,.int .i64 (↑a0.C2.length:Int)),(31,.int .i64 (↑k0:Int)),(45,.sl false 3 32 (rows A0.cells (a0.C2.take k0))),(46,.int .i64 (↑((a0.C2.take k0).length):Int)),(47,.int .i64 (↑k2:Int))])
       (fun(gs2:Unit) (k2:Nat) (s2:Unit)=>st++[some (.arr 0 2 0 [[.sl false 2 40 (rows x5.cells a0.types),.sl false 3 32 (rows A0.cells a0.C2)]]),some (.arr 0 2 0 [[.int .i64 0,.int .i64 0]]),some (.arr 0 3 0 [[.str ((get a0.C2 k0).name),.int .i64 ((get a0.C2 k0).of_),.int .i64 ((get a0.C2 k0).value)]])])
       (fun(gt2:Unit) (t2:Unit)=>[(1,.ptr st.length 0 0 0),(2,.ptr (st.length+1) 0 0 0),(5,.int .i64 (↑k0:Int)),(6,.ptr (st.length+2) 0 0 0),(29,.sl false 3 32 (rows A0.cells a0.C2)),(30,.int .i64 (↑a0.C2.length:Int)),(31,.int .i64 (↑k0:Int))])
       (fun(gt2:Unit) (t2:Unit)=>st++[some (.arr 0 2 0 [[.sl false 2 40 (rows x5.cells a0.types),.sl false 3 32 (rows A0.cells a0.C2)]]),some (.arr 0 2 0 [[.int .i64 0,.int .i64 0]]),some (.arr 0 3 0 [[.str ((get a0.C2 k0).name),.int .i64 ((get a0.C2 k0).of_),.int .i64 ((get a0.C2 k0).value)]])])
       () fx hl2 h (bm hsc)
       (fun gs2 k2 s2 b2 fx h hx2=>?_) (fun gs2 s2=>?_) (fun gt2 t2 fr1 st1 h hb=>?_)
      ·unfold G0 at h
       refine ct ?_
       refine cd h (fun hc h=>?_) fun hc h=>?_
       ·refine ra ?_
        cases h
        refine D4 ?_;obtain rfl:=hx2 _ rfl;try simp only[go_sem,fx]
        refine D4 ?_;have h:=congrArg some (hx0 _ rfl)
        exact rt
       ·refine rn ?_
        cases h
        exact dc () (bm hsc)
      ·refine cf ?_
       refine cP ?_;simp only[go_sem,fx]
       exact⟨(),(bm hsc)⟩
      ·try simp only[go_sem,fx]
       unfold J9 at h
       refine R8 hb ?_
       refine cd h (fun hc h=>?_) fun hc h=>?_
       ·refine ra ?_
        cases h
        refine D4 ?_;have h:=congrArg some (hx0 _ rfl)
        exact rt
       ·refine rn ?_
        cases h
        exact dc () (bm hsc)
    ·refine cf ?_
     refine cP ?_;simp only[go_sem,fx]
     exact⟨(),(bm hsc)⟩
    ·try simp only[go_sem,fx]
     unfold J8 at h
     refine R8 hb ?_
     exact rt
theorem gG(a0:x7)(a1:B0)(r:w5)(h:M1 a0 a1=some r):Pure Tryz.prog gl 68 [.agg [.sl false 2 40 (rows x5.cells a0.types),.sl false 3 32 (rows A0.cells a0.C2)],.agg [.sl false 2 32 (rows y4.cells a1.nodes)]] (.agg [.int .i64 r.code,.int .i64 r.index]):=by
 intro st
 unfold M1 at h
 have fx:=trivial
 refine fb 94 [.cell 4 39] [0,1,2,3,4,5,6,7,8,14,15,16,17,18,21,22,23,24,32,33,34,35,36,37,38,42,43,44,45,53,54,55,56,57,58,61,62,63,66,67,68,69,70,71,72,78,79,80,81,82,83,84,85,86,87,88] Tryz.func68 fun hsc=>?_
 refine cd h (fun hc h=>?_) fun hc h=>?_
 ·exact rt
 ·refine aln 21 fun hl0=>?_
  refine rng (body:=O9 a1 a0) (kk:=V6) (n:=a1.nodes.length) (s0:=())
   (fun(gs0:Unit) (k0:Nat) (s0:Unit)=>[(2,.ptr st.length 0 0 0),(3,.ptr (st.length+1) 0 0 0),(4,.ptr (st.length+2) 0 0 0),(21,.sl false 2 32 (rows y4.cells a1.nodes)),(22,.int .i64 (↑a1.nodes.length:Int)),(23,.int .i64 (↑k0:Int))])
   (fun(gs0:Unit) (k0:Nat) (s0:Unit)=>st++[some (.arr 0 2 0 [[.sl false 2 40 (rows x5.cells a0.types),.sl false 3 32 (rows A0.cells a0.C2)]]),some (.arr 0 1 0 [[.sl false 2 32 (rows y4.cells a1.nodes)]]),some (.arr 0 2 0 [[.int .i64 0,.int .i64 0]])])
   (fun(gt0:Unit) (t0:Unit)=>[(4,.ptr (st.length+2) 0 0 0)])
   (fun(gt0:Unit) (t0:Unit)=>st++[none,none,some (.arr 0 2 0 [[.int .i64 0,.int .i64 0]])])
   () fx hl0 h (bm hsc)
   (fun gs0 k0 s0 b0 fx h hx0=>?_) (fun gs0 s0=>?_) (fun gt0 t0 fr1 st1 h hb=>?_)
  ·unfold O9 at h
   refine ct ?_
   refine cd h (fun hc h=>?_) fun hc h=>?_
   ·refine ra ?_
    cases h
    refine D4 ?_;have h:=congrArg some (hx0 _ rfl)
    exact rt
   ·refine aln 42 fun hl2=>?_
    refine rng (body:=P0 a1 k0 a0) (kk:=P1) (n:=((get a1.nodes k0).links).length) (s0:=())
     (fun(gs2:Unit) (k2:Nat) (s2:Unit)=>[(2,.ptr st.length 0 0 0),(3,.ptr (st.length+1) 0 0 0),(4,.ptr (st.length+2) 0 0 0),(5,.int .i64 (↑k0:Int)),(6,.ptr (st.length+3) 0 0 0),(21,.sl false 2 32 (rows y4.cells a1.nodes)),(22,.int .i64 (↑a1.nodes.length:Int)),(23,.int .i64 (↑k0:Int)),(42,.sl false 2 16 (rows D9.cells ((get a1.nodes k0).links))),(43,.int .i64 (↑(((get a1.nodes k0).links).length):Int)),(44,.int .i64 (↑k2:Int))])
     (fun(gs2:Unit) (k2:Nat) (s2:Unit)=>st++[some (.arr 0 2 0 [[.sl false 2 40 (rows x5.cells a0.types),.sl false 3 32 (rows A0.cells a0.C2)]]),some (.arr 0 1 0 [[.sl false 2 32 (rows y4.cells a1.nodes)]]),some (.arr 0 2 0 [[.int .i64 0,.int .i64 0]]),some (.arr 0 2 0 [[.int .i64 ((get a1.nodes k0).type),.sl false 2 16 (rows D9.cells ((get a1.nodes k0).links))]])])
     (fun(gt2:Unit) (t2:Unit)=>[(2,.ptr st.length 0 0 0),(3,.ptr (st.length+1) 0 0 0),(4,.ptr (st.length+2) 0 0 0),(21,.sl false 2 32 (rows y4.cells a1.nodes)),(22,.int .i64 (↑a1.nodes.length:Int)),(23,.int .i64 (↑k0:Int))])
     (fun(gt2:Unit) (t2:Unit)=>st++[some (.arr 0 2 0 [[.sl false 2 40 (rows x5.cells a0.types),.sl false 3 32 (rows A0.cells a0.C2)]]),some (.arr 0 1 0 [[.sl false 2 32 (rows y4.cells a1.nodes)]]),some (.arr 0 2 0 [[.int .i64 0,.int .i64 0]])])
     () fx hl2 h (bm hsc)
     (fun gs2 k2 s2 b2 fx h hx2=>?_) (fun gs2 s2=>?_) (fun gt2 t2 fr1 st1 h hb=>?_)
    ·unfold P0 at h
     refine ct ?_
     refine cd h (fun hc h=>?_) fun hc h=>?_
     ·refine ra ?_
      cases h
      refine D4 ?_;obtain rfl:=hx2 _ rfl;try simp only[go_sem,fx]
      refine D4 ?_;have h:=congrArg some (hx0 _ rfl)
      exact rt
     ·refine rn ?_
      obtain⟨fx,h⟩:=ck fx h
      refine dw [] 0 ?_
      refine cd h (fun hc h=>?_) fun hc h=>?_
      ·refine ra ?_
       cases h
       refine D4 ?_;obtain rfl:=hx2 _ rfl;try simp only[go_sem,fx]
       refine D4 ?_;have h:=congrArg some (hx0 _ rfl)
       exact rt
      ·refine rn ?_
       cases h
       exact dc () (bm hsc)
    ·refine cf ?_
     refine cP ?_;simp only[go_sem,fx]
     exact⟨(),(bm hsc)⟩
    ·try simp only[go_sem,fx]
     unfold P1 at h
     refine R8 hb ?_
     refine rn ?_
     cases h
     exact dc () (bm hsc)
  ·refine cf ?_
   refine cP ?_;simp only[go_sem,fx]
   exact⟨(),(bm hsc)⟩
  ·try simp only[go_sem,fx]
   unfold V6 at h
   refine R8 hb ?_
   exact rt
theorem iz(a0:B0)(r:Int)(h:J6 a0=some r):Pure Tryz.prog gl 70 [.agg [.sl false 2 32 (rows y4.cells a0.nodes)]] (.int .i64 r):=by
 intro st
 unfold J6 at h
 have fx:=trivial
 refine fb 47 [.tmp 2] [0,1,2,3,4,5,7,16,17,18,20,21,22,23,28,29,30,31,37] Tryz.func70 fun hsc=>?_
 refine r0 ?_
 obtain⟨fx,h⟩:=ck fx h
 have fy:=(show List.replicate a0.nodes.length [.bool false]=rows F3 (List.replicate a0.nodes.length (default:Bool))from iJ (E:=F3) _ default)
 refine r1 ?_
 obtain⟨fx,h⟩:=ck fx h
 have fy:=(show(rows F3 (List.replicate a0.nodes.length (default:Bool))).getD 0 []=F3 (get (List.replicate a0.nodes.length (default:Bool)) 0)from jk (E:=F3) (l:=(List.replicate a0.nodes.length (default:Bool))) (k:=0) (by first|omega|(simp;omega)))
 have fy:=fa fy (show 0<a0.nodes.length from by first|omega|(simp;omega))
 obtain⟨c7,hc7,h⟩:=lK h
 have fy:=fa fy (show(rows F3 (List.replicate a0.nodes.length (default:Bool))).set 0 [.bool true]=rows F3 c7 from by rw[hc7];first|exact vY (E:=F3) _ _ _|simp only[go_sem,rows,List.map_set])
 refine r1 ?_
 have e9:D.ref true (st.length+1) 0 0 a0.nodes.length=D.ref true (st.length+1) 0 0 c7.length:=by simp[hc7]
 simp only[e9]
 obtain⟨fx,h⟩:=ck fx h
 refine rn ?_
 refine rng (body:=P7 a0) (kk:=Q6) (n:=a0.nodes.length) (s0:=c7)
  (fun(gs0:Nat) (k0:Nat) (s0:(List Bool))=>[(1,.ptr st.length 0 0 0),(3,.ref true (st.length+1) gs0 0 s0.length),(16,.int .i64 (↑a0.nodes.length:Int)),(17,.int .i64 (↑k0:Int))])
  (fun(gs0:Nat) (k0:Nat) (s0:(List Bool))=>st++[some (.arr 0 1 0 [[.sl false 2 32 (rows y4.cells a0.nodes)]]),some (.arr gs0 1 1 (rows F3 s0))])
  (fun(gt0:Nat) (t0:(List Bool))=>[(3,.ref true (st.length+1) gt0 0 t0.length)])
  (fun(gt0:Nat) (t0:(List Bool))=>st++[none,some (.arr gt0 1 1 (rows F3 t0))])
  0 fx fx.2 h (bm hsc)
  (fun gs0 k0 s0 b0 fx h hx0=>?_) (fun gs0 s0=>?_) (fun gt0 t0 fr1 st1 h hb=>?_)
 ·unfold P7 at h
  refine ct ?_
  refine aln 20 fun hl4=>?_
  refine rng (body:=P8 a0) (kk:=Q5) (n:=a0.nodes.length) (s0:=s0)
   (fun(gs4:Nat) (k4:Nat) (s4:(List Bool))=>[(1,.ptr st.length 0 0 0),(3,.ref true (st.length+1) gs4 0 s4.length),(16,.int .i64 (↑a0.nodes.length:Int)),(17,.int .i64 (↑k0:Int)),(20,.sl false 2 32 (rows y4.cells a0.nodes)),(21,.int .i64 (↑a0.nodes.length:Int)),(22,.int .i64 (↑k4:Int))])
   (fun(gs4:Nat) (k4:Nat) (s4:(List Bool))=>st++[some (.arr 0 1 0 [[.sl false 2 32 (rows y4.cells a0.nodes)]]),some (.arr gs4 1 1 (rows F3 s4))])
   (fun(gt4:Nat) (t4:(List Bool))=>[(1,.ptr st.length 0 0 0),(3,.ref true (st.length+1) gt4 0 t4.length),(16,.int .i64 (↑a0.nodes.length:Int)),(17,.int .i64 (↑k0:Int))])
   (fun(gt4:Nat) (t4:(List Bool))=>st++[some (.arr 0 1 0 [[.sl false 2 32 (rows y4.cells a0.nodes)]]),some (.arr gt4 1 1 (rows F3 t4))])
   gs0 fx hl4 h (bm hsc)
   (fun gs4 k4 s4 b4 fx h hx4=>?_) (fun gs4 s4=>?_) (fun gt4 t4 fr1 st1 h hb=>?_)
  ·unfold P8 at h
   refine ct ?_
   refine aln 28 fun hl6=>?_
   refine rng (body:=P9 k4 a0) (kk:=Q0) (n:=((get a0.nodes k4).links).length) (s0:=s4)
    (fun(gs6:Nat) (k6:Nat) (s6:(List Bool))=>[(1,.ptr st.length 0 0 0),(3,.ref true (st.length+1) gs6 0 s6.length),(4,.int .i64 (↑k4:Int)),(16,.int .i64 (↑a0.nodes.length:Int)),(17,.int .i64 (↑k0:Int)),(20,.sl false 2 32 (rows y4.cells a0.nodes)),(21,.int .i64 (↑a0.nodes.length:Int)),(22,.int .i64 (↑k4:Int)),(28,.sl false 2 16 (rows D9.cells ((get a0.nodes k4).links))),(29,.int .i64 (↑(((get a0.nodes k4).links).length):Int)),(30,.int .i64 (↑k6:Int))])
    (fun(gs6:Nat) (k6:Nat) (s6:(List Bool))=>st++[some (.arr 0 1 0 [[.sl false 2 32 (rows y4.cells a0.nodes)]]),some (.arr gs6 1 1 (rows F3 s6))])
    (fun(gt6:Nat) (t6:(List Bool))=>[(1,.ptr st.length 0 0 0),(3,.ref true (st.length+1) gt6 0 t6.length),(16,.int .i64 (↑a0.nodes.length:Int)),(17,.int .i64 (↑k0:Int)),(20,.sl false 2 32 (rows y4.cells a0.nodes)),(21,.int .i64 (↑a0.nodes.length:Int)),(22,.int .i64 (↑k4:Int))])
    (fun(gt6:Nat) (t6:(List Bool))=>st++[some (.arr 0 1 0 [[.sl false 2 32 (rows y4.cells a0.nodes)]]),some (.arr gt6 1 1 (rows F3 t6))])
    gs4 fx hl6 h (bm hsc)
    (fun gs6 k6 s6 b6 fx h hx6=>?_) (fun gs6 s6=>?_) (fun gt6 t6 fr1 st1 h hb=>?_)
   ·unfold P9 at h
    refine ct ?_
    refine r0 ?_
    refine r0 ?_
    refine r0 ?_
    obtain⟨fx,h⟩:=ck fx h
    have fy:=(show(rows F3 s6).getD k4 []=F3 (get s6 k4)from jk (E:=F3) (l:=s6) (k:=k4) (by first|omega|(simp;omega)))
    have fy:=fa fy (show k4<s6.length from by first|omega|(simp;omega))
    refine r1 ?_
    refine cd h (fun hc h=>?_) fun hc h=>?_
    ·obtain⟨fx,h⟩:=ck fx h
     have fy:=(show(rows F3 s6).getD (((get ((get a0.nodes k4).links) k6).to_).toNat) []=F3 (get s6 (((get ((get a0.nodes k4).links) k6).to_).toNat))from jk (E:=F3) (l:=s6) (k:=((get ((get a0.nodes k4).links) k6).to_).toNat) (by first|omega|(simp;omega)))
     have fy:=fa fy (show((get ((get a0.nodes k4).links) k6).to_).toNat<s6.length from by first|omega|(simp;omega))
     obtain⟨c88,Nh,h⟩:=lK h
     have fy:=fa fy (show(rows F3 s6).set (((get ((get a0.nodes k4).links) k6).to_).toNat) [.bool true]=rows F3 c88 from by rw[Nh];first|exact vY (E:=F3) _ _ _|simp only[go_sem,rows,List.map_set])
     refine r1 ?_
     have e90:D.ref true (st.length+1) gs6 0 s6.length=D.ref true (st.length+1) gs6 0 c88.length:=by simp[Nh]
     simp only[e90]
     refine rn ?_
     cases h
     exact dc gs6 (bm hsc)
    ·refine rn ?_
     cases h
     exact dc gs6 (bm hsc)
   ·refine cf ?_
    refine cP ?_;simp only[go_sem,fx]
    exact⟨gs6,(bm hsc)⟩
   ·try simp only[go_sem,fx]
    unfold Q0 at h
    refine R8 hb ?_
    refine rn ?_
    cases h
    exact dc gt6 (bm hsc)
  ·refine cf ?_
   refine cP ?_;simp only[go_sem,fx]
   exact⟨gs4,(bm hsc)⟩
  ·try simp only[go_sem,fx]
   unfold Q5 at h
   refine R8 hb ?_
   refine rn ?_
   cases h
   exact dc gt4 (bm hsc)
 ·refine cf ?_
  refine cP ?_;simp only[go_sem,fx]
  exact⟨gs0,(bm hsc)⟩
 ·try simp only[go_sem,fx]
  unfold Q6 at h
  refine R8 hb ?_
  refine rn ?_
  obtain⟨v91,hv91,h⟩:=E7 h
  refine((eR _ _ _ hv91).borrow (args:=[.ref true (st.length+1) gt0 0 t0.length,.bool false]) (.cons _ _ _ _ (.ref _ _ _ _ _ _ _ _ _ (nK.trans rfl) rj (by decide) (sD _) (by simp only[go_sem])) (.cons _ _ _ _ .s .nil)) (by simp) rfl ) ?_
  exact rt
theorem U4(n:Nat)(a0:x7)(a1:B0)(r:w5)(h:F5 n a0 a1=some r):Pure Tryz.prog gl 41 [.agg [.sl false 2 40 (rows x5.cells a0.types),.sl false 3 32 (rows A0.cells a0.C2)],.agg [.sl false 2 32 (rows y4.cells a1.nodes)]] (.agg [.int .i64 r.code,.int .i64 r.index]):=by
 intro st
 unfold F5 at h
 have fx:=trivial
 refine fb 74 [.cell 4 39] [0,1,2,3,4,5,6,7,9,10,11,17,20,21,22,23,28,29,30,31,49,50,51,52,53,54,55,56,57,58,59,60,61,62,70] Tryz.func41 fun hsc=>?_
 refine cl h (gG _ _) fun v1 h=>?_
 refine cd h (fun hc h=>?_) fun hc h=>?_
 ·exact rt
 ·refine aln 20 fun hl0=>?_
  refine rng (body:=M8 n a1 a0) (kk:=N3 a1) (n:=a1.nodes.length) (s0:=())
   (fun(gs0:Unit) (k0:Nat) (s0:Unit)=>[(2,.ptr st.length 0 0 0),(3,.ptr (st.length+1) 0 0 0),(4,.ptr (st.length+2) 0 0 0),(20,.sl false 2 32 (rows y4.cells a1.nodes)),(21,.int .i64 (↑a1.nodes.length:Int)),(22,.int .i64 (↑k0:Int))])
   (fun(gs0:Unit) (k0:Nat) (s0:Unit)=>st++[some (.arr 0 2 0 [[.sl false 2 40 (rows x5.cells a0.types),.sl false 3 32 (rows A0.cells a0.C2)]]),some (.arr 0 1 0 [[.sl false 2 32 (rows y4.cells a1.nodes)]]),some (.arr 0 2 0 [[.int .i64 0,.int .i64 0]])])
   (fun(gt0:Unit) (t0:Unit)=>[(3,.ptr (st.length+1) 0 0 0),(4,.ptr (st.length+2) 0 0 0)])
   (fun(gt0:Unit) (t0:Unit)=>st++[none,some (.arr 0 1 0 [[.sl false 2 32 (rows y4.cells a1.nodes)]]),some (.arr 0 2 0 [[.int .i64 0,.int .i64 0]])])
   () fx hl0 h (bm hsc)
   (fun gs0 k0 s0 b0 fx h hx0=>?_) (fun gs0 s0=>?_) (fun gt0 t0 fr1 st1 h hb=>?_)
  ·unfold M8 at h
   refine ct ?_
   refine aln 28 fun hl2=>?_
   refine rng (body:=M9 n a1 k0 a0) (kk:=N0) (n:=((get a1.nodes k0).links).length) (s0:=())
    (fun(gs2:Unit) (k2:Nat) (s2:Unit)=>[(2,.ptr st.length 0 0 0),(3,.ptr (st.length+1) 0 0 0),(4,.ptr (st.length+2) 0 0 0),(6,.int .i64 (↑k0:Int)),(7,.ptr (st.length+3) 0 0 0),(20,.sl false 2 32 (rows y4.cells a1.nodes)),(21,.int .i64 (↑a1.nodes.length:Int)),(22,.int .i64 (↑k0:Int)),(28,.sl false 2 16 (rows D9.cells ((get a1.nodes k0).links))),(29,.int .i64 (↑(((get a1.nodes k0).links).length):Int)),(30,.int .i64 (↑k2:Int))])
    (fun(gs2:Unit) (k2:Nat) (s2:Unit)=>st++[some (.arr 0 2 0 [[.sl false 2 40 (rows x5.cells a0.types),.sl false 3 32 (rows A0.cells a0.C2)]]),some (.arr 0 1 0 [[.sl false 2 32 (rows y4.cells a1.nodes)]]),some (.arr 0 2 0 [[.int .i64 0,.int .i64 0]]),some (.arr 0 2 0 [[.int .i64 ((get a1.nodes k0).type),.sl false 2 16 (rows D9.cells ((get a1.nodes k0).links))]])])
    (fun(gt2:Unit) (t2:Unit)=>[(2,.ptr st.length 0 0 0),(3,.ptr (st.length+1) 0 0 0),(4,.ptr (st.length+2) 0 0 0),(20,.sl false 2 32 (rows y4.cells a1.nodes)),(21,.int .i64 (↑a1.nodes.length:Int)),(22,.int .i64 (↑k0:Int))])
    (fun(gt2:Unit) (t2:Unit)=>st++[some (.arr 0 2 0 [[.sl false 2 40 (rows x5.cells a0.types),.sl false 3 32 (rows A0.cells a0.C2)]]),some (.arr 0 1 0 [[.sl false 2 32 (rows y4.cells a1.nodes)]]),some (.arr 0 2 0 [[.int .i64 0,.int .i64 0]])])
    () fx hl2 h (bm hsc)
    (fun gs2 k2 s2 b2 fx h hx2=>?_) (fun gs2 s2=>?_) (fun gt2 t2 fr1 st1 h hb=>?_)
   ·unfold M9 at h
    refine ct ?_
    obtain⟨fx,h⟩:=ck fx h
    refine rn ?_
    refine dw [] 0 ?_
    obtain⟨v25,hv25,h⟩:=E7 h
    refine y9 (bW n _ _ _ _ hv25) ?_
    obtain⟨fx,h⟩:=ck fx h
    try simp only[go_sem,fx]
    obtain⟨v29,hv29,h⟩:=E7 h
    refine dZ (fun hG=>(bW n _ _ _ _ (sM hv29 (by simpa using hG)))) ?_
    try simp only[go_sem,fx]
    refine cd h (fun hc h=>?_) fun hc h=>?_
    ·refine ra ?_
     cases h
     refine D4 ?_;obtain rfl:=hx2 _ rfl;try simp only[go_sem,fx]
     refine D4 ?_;have h:=congrArg some (hx0 _ rfl)
     exact rt
    ·refine rn ?_
     cases h
     exact dc () (bm hsc)
   ·refine cf ?_
    refine cP ?_;simp only[go_sem,fx]
    exact⟨(),(bm hsc)⟩
   ·try simp only[go_sem,fx]
    unfold N0 at h
    refine R8 hb ?_
    refine rn ?_
    cases h
    exact dc () (bm hsc)
  ·refine cf ?_
   refine cP ?_;simp only[go_sem,fx]
   exact⟨(),(bm hsc)⟩
  ·try simp only[go_sem,fx]
   unfold N3 at h
   refine R8 hb ?_
   refine cl h (iz _) fun v30 h=>?_
   refine cd h (fun hc h=>?_) fun hc h=>?_
   ·exact rt
   ·exact rt
theorem dR(a0:B0)(a1:Int)(a2:Int)(r:Int)(h:K6 a0 a1 a2=some r):Pure Tryz.prog gl 15 [.agg [.sl false 2 32 (rows y4.cells a0.nodes)],.int .i64 a1,.int .i64 a2] (.int .i64 r):=by
 intro st
 unfold K6 at h
 have fx:=trivial
 refine fb 27 [.tmp 6] [0,1,2,3,6,8,14,15,16,17,23] Tryz.func15 fun hsc=>?_
 obtain⟨fx,h⟩:=ck fx h
 refine aln 14 fun hl0=>?_
 refine rng (body:=T6 a0 a1 a2) (kk:=T7) (n:=((get a0.nodes a1.toNat).links).length) (s0:=())
  (fun(gs0:Unit) (k0:Nat) (s0:Unit)=>[(2,.int .i64 a2),(14,.sl false 2 16 (rows D9.cells ((get a0.nodes a1.toNat).links))),(15,.int .i64 (↑(((get a0.nodes a1.toNat).links).length):Int)),(16,.int .i64 (↑k0:Int))])
  (fun(gs0:Unit) (k0:Nat) (s0:Unit)=>st)
  (fun(gt0:Unit) (t0:Unit)=>[])
  (fun(gt0:Unit) (t0:Unit)=>st)
  () fx hl0 h (bm0 hsc)
  (fun gs0 k0 s0 b0 fx h hx0=>?_) (fun gs0 s0=>?_) (fun gt0 t0 fr1 st1 h hb=>?_)
 ·unfold T6 at h
  refine ct ?_
  refine cd h (fun hc h=>?_) fun hc h=>?_
  ·refine ra ?_
   cases h
   refine D4 ?_;have h:=congrArg some (hx0 _ rfl)
   exact rt
  ·refine rn ?_
   cases h
   exact dc () (bm0 hsc)
 ·refine cf ?_
  refine cP ?_;simp only[go_sem,fx]
  exact⟨(),(cT hsc)⟩
 ·try simp only[go_sem,fx]
  unfold T7 at h
  refine R8 hb ?_
  exact rt
theorem jI(a0:u0)(r:Bool)(h:T2 a0=some r):Pure Tryz.prog gl 98 [.agg [.str a0.base,.sl false 2 40 (rows u0.cells a0.args)]] (.bool r):=by
 intro st
 unfold T2 at h
 have fx:=trivial
 refine fb 12 [.tmp 2] [0,1,2,7,8,9,10] Tryz.func98 fun hsc=>?_
 exact rt
theorem kF(n:Nat)(a0:Bs)(r:Bool)(h:W4 n a0=some r):Pure Tryz.prog gl 99 [.str a0] (.bool r):=by
 intro st
 unfold W4 at h
 have fx:=trivial
 refine fb 62 [.tmp 2] [0,2,3,4,5,10,11,12,13,17,25,26,27,28,35,36,37,38,41,42,43,44,47,48,49,50,55,56,57,58,59,60,61] Tryz.func99 fun hsc=>?_
 refine cd h (fun hc h=>?_) fun hc h=>?_
 ·exact rt
 ·refine rn ?_
  refine I3 (body:=X4 a0) (kk:=bq) (n:=n) (s0:=0)
   (fun(gs0:Unit) (s0:Int)=>[(0,.str a0),(3,.int .i64 s0)])
   (fun(gs0:Unit) (s0:Int)=>st)
   (fun(gt0:Unit) (t0:Unit)=>[])
   (fun(gt0:Unit) (t0:Unit)=>st)
   () h (cT hsc)
   (fun gs0 s0 b0 h hx0=>?_) (fun gt0 t0 fr1 st1 h hb=>?_)
  ·unfold X4 at h
   refine cd h (fun hc h=>?_) fun hc h=>?_
   ·obtain⟨fx,h⟩:=ck fx h
    refine cd h (fun hc h=>?_) fun hc h=>?_
    ·refine ra ?_
     cases h
     refine aA ?_;have h:=congrArg some (hx0 _ rfl)
     exact rt
    ·refine rn ?_
     cases h
     exact J2 () (cT hsc)
   ·refine rn ?_
    cases h
    exact U0 () (cT hsc)
  ·try simp only[go_sem,fx]
   unfold bq at h
   refine R8 hb ?_
   exact rt
theorem fV(n:Nat)(a0:u0)(r:Int)(h:L1 n a0=some r):Pure Tryz.prog gl 100 [.agg [.str a0.base,.sl false 2 40 (rows u0.cells a0.args)]] (.int .i64 r):=by
 intro st
 unfold L1 at h
 have fx:=trivial
 refine fb 79 [.tmp 2] [0,1,2,3,4,5,11,28,29,30,31,35,40,67,68,69,70,73,74,75,76,77,78] Tryz.func100 fun hsc=>?_
 refine rn ?_
 refine I3 (body:=D5) (kk:=N4) (n:=n) (s0:=([(x9.mk a0 1)],0,1))
  (fun(gs0:Nat) (s0:(List x9)×Int×Nat)=>[(3,.ref false (st.length+1) gs0 0 s0.2.2),(4,.int .i64 s0.2.1)])
  (fun(gs0:Nat) (s0:(List x9)×Int×Nat)=>st++[none,some (.arr gs0 3 48 (rows x9.cells s0.1))])
  (fun(gt0:Unit) (t0:Unit)=>[])
  (fun(gt0:Unit) (t0:Unit)=>st)
  0 h (bm hsc)
  (fun gs0 s0 b0 h hx0=>?_) (fun gt0 t0 fr1 st1 h hb=>?_)
 ·unfold D5 at h
  refine cd h (fun hc h=>?_) fun hc h=>?_
  ·refine r0 ?_
   refine r0 ?_
   obtain⟨fx,h⟩:=ck fx h
   obtain⟨fx,h⟩:=ck fx h
   have fy:=(show(rows x9.cells s0.1).getD ((wr .i64 ((↑s0.2.2:Int)-1)).toNat) []=x9.cells (get s0.1 ((wr .i64 ((↑s0.2.2:Int)-1)).toNat))from jk (E:=x9.cells) (l:=s0.1) (k:=(wr .i64 ((↑s0.2.2:Int)-1)).toNat) (by first|omega|(simp;omega)))
   have fy:=fa fy (show(wr .i64 ((↑s0.2.2:Int)-1)).toNat<s0.1.length from by first|omega|(simp;omega))
   refine r1 ?_
   obtain⟨fx,h⟩:=ck fx h
   refine cd h (fun hc h=>?_) fun hc h=>?_
   ·refine ra ?_
    cases h
    refine aA ?_;have h:=congrArg some (hx0 _ rfl)
    exact rt
   ·refine cd h (fun hc h=>?_) fun hc h=>?_
    ·refine cd h (fun hc h=>?_) fun hc h=>?_
     ·refine ra ?_
      cases h
      refine aA ?_;have h:=congrArg some (hx0 _ rfl)
      exact rt
     ·refine rn ?_
      obtain⟨fx,h⟩:=ck fx h
      obtain⟨fx,h⟩:=ck fx h
      obtain⟨fx,h⟩:=ck fx h
      obtain⟨c25,Ni,h⟩:=lK h
      have fy:=(show rows x9.cells (s0.1.take ((wr .i64 ((↑s0.2.2:Int)-1)).toNat))++[[.str ((get ((get s0.1 ((wr .i64 ((↑s0.2.2:Int)-1)).toNat)).s.args) 1).base),.sl false 2 40 (rows u0.cells ((get ((get s0.1 ((wr .i64 ((↑s0.2.2:Int)-1)).toNat)).s.args) 1).args)),.int .i64 (wr .i64 (((get s0.1 ((wr .i64 ((↑s0.2.2:Int)-1)).toNat)).depth)+1))],[.str ((get ((get s0.1 ((wr .i64 ((↑s0.2.2:Int)-1)).toNat)).s.args) 0).base),.sl false 2 40 (rows u0.cells ((get ((get s0.1 ((wr .i64 ((↑s0.2.2:Int)-1)).toNat)).s.args) 0).args)),.int .i64 (wr .i64 (((get s0.1 ((wr .i64 ((↑s0.2.2:Int)-1)).toNat)).depth)+1))]]=rows x9.cells c25 from by rw[Ni];first|exact bA (E:=x9.cells) (s0.1.take ((wr .i64 ((↑s0.2.2:Int)-1)).toNat)) [(x9.mk (get ((get s0.1 ((wr .i64 ((↑s0.2.2:Int)-1)).toNat)).s.args) 1) (wr .i64 (((get s0.1 ((wr .i64 ((↑s0.2.2:Int)-1)).toNat)).depth)+1))),(x9.mk (get ((get s0.1 ((wr .i64 ((↑s0.2.2:Int)-1)).toNat)).s.args) 0) (wr .i64 (((get s0.1 ((wr .i64 ((↑s0.2.2:Int)-1)).toNat)).depth)+1)))]|simp only[go_sem,rows,List.map_append,List.map_cons,List.map_nil])
      have fy:=fa fy (show(wr .i64 ((↑s0.2.2:Int)-1)).toNat+2=c25.length from by rw[Ni];simp<;>omega)
      obtain⟨fx,h⟩:=ck fx h
      refine dwy [] 2 ?_
      cases h
      exact J2 (gs0+1) (bm hsc)
    ·refine cd h (fun hc h=>?_) fun hc h=>?_
     ·refine ra ?_
      cases h
      refine aA ?_;have h:=congrArg some (hx0 _ rfl)
      exact rt
     ·refine rn ?_
      cases h
      exact J2 gs0 (bm hsc)
  ·refine rn ?_
   cases h
   exact U0 () (bm0 hsc)
 ·try simp only[go_sem,fx]
  unfold N4 at h
  refine R8 hb ?_
  exact rt
end Go.Proofs.YtoekkdodipnmpaaGreatDoor
