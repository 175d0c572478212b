import Derived.Test.YtonfgoanbllceaaGreatDoorAWalk11
set_option linter.unusedVariables false
set_option linter.unusedSimpArgs false
set_option maxHeartbeats 2000000
set_option maxRecDepth 100000
namespace Go.Proofs.YtonfgoanbllceaaGreatDoor
open Go Go.Am
theorem lG(a0:y5)(r:Int)(h:M9 a0=some r):Pure Tryz.prog gl 94 [.agg [.sl false 2 32 (rows x5.cells a0.nodes)]] (.int .i64 r):=by
 intro st
 unfold M9 at h
 have fx:=trivial
 refine fb 47 [.tmp 2] [0,1,2,3,4,5,7,16,17,18,20,21,22,23,28,29,30,31,37] Tryz.func94 fun hsc=>?_
 refine r0 ?_
 obtain⟨fx,h⟩:=ck fx h
 have fy:=(show List.replicate a0.nodes.length [.bool false]=rows D6 (List.replicate a0.nodes.length (default:Bool))from sk (E:=D6) _ default)
 refine r1 ?_
 obtain⟨fx,h⟩:=ck fx h
 have fy:=(show(rows D6 (List.replicate a0.nodes.length (default:Bool))).getD 0 []=D6 (get (List.replicate a0.nodes.length (default:Bool)) 0)from oP (E:=D6) (l:=(List.replicate a0.nodes.length (default:Bool))) (k:=0) (by first|omega|(simp;omega)))
 have fy:=fa fy (show 0<a0.nodes.length from by first|omega|(simp;omega))
 obtain⟨c7,hc7,h⟩:=mO h
 have fy:=fa fy (show(rows D6 (List.replicate a0.nodes.length (default:Bool))).set 0 [.bool true]=rows D6 c7 from by rw[hc7];first|exact ER (E:=D6) _ _ _|simp only[go_sem,rows,List.map_set])
 refine r1 ?_
 have e9:D.ref true (st.length+1) 0 0 a0.nodes.length=D.ref true (st.length+1) 0 0 c7.length:=by simp[hc7]
 simp only[e9]
 obtain⟨fx,h⟩:=ck fx h
 refine rn ?_
 refine rng (body:=T5 a0) (kk:=U0) (n:=a0.nodes.length) (s0:=c7)
  (fun(gs0:Nat) (k0:Nat) (s0:(List Bool))=>[(1,.ptr st.length 0 0 0),(3,.ref true (st.length+1) gs0 0 s0.length),(16,.int .i64 (↑a0.nodes.length:Int)),(17,.int .i64 (↑k0:Int))])
  (fun(gs0:Nat) (k0:Nat) (s0:(List Bool))=>st++[some (.arr 0 1 0 [[.sl false 2 32 (rows x5.cells a0.nodes)]]),some (.arr gs0 1 1 (rows D6 s0))])
  (fun(gt0:Nat) (t0:(List Bool))=>[(3,.ref true (st.length+1) gt0 0 t0.length)])
  (fun(gt0:Nat) (t0:(List Bool))=>st++[none,some (.arr gt0 1 1 (rows D6 t0))])
  0 fx fx.2 h (bm hsc)
  (fun gs0 k0 s0 b0 fx h hx0=>?_) (fun gs0 s0=>?_) (fun gt0 t0 fr1 st1 h hb=>?_)
 ·unfold T5 at h
  refine ct ?_
  refine aln 20 fun hl4=>?_
  refine rng (body:=T6 a0) (kk:=T9) (n:=a0.nodes.length) (s0:=s0)
   (fun(gs4:Nat) (k4:Nat) (s4:(List Bool))=>[(1,.ptr st.length 0 0 0),(3,.ref true (st.length+1) gs4 0 s4.length),(16,.int .i64 (↑a0.nodes.length:Int)),(17,.int .i64 (↑k0:Int)),(20,.sl false 2 32 (rows x5.cells a0.nodes)),(21,.int .i64 (↑a0.nodes.length:Int)),(22,.int .i64 (↑k4:Int))])
   (fun(gs4:Nat) (k4:Nat) (s4:(List Bool))=>st++[some (.arr 0 1 0 [[.sl false 2 32 (rows x5.cells a0.nodes)]]),some (.arr gs4 1 1 (rows D6 s4))])
   (fun(gt4:Nat) (t4:(List Bool))=>[(1,.ptr st.length 0 0 0),(3,.ref true (st.length+1) gt4 0 t4.length),(16,.int .i64 (↑a0.nodes.length:Int)),(17,.int .i64 (↑k0:Int))])
   (fun(gt4:Nat) (t4:(List Bool))=>st++[some (.arr 0 1 0 [[.sl false 2 32 (rows x5.cells a0.nodes)]]),some (.arr gt4 1 1 (rows D6 t4))])
   gs0 fx hl4 h (bm hsc)
   (fun gs4 k4 s4 b4 fx h hx4=>?_) (fun gs4 s4=>?_) (fun gt4 t4 fr1 st1 h hb=>?_)
  ·unfold T6 at h
   refine ct ?_
   refine aln 28 fun hl6=>?_
   refine rng (body:=T7 k4 a0) (kk:=T8) (n:=((get a0.nodes k4).links).length) (s0:=s4)
    (fun(gs6:Nat) (k6:Nat) (s6:(List Bool))=>[(1,.ptr st.length 0 0 0),(3,.ref true (st.length+1) gs6 0 s6.length),(4,.int .i64 (↑k4:Int)),(16,.int .i64 (↑a0.nodes.length:Int)),(17,.int .i64 (↑k0:Int)),(20,.sl false 2 32 (rows x5.cells a0.nodes)),(21,.int .i64 (↑a0.nodes.length:Int)),(22,.int .i64 (↑k4:Int)),(28,.sl false 2 16 (rows D3.cells ((get a0.nodes k4).links))),(29,.int .i64 (↑(((get a0.nodes k4).links).length):Int)),(30,.int .i64 (↑k6:Int))])
    (fun(gs6:Nat) (k6:Nat) (s6:(List Bool))=>st++[some (.arr 0 1 0 [[.sl false 2 32 (rows x5.cells a0.nodes)]]),some (.arr gs6 1 1 (rows D6 s6))])
    (fun(gt6:Nat) (t6:(List Bool))=>[(1,.ptr st.length 0 0 0),(3,.ref true (st.length+1) gt6 0 t6.length),(16,.int .i64 (↑a0.nodes.length:Int)),(17,.int .i64 (↑k0:Int)),(20,.sl false 2 32 (rows x5.cells a0.nodes)),(21,.int .i64 (↑a0.nodes.length:Int)),(22,.int .i64 (↑k4:Int))])
    (fun(gt6:Nat) (t6:(List Bool))=>st++[some (.arr 0 1 0 [[.sl false 2 32 (rows x5.cells a0.nodes)]]),some (.arr gt6 1 1 (rows D6 t6))])
    gs4 fx hl6 h (bm hsc)
    (fun gs6 k6 s6 b6 fx h hx6=>?_) (fun gs6 s6=>?_) (fun gt6 t6 fr1 st1 h hb=>?_)
   ·unfold T7 at h
    refine ct ?_
    refine r0 ?_
    refine r0 ?_
    refine r0 ?_
    obtain⟨fx,h⟩:=ck fx h
    have fy:=(show(rows D6 s6).getD k4 []=D6 (get s6 k4)from oP (E:=D6) (l:=s6) (k:=k4) (by first|omega|(simp;omega)))
    have fy:=fa fy (show k4<s6.length from by first|omega|(simp;omega))
    refine r1 ?_
    refine cd h (fun hc h=>?_) fun hc h=>?_
    ·obtain⟨fx,h⟩:=ck fx h
     have fy:=(show(rows D6 s6).getD (((get ((get a0.nodes k4).links) k6).to_).toNat) []=D6 (get s6 (((get ((get a0.nodes k4).links) k6).to_).toNat))from oP (E:=D6) (l:=s6) (k:=((get ((get a0.nodes k4).links) k6).to_).toNat) (by first|omega|(simp;omega)))
     have fy:=fa fy (show((get ((get a0.nodes k4).links) k6).to_).toNat<s6.length from by first|omega|(simp;omega))
     obtain⟨c88,Tw,h⟩:=mO h
     have fy:=fa fy (show(rows D6 s6).set (((get ((get a0.nodes k4).links) k6).to_).toNat) [.bool true]=rows D6 c88 from by rw[Tw];first|exact ER (E:=D6) _ _ _|simp only[go_sem,rows,List.map_set])
     refine r1 ?_
     have e90:D.ref true (st.length+1) gs6 0 s6.length=D.ref true (st.length+1) gs6 0 c88.length:=by simp[Tw]
     simp only[e90]
     refine rn ?_
     cases h
     exact aT gs6 (bm hsc)
    ·refine rn ?_
     cases h
     exact aT gs6 (bm hsc)
   ·refine cf ?_
    refine X5 ?_;simp only[go_sem,fx]
    exact⟨gs6,(bm hsc)⟩
   ·try simp only[go_sem,fx]
    unfold T8 at h
    refine K6 hb ?_
    refine rn ?_
    cases h
    exact aT gt6 (bm hsc)
  ·refine cf ?_
   refine X5 ?_;simp only[go_sem,fx]
   exact⟨gs4,(bm hsc)⟩
  ·try simp only[go_sem,fx]
   unfold T9 at h
   refine K6 hb ?_
   refine rn ?_
   cases h
   exact aT gt4 (bm hsc)
 ·refine cf ?_
  refine X5 ?_;simp only[go_sem,fx]
  exact⟨gs0,(bm hsc)⟩
 ·try simp only[go_sem,fx]
  unfold U0 at h
  refine K6 hb ?_
  refine rn ?_
  obtain⟨v91,hv91,h⟩:=E4 h
  refine((jg _ _ _ hv91).borrow (args:=[.ref true (st.length+1) gt0 0 t0.length,.bool false]) (.cons _ _ _ _ (.ref _ _ _ _ _ _ _ _ _ (iC.trans rfl) Bv (by decide) (lQ _) (by simp only[go_sem])) (.cons _ _ _ _ .s .nil)) (by simp) rfl ) ?_
  exact rt
theorem Y8(n:Nat)(a0:w5)(a1:y5)(r:x6)(h:G8 n a0 a1=some r):Pure Tryz.prog gl 70 [.agg [.sl false 2 40 (rows w8.cells a0.types),.sl false 3 32 (rows y3.cells a0.B1)],.agg [.sl false 2 32 (rows x5.cells a1.nodes)]] (.agg [.int .i64 r.code,.int .i64 r.index]):=by
 intro st
 unfold G8 at h
 have fx:=trivial
 refine fb 74 [.cell 4 41] [0,1,2,3,4,5,6,7,9,10,11,17,20,21,22,23,28,29,30,31,49,50,51,52,53,54,55,56,57,58,59,60,61,62,70] Tryz.func70 fun hsc=>?_
 refine cl h (kC _ _) fun v1 h=>?_
 refine cd h (fun hc h=>?_) fun hc h=>?_
 ·exact rt
 ·refine aln 20 fun hl0=>?_
  refine rng (body:=Q0 n a1 a0) (kk:=Q7 a1) (n:=a1.nodes.length) (s0:=())
   (fun(gs0:Unit) (k0:Nat) (s0:Unit)=>[(2,.ptr st.length 0 0 0),(3,.ptr (st.length+1) 0 0 0),(4,.ptr (st.length+2) 0 0 0),(20,.sl false 2 32 (rows x5.cells a1.nodes)),(21,.int .i64 (↑a1.nodes.length:Int)),(22,.int .i64 (↑k0:Int))])
   (fun(gs0:Unit) (k0:Nat) (s0:Unit)=>st++[some (.arr 0 2 0 [[.sl false 2 40 (rows w8.cells a0.types),.sl false 3 32 (rows y3.cells a0.B1)]]),some (.arr 0 1 0 [[.sl false 2 32 (rows x5.cells a1.nodes)]]),some (.arr 0 2 0 [[.int .i64 0,.int .i64 0]])])
   (fun(gt0:Unit) (t0:Unit)=>[(3,.ptr (st.length+1) 0 0 0),(4,.ptr (st.length+2) 0 0 0)])
   (fun(gt0:Unit) (t0:Unit)=>st++[none,some (.arr 0 1 0 [[.sl false 2 32 (rows x5.cells a1.nodes)]]),some (.arr 0 2 0 [[.int .i64 0,.int .i64 0]])])
   () fx hl0 h (bm hsc)
   (fun gs0 k0 s0 b0 fx h hx0=>?_) (fun gs0 s0=>?_) (fun gt0 t0 fr1 st1 h hb=>?_)
  ·unfold Q0 at h
   refine ct ?_
   refine aln 28 fun hl2=>?_
   refine rng (body:=Q5 n a1 k0 a0) (kk:=Q6) (n:=((get a1.nodes k0).links).length) (s0:=())
    (fun(gs2:Unit) (k2:Nat) (s2:Unit)=>[(2,.ptr st.length 0 0 0),(3,.ptr (st.length+1) 0 0 0),(4,.ptr (st.length+2) 0 0 0),(6,.int .i64 (↑k0:Int)),(7,.ptr (st.length+3) 0 0 0),(20,.sl false 2 32 (rows x5.cells a1.nodes)),(21,.int .i64 (↑a1.nodes.length:Int)),(22,.int .i64 (↑k0:Int)),(28,.sl false 2 16 (rows D3.cells ((get a1.nodes k0).links))),(29,.int .i64 (↑(((get a1.nodes k0).links).length):Int)),(30,.int .i64 (↑k2:Int))])
    (fun(gs2:Unit) (k2:Nat) (s2:Unit)=>st++[some (.arr 0 2 0 [[.sl false 2 40 (rows w8.cells a0.types),.sl false 3 32 (rows y3.cells a0.B1)]]),some (.arr 0 1 0 [[.sl false 2 32 (rows x5.cells a1.nodes)]]),some (.arr 0 2 0 [[.int .i64 0,.int .i64 0]]),some (.arr 0 2 0 [[.int .i64 ((get a1.nodes k0).type),.sl false 2 16 (rows D3.cells ((get a1.nodes k0).links))]])])
    (fun(gt2:Unit) (t2:Unit)=>[(2,.ptr st.length 0 0 0),(3,.ptr (st.length+1) 0 0 0),(4,.ptr (st.length+2) 0 0 0),(20,.sl false 2 32 (rows x5.cells a1.nodes)),(21,.int .i64 (↑a1.nodes.length:Int)),(22,.int .i64 (↑k0:Int))])
    (fun(gt2:Unit) (t2:Unit)=>st++[some (.arr 0 2 0 [[.sl false 2 40 (rows w8.cells a0.types),.sl false 3 32 (rows y3.cells a0.B1)]]),some (.arr 0 1 0 [[.sl false 2 32 (rows x5.cells a1.nodes)]]),some (.arr 0 2 0 [[.int .i64 0,.int .i64 0]])])
    () fx hl2 h (bm hsc)
    (fun gs2 k2 s2 b2 fx h hx2=>?_) (fun gs2 s2=>?_) (fun gt2 t2 fr1 st1 h hb=>?_)
   ·unfold Q5 at h
    refine ct ?_
    obtain⟨fx,h⟩:=ck fx h
    refine rn ?_
    refine dw [] 0 ?_
    obtain⟨v25,hv25,h⟩:=E4 h
    refine A9 (fH n _ _ _ _ hv25) ?_
    obtain⟨fx,h⟩:=ck fx h
    try simp only[go_sem,fx]
    obtain⟨v29,hv29,h⟩:=E4 h
    refine bB (fun hG=>(fH n _ _ _ _ (kh hv29 (by simpa using hG)))) ?_
    try simp only[go_sem,fx]
    refine cd h (fun hc h=>?_) fun hc h=>?_
    ·refine ra ?_
     cases h
     refine D4 ?_;obtain rfl:=hx2 _ rfl;try simp only[go_sem,fx]
     refine D4 ?_;have h:=congrArg some (hx0 _ rfl)
     exact rt
    ·refine rn ?_
     cases h
     exact aT () (bm hsc)
   ·refine cf ?_
    refine X5 ?_;simp only[go_sem,fx]
    exact⟨(),(bm hsc)⟩
   ·try simp only[go_sem,fx]
    unfold Q6 at h
    refine K6 hb ?_
    refine rn ?_
    cases h
    exact aT () (bm hsc)
  ·refine cf ?_
   refine X5 ?_;simp only[go_sem,fx]
   exact⟨(),(bm hsc)⟩
  ·try simp only[go_sem,fx]
   unfold Q7 at h
   refine K6 hb ?_
   refine cl h (lG _) fun v30 h=>?_
   refine cd h (fun hc h=>?_) fun hc h=>?_
   ·exact rt
   ·exact rt
theorem nJ(a0:y5)(a1:Int)(a2:Int)(r:Int)(h:W6 a0 a1 a2=some r):Pure Tryz.prog gl 89 [.agg [.sl false 2 32 (rows x5.cells a0.nodes)],.int .i64 a1,.int .i64 a2] (.int .i64 r):=by
 intro st
 unfold W6 at h
 have fx:=trivial
 refine fb 27 [.tmp 6] [0,1,2,3,6,8,14,15,16,17,23] Tryz.func89 fun hsc=>?_
 obtain⟨fx,h⟩:=ck fx h
 refine aln 14 fun hl0=>?_
 refine rng (body:=X6 a0 a1 a2) (kk:=X7) (n:=((get a0.nodes a1.toNat).links).length) (s0:=())
  (fun(gs0:Unit) (k0:Nat) (s0:Unit)=>[(2,.int .i64 a2),(14,.sl false 2 16 (rows D3.cells ((get a0.nodes a1.toNat).links))),(15,.int .i64 (↑(((get a0.nodes a1.toNat).links).length):Int)),(16,.int .i64 (↑k0:Int))])
  (fun(gs0:Unit) (k0:Nat) (s0:Unit)=>st)
  (fun(gt0:Unit) (t0:Unit)=>[])
  (fun(gt0:Unit) (t0:Unit)=>st)
  () fx hl0 h (bm0 hsc)
  (fun gs0 k0 s0 b0 fx h hx0=>?_) (fun gs0 s0=>?_) (fun gt0 t0 fr1 st1 h hb=>?_)
 ·unfold X6 at h
  refine ct ?_
  refine cd h (fun hc h=>?_) fun hc h=>?_
  ·refine ra ?_
   cases h
   refine D4 ?_;have h:=congrArg some (hx0 _ rfl)
   exact rt
  ·refine rn ?_
   cases h
   exact aT () (bm0 hsc)
 ·refine cf ?_
  refine X5 ?_;simp only[go_sem,fx]
  exact⟨(),(bW hsc)⟩
 ·try simp only[go_sem,fx]
  unfold X7 at h
  refine K6 hb ?_
  exact rt
theorem nK(a0:u0)(r:Bool)(h:W7 a0=some r):Pure Tryz.prog gl 117 [.agg [.str a0.base,.sl false 2 40 (rows u0.cells a0.args)]] (.bool r):=by
 intro st
 unfold W7 at h
 have fx:=trivial
 refine fb 12 [.tmp 2] [0,1,2,7,8,9,10] Tryz.func117 fun hsc=>?_
 exact rt
theorem oN(n:Nat)(a0:Bs)(r:Bool)(h:aJ n a0=some r):Pure Tryz.prog gl 118 [.str a0] (.bool r):=by
 intro st
 unfold aJ at h
 have fx:=trivial
 refine fb 62 [.tmp 2] [0,2,3,4,5,10,11,12,13,17,25,26,27,28,35,36,37,38,41,42,43,44,47,48,49,50,55,56,57,58,59,60,61] Tryz.func118 fun hsc=>?_
 refine cd h (fun hc h=>?_) fun hc h=>?_
 ·exact rt
 ·refine rn ?_
  refine H9 (body:=aX a0) (kk:=eB) (n:=n) (s0:=0)
   (fun(gs0:Unit) (s0:Int)=>[(0,.str a0),(3,.int .i64 s0)])
   (fun(gs0:Unit) (s0:Int)=>st)
   (fun(gt0:Unit) (t0:Unit)=>[])
   (fun(gt0:Unit) (t0:Unit)=>st)
   () h (bW hsc)
   (fun gs0 s0 b0 h hx0=>?_) (fun gt0 t0 fr1 st1 h hb=>?_)
  ·unfold aX at h
   refine cd h (fun hc h=>?_) fun hc h=>?_
   ·obtain⟨fx,h⟩:=ck fx h
    refine cd h (fun hc h=>?_) fun hc h=>?_
    ·refine ra ?_
     cases h
     refine ep ?_;have h:=congrArg some (hx0 _ rfl)
     exact rt
    ·refine rn ?_
     cases h
     exact I6 () (bW hsc)
   ·refine rn ?_
    cases h
    exact T2 () (bW hsc)
  ·try simp only[go_sem,fx]
   unfold eB at h
   refine K6 hb ?_
   exact rt
theorem jW(n:Nat)(a0:u0)(r:Int)(h:O5 n a0=some r):Pure Tryz.prog gl 119 [.agg [.str a0.base,.sl false 2 40 (rows u0.cells a0.args)]] (.int .i64 r):=by
 intro st
 unfold O5 at h
 have fx:=trivial
 refine fb 79 [.tmp 2] [0,1,2,3,4,5,11,28,29,30,31,35,40,67,68,69,70,73,74,75,76,77,78] Tryz.func119 fun hsc=>?_
 refine rn ?_
 refine H9 (body:=E0) (kk:=Q8) (n:=n) (s0:=([(y7.mk a0 1)],0,1))
  (fun(gs0:Nat) (s0:(List y7)×Int×Nat)=>[(3,.ref false (st.length+1) gs0 0 s0.2.2),(4,.int .i64 s0.2.1)])
  (fun(gs0:Nat) (s0:(List y7)×Int×Nat)=>st++[none,some (.arr gs0 3 48 (rows y7.cells s0.1))])
  (fun(gt0:Unit) (t0:Unit)=>[])
  (fun(gt0:Unit) (t0:Unit)=>st)
  0 h (bm hsc)
  (fun gs0 s0 b0 h hx0=>?_) (fun gt0 t0 fr1 st1 h hb=>?_)
 ·unfold E0 at h
  refine cd h (fun hc h=>?_) fun hc h=>?_
  ·refine r0 ?_
   refine r0 ?_
   obtain⟨fx,h⟩:=ck fx h
   obtain⟨fx,h⟩:=ck fx h
   have fy:=(show(rows y7.cells s0.1).getD ((wr .i64 ((↑s0.2.2:Int)-1)).toNat) []=y7.cells (get s0.1 ((wr .i64 ((↑s0.2.2:Int)-1)).toNat))from oP (E:=y7.cells) (l:=s0.1) (k:=(wr .i64 ((↑s0.2.2:Int)-1)).toNat) (by first|omega|(simp;omega)))
   have fy:=fa fy (show(wr .i64 ((↑s0.2.2:Int)-1)).toNat<s0.1.length from by first|omega|(simp;omega))
   refine r1 ?_
   obtain⟨fx,h⟩:=ck fx h
   refine cd h (fun hc h=>?_) fun hc h=>?_
   ·refine ra ?_
    cases h
    refine ep ?_;have h:=congrArg some (hx0 _ rfl)
    exact rt
   ·refine cd h (fun hc h=>?_) fun hc h=>?_
    ·refine cd h (fun hc h=>?_) fun hc h=>?_
     ·refine ra ?_
      cases h
      refine ep ?_;have h:=congrArg some (hx0 _ rfl)
      exact rt
     ·refine rn ?_
      obtain⟨fx,h⟩:=ck fx h
      obtain⟨fx,h⟩:=ck fx h
      obtain⟨fx,h⟩:=ck fx h
      obtain⟨c25,Tx,h⟩:=mO h
      have fy:=(show rows y7.cells (s0.1.take ((wr .i64 ((↑s0.2.2:Int)-1)).toNat))++[[.str ((get ((get s0.1 ((wr .i64 ((↑s0.2.2:Int)-1)).toNat)).s.args) 1).base),.sl false 2 40 (rows u0.cells ((get ((get s0.1 ((wr .i64 ((↑s0.2.2:Int)-1)).toNat)).s.args) 1).args)),.int .i64 (wr .i64 (((get s0.1 ((wr .i64 ((↑s0.2.2:Int)-1)).toNat)).depth)+1))],[.str ((get ((get s0.1 ((wr .i64 ((↑s0.2.2:Int)-1)).toNat)).s.args) 0).base),.sl false 2 40 (rows u0.cells ((get ((get s0.1 ((wr .i64 ((↑s0.2.2:Int)-1)).toNat)).s.args) 0).args)),.int .i64 (wr .i64 (((get s0.1 ((wr .i64 ((↑s0.2.2:Int)-1)).toNat)).depth)+1))]]=rows y7.cells c25 from by rw[Tx];first|exact N9 (E:=y7.cells) (s0.1.take ((wr .i64 ((↑s0.2.2:Int)-1)).toNat)) [(y7.mk (get ((get s0.1 ((wr .i64 ((↑s0.2.2:Int)-1)).toNat)).s.args) 1) (wr .i64 (((get s0.1 ((wr .i64 ((↑s0.2.2:Int)-1)).toNat)).depth)+1))),(y7.mk (get ((get s0.1 ((wr .i64 ((↑s0.2.2:Int)-1)).toNat)).s.args) 0) (wr .i64 (((get s0.1 ((wr .i64 ((↑s0.2.2:Int)-1)).toNat)).depth)+1)))]|simp only[go_sem,rows,List.map_append,List.map_cons,List.map_nil])
      have fy:=fa fy (show(wr .i64 ((↑s0.2.2:Int)-1)).toNat+2=c25.length from by rw[Tx];simp<;>omega)
      obtain⟨fx,h⟩:=ck fx h
      refine dwy [] 2 ?_
      cases h
      exact I6 (gs0+1) (bm hsc)
    ·refine cd h (fun hc h=>?_) fun hc h=>?_
     ·refine ra ?_
      cases h
      refine ep ?_;have h:=congrArg some (hx0 _ rfl)
      exact rt
     ·refine rn ?_
      cases h
      exact I6 gs0 (bm hsc)
  ·refine rn ?_
   cases h
   exact T2 () (bm0 hsc)
 ·try simp only[go_sem,fx]
  unfold Q8 at h
  refine K6 hb ?_
  exact rt
theorem nL(n:Nat)(a0:(List C1))(a1:Int)(r:Int)(h:R2 n a0 a1=some r):Pure Tryz.prog gl 127 [.sl false 7 104 (rows C1.cells a0),.int .i64 a1] (.int .i64 r):=by
 intro st
 unfold R2 at h
 have fx:=trivial
 refine fb 35 [.tmp 4] [0,1,4,5,6,18,29,31] Tryz.func127 fun hsc=>?_
 obtain⟨fx,h⟩:=ck fx h
 refine rn ?_
 refine H9 (body:=J6 a0) (kk:=cS) (n:=n) (s0:=((get a0 a1.toNat).index,(get a0 a1.toNat).up))
  (fun(gs0:Unit) (s0:Int×Int)=>[(0,.sl false 7 104 (rows C1.cells a0)),(5,.int .i64 s0.1),(6,.int .i64 s0.2)])
  (fun(gs0:Unit) (s0:Int×Int)=>st)
  (fun(gt0:Unit) (t0:Unit)=>[])
  (fun(gt0:Unit) (t0:Unit)=>st)
  () h (bW hsc)
  (fun gs0 s0 b0 h hx0=>?_) (fun gt0 t0 fr1 st1 h hb=>?_)
 ·unfold J6 at h
  refine cd h (fun hc h=>?_) fun hc h=>?_
  ·obtain⟨fx,h⟩:=ck fx h
   refine cd h (fun hc h=>?_) fun hc h=>?_
   ·refine cd h (fun hc h=>?_) fun hc h=>?_
    ·refine ra ?_
     cases h
     refine ep ?_;have h:=congrArg some (hx0 _ rfl)
     exact rt
    ·refine rn ?_
     cases h
     exact I6 () (bW hsc)
   ·refine rn ?_
    cases h
    exact I6 () (bW hsc)
  ·refine rn ?_
   cases h
   exact T2 () (bW hsc)
 ·try simp only[go_sem,fx]
  unfold cS at h
  refine K6 hb ?_
  exact rt
theorem qE(a0:u0)(a1:u0)(r:u0)(h:fW a0 a1=some r):Pure Tryz.prog gl 128 [.agg [.str a0.base,.sl false 2 40 (rows u0.cells a0.args)],.agg [.str a1.base,.sl false 2 40 (rows u0.cells a1.args)]] (.agg [.str r.base,.sl false 2 40 (rows u0.cells r.args)]):=by
 intro st
 unfold fW at h
 have fx:=trivial
 refine fb 9 [.cell 4 63] [0,1,2,3,4] Tryz.func128 fun hsc=>?_
 refine rr ?_
 exact fo (.agg [.str [],.sl false 2 40 (rows u0.cells [a0,a1])]) (.agg _ _ (.cons _ _ _ _ .s (.cons _ _ _ _ (.ref _ _ _ _ _ _ _ _ _ (iC.trans rfl) uX (by decide) (by simp[Imm,D.imm]) (by simp only[go_sem,rows,List.map_cons,List.map_nil])) .nil))) h hsc
theorem fh:∀(n:Nat) (a0:u0) (r:Bs) (h:E8 n a0=some r),Pure Tryz.prog gl 134 [.agg [.str a0.base,.sl false 2 40 (rows u0.cells a0.args)]] (.str r):=by
 intro n
 induction n with
 |zero=>intro a0 r h;cases h
 |succ n ih=>
  intro a0 r h st
  unfold E8 at h
  have fx:=trivial
  refine fb 22 [.tmp 2] [0,1,2,5] Tryz.func134 fun hsc=>?_
  refine cd h (fun hc h=>?_) fun hc h=>?_
  ·exact rt
  ·refine rn ?_
   obtain⟨fx,h⟩:=ck fx h
   refine dw [] 0 ?_
   obtain⟨v2,hv2,h⟩:=E4 h
   refine A9 (ih _ _ hv2) ?_
   obtain⟨fx,h⟩:=ck fx h
   obtain⟨fx,h⟩:=ck fx h
   obtain⟨fx,h⟩:=ck fx h
   try simp only[go_sem,fx]
   obtain⟨v6,hv6,h⟩:=E4 h
   refine A9 (ih _ _ hv6) ?_
   obtain⟨fx,h⟩:=ck fx h
   obtain⟨fx,h⟩:=ck fx h
   try simp only[go_sem,fx]
   exact rt
theorem lS(n:Nat)(a0:u0)(a1:u0)(r:Bool)(h:U3 n a0 a1=some r):Pure Tryz.prog gl 129 [.agg [.str a0.base,.sl false 2 40 (rows u0.cells a0.args)],.agg [.str a1.base,.sl false 2 40 (rows u0.cells a1.args)]] (.bool r):=by
 intro st
 unfold U3 at h
 have fx:=trivial
 refine fb 10 [.tmp 4] [0,1,2,3,4] Tryz.func129 fun hsc=>?_
 refine rn ?_
 refine dw [] 0 ?_
 obtain⟨v1,hv1,h⟩:=E4 h
 refine A9 (fh n _ _ hv1) ?_
 try simp only[go_sem,fx]
 obtain⟨v2,hv2,h⟩:=E4 h
 refine A9 (fh n _ _ hv2) ?_
 try simp only[go_sem,fx]
 exact rt
theorem nM(n:Nat)(a0:w6)(r:u0×Bool)(h:W8 n a0=some r):Pure Tryz.prog gl 120 [.agg [.int .i64 a0.kind,.str a0.name,.int .i64 a0.index,.str a0.type.base,.sl false 2 40 (rows u0.cells a0.type.args),.sl false 6 96 (rows w6.cells a0.args)]] (.tup [.agg [.str r.1.base,.sl false 2 40 (rows u0.cells r.1.args)],.bool r.2]):=by
 intro st
 unfold W8 at h
 have fx:=trivial
 refine fb 107 [.cell 2 63,.tmp 3] [0,1,2,3,4,5,6,7,8,9,19,27,28,35,47,62,82,83,84,85,88,89,90,91,92,93,94,95] Tryz.func120 fun hsc=>?_
 obtain⟨v1,hv1,h⟩:=E4 h
 refine r0 ?_
 (repeat apply sq_)
 refine cY 7 104 ?_
 try simp only[List.append_assoc,List.cons_append,List.nil_append]
 refine rn ?_
 refine((NJ n _ _ 0 _ hv1 _ (st.length+2) 0 [] rfl (cV.trans rfl)).up (.cons _ _ _ _ .s (.cons _ _ _ _ .s (.cons _ _ _ _ (.nref _ _ _ _ _ _ (iC.trans rfl)) .nil))) (by simp)).mono ?_
 rintro d1 st1 ⟨g2,E2,N2,rfl,rfl,sX⟩
 try simp only[go_sem,fx,Z4,Nat.zero_add]
 refine mN (fr':=[(1,.ptr st.length 0 0 0),(2,.ptr (st.length+1) 0 0 0),(3,.bool false),(4,.ref false (st.length+2) g2 0 v1.length)]) ⟨rfl,rfl,rfl,rfl,trivial⟩ ?_
 refine K6 (Lh (F:=[(1,.ptr st.length 0 0 0),(2,.ptr (st.length+1) 0 0 0),(3,.bool false),(4,.sl false 7 104 (rows C1.cells v1))]) hsc (by simpa using sX) (by simp) (fun _ _=>⟨.s,.s,.s,.s,trivial⟩) (fun _ _ u=>⟨.s,.s,.s,u,trivial⟩) (by simp) (by simp)) ?_
 obtain⟨fx,h⟩:=ck fx h
 refine r0 ?_
 (repeat apply sq_)
 refine K6 (F:=[(2,.ptr (st.length+1) 0 0 0),(4,.sl false 7 104 (rows C1.cells v1)),(5,.ref true (st.length+2) 0 0 v1.length)]) (T:=st++[some (.arr 0 6 0 [[.int .i64 a0.kind,.str a0.name,.int .i64 a0.index,.str a0.type.base,.sl false 2 40 (rows u0.cells a0.type.args),.sl false 6 96 (rows w6.cells a0.args)]]),some (.arr 0 2 0 [[.str [],.B3]]),some (.arr 0 2 40 (rows u0.cells (List.replicate v1.length (default:u0))))]) (jL hsc (.lv (.lv (.live _ _ _ _ (.arr _ _ _ _ _ (PF (by rw[u0.D8];exact(.cons _ _ _ _ .s (.cons _ _ _ _ (.B3 _ _ _ (by decide)) .nil))))) (.nil _)))) (by simp) ⟨.s,.s,.s,trivial⟩ (by simp)) ?_
 refine rn ?_
 refine H9 (body:=N0 n v1) (kk:=X8) (n:=n) (s0:=((List.replicate v1.length (default:u0)),(wr .i64 ((↑v1.length:Int)-1))))
  (fun(gs0:Nat) (s0:(List u0)×Int)=>[(2,.ptr (st.length+1) 0 0 0),(4,.sl false 7 104 (rows C1.cells v1)),(5,.ref true (st.length+2) gs0 0 s0.1.length),(6,.int .i64 s0.2)])
  (fun(gs0:Nat) (s0:(List u0)×Int)=>st++[none,some (.arr 0 2 0 [[.str [],.B3]]),some (.arr gs0 2 40 (rows u0.cells s0.1))])
  (fun(gt0:Nat) (t0:(List u0))=>[(2,.ptr (st.length+1) 0 0 0),(5,.ref true (st.length+2) gt0 0 t0.length)])
  (fun(gt0:Nat) (t0:(List u0))=>st++[none,some (.arr 0 2 0 [[.str [],.B3]]),some (.arr gt0 2 40 (rows u0.cells t0))])
  0 h (bm hsc (hf:=⟨.s,.s,nU (by first|(simp;done)|simp[Fr.get]),.s,trivial⟩))
  (fun gs0 s0 b0 h hx0=>?_) (fun gt0 t0 fr1 st1 h hb=>?_)
 ·unfold N0 at h
  refine cd h (fun hc h=>?_) fun hc h=>?_
  ·obtain⟨fx,h⟩:=ck fx h
   refine cd h (fun hc h=>?_) fun hc h=>?_
   ·obtain⟨fx,h⟩:=ck fx h
    have fy:=(show(rows u0.cells s0.1).getD s0.2.toNat []=u0.cells (get s0.1 s0.2.toNat)from oP (E:=u0.cells) (l:=s0.1) (k:=s0.2.toNat) (by first|omega|(simp;omega)))
    have fy:=fa fy (show s0.2.toNat<s0.1.length from by first|omega|(simp;omega))
    obtain⟨c54,Tz,h⟩:=mO h
    have fy:=fa fy (show(rows u0.cells s0.1).set s0.2.toNat [.str ((get v1 s0.2.toNat).typ.base),.sl false 2 40 (rows u0.cells ((get v1 s0.2.toNat).typ.args))]=rows u0.cells c54 from by rw[Tz];first|exact ER (E:=u0.cells) _ _ _|simp only[go_sem,rows,List.map_set])
    refine r1 ?_
    have e56:D.ref true (st.length+2) gs0 0 s0.1.length=D.ref true (st.length+2) gs0 0 c54.length:=by simp[Tz]
    simp only[e56]
    refine rn ?_
    cases h
    exact I6 gs0 (bm hsc)
   ·refine cd h (fun hc h=>?_) fun hc h=>?_
    ·refine cl h (nL n _ _) fun v57 h=>?_
     obtain⟨fx,h⟩:=ck fx h
     obtain⟨fx,h⟩:=ck fx h
     have fy:=(show(rows u0.cells s0.1).getD s0.2.toNat []=u0.cells (get s0.1 s0.2.toNat)from oP (E:=u0.cells) (l:=s0.1) (k:=s0.2.toNat) (by first|omega|(simp;omega)))
     have fy:=fa fy (show s0.2.toNat<s0.1.length from by first|omega|(simp;omega))
     obtain⟨c63,TA,h⟩:=mO h
     have fy:=fa fy (show(rows u0.cells s0.1).set s0.2.toNat [.str ((get v1 v57.toNat).typ.base),.sl false 2 40 (rows u0.cells ((get v1 v57.toNat).typ.args))]=rows u0.cells c63 from by rw[TA];first|exact ER (E:=u0.cells) _ _ _|simp only[go_sem,rows,List.map_set])
     try simp only[go_sem,fx,fy]
     have e65:D.ref true (st.length+2) gs0 0 s0.1.length=D.ref true (st.length+2) gs0 0 c63.length:=by simp[TA]
     simp only[e65]
     refine rn ?_
     cases h
     exact I6 gs0 (bm hsc)
    ·refine cd h (fun hc h=>?_) fun hc h=>?_
     ·refine rs ?_
      obtain⟨fx,h⟩:=ck fx h
      obtain⟨fx,h⟩:=ck fx h
      have fy:=(show(rows u0.cells s0.1).getD ((get ((get v1 s0.2.toNat).kids) 0).toNat) []=u0.cells (get s0.1 ((get ((get v1 s0.2.toNat).kids) 0).toNat))from oP (E:=u0.cells) (l:=s0.1) (k:=(get ((get v1 s0.2.toNat).kids) 0).toNat) (by first|omega|(simp;omega)))
      have fy:=fa fy (show(get ((get v1 s0.2.toNat).kids) 0).toNat<s0.1.length from by first|omega|(simp;omega))
      refine dwy [] 0 ?_
      obtain⟨v71,hv71,h⟩:=E4 h
      refine A9 (qE _ _ _ hv71) ?_
      obtain⟨fx,h⟩:=ck fx h
      have fy:=fa fy (show(rows u0.cells s0.1).getD s0.2.toNat []=u0.cells (get s0.1 s0.2.toNat)from oP (E:=u0.cells) (l:=s0.1) (k:=s0.2.toNat) (by first|omega|(simp;omega)))
      have fy:=fa fy (show s0.2.toNat<s0.1.length from by first|omega|(simp;omega))
      obtain⟨c75,TB,h⟩:=mO h
      have fy:=fa fy (show(rows u0.cells s0.1).set s0.2.toNat [.str v71.base,.sl false 2 40 (rows u0.cells v71.args)]=rows u0.cells c75 from by rw[TB];first|exact ER (E:=u0.cells) _ _ _|simp only[go_sem,rows,List.map_set])
      try simp only[go_sem,fx,fy]
      have e77:D.ref true (st.length+2) gs0 0 s0.1.length=D.ref true (st.length+2) gs0 0 c75.length:=by simp[TB]
      simp only[e77]
      refine rn ?_
      cases h
      exact I6 gs0 (bm hsc)
     ·refine cd h (fun hc h=>?_) fun hc h=>?_
      ·refine rs ?_
       obtain⟨fx,h⟩:=ck fx h
       obtain⟨fx,h⟩:=ck fx h
       have fy:=(show(rows u0.cells s0.1).getD ((get ((get v1 s0.2.toNat).kids) 0).toNat) []=u0.cells (get s0.1 ((get ((get v1 s0.2.toNat).kids) 0).toNat))from oP (E:=u0.cells) (l:=s0.1) (k:=(get ((get v1 s0.2.toNat).kids) 0).toNat) (by first|omega|(simp;omega)))
       have fy:=fa fy (show(get ((get v1 s0.2.toNat).kids) 0).toNat<s0.1.length from by first|omega|(simp;omega))
       obtain⟨fx,h⟩:=ck fx h
       obtain⟨fx,h⟩:=ck fx h
       have fy:=fa fy (show(rows u0.cells s0.1).getD ((get ((get v1 s0.2.toNat).kids) 1).toNat) []=u0.cells (get s0.1 ((get ((get v1 s0.2.toNat).kids) 1).toNat))from oP (E:=u0.cells) (l:=s0.1) (k:=(get ((get v1 s0.2.toNat).kids) 1).toNat) (by first|omega|(simp;omega)))
       have fy:=fa fy (show(get ((get v1 s0.2.toNat).kids) 1).toNat<s0.1.length from by first|omega|(simp;omega))
       refine dwy [9,10,11,12,13,16] 2 ?_
       try refine⟨by(simp<;>omega),?_⟩
       refine rs ?_
       obtain⟨fx,h⟩:=ck fx h
       refine dw [] 0 ?_
       obtain⟨v90,hv90,h⟩:=E4 h
       refine bB (fun hG=>(lS n _ _ _ (kh hv90 (by simpa using hG)))) ?_
       try simp only[go_sem,fx]
       refine cd h (fun hc h=>?_) fun hc h=>?_
       ·refine ra ?_
        cases h
        refine ep ?_;have h:=congrArg some (hx0 _ rfl)
        refine rr ?_
        exact fo (.tup [.agg [.str [],.sl false 2 40 (rows u0.cells [])],.bool false]) (.tup _ _ (.cons _ _ _ _ (.agg _ _ (.cons _ _ _ _ .s (.cons _ _ _ _ (.B3 _ _ _ (by decide)) .nil))) (.cons _ _ _ _ .s .nil)) rfl) h hsc
       ·refine r0 ?_
        obtain⟨fx,h⟩:=ck fx h
        obtain⟨fx,h⟩:=ck fx h
        have fy:=(show(rows u0.cells s0.1).getD s0.2.toNat []=u0.cells (get s0.1 s0.2.toNat)from oP (E:=u0.cells) (l:=s0.1) (k:=s0.2.toNat) (by first|omega|(simp;omega)))
        have fy:=fa fy (show s0.2.toNat<s0.1.length from by first|omega|(simp;omega))
        obtain⟨c95,TD,h⟩:=mO h
        have fy:=fa fy (show(rows u0.cells s0.1).set s0.2.toNat [.str ((get ((get s0.1 ((get ((get v1 s0.2.toNat).kids) 0).toNat)).args) 1).base),.sl false 2 40 (rows u0.cells ((get ((get s0.1 ((get ((get v1 s0.2.toNat).kids) 0).toNat)).args) 1).args))]=rows u0.cells c95 from by rw[TD];first|exact ER (E:=u0.cells) _ _ _|simp only[go_sem,rows,List.map_set])
        refine r1 ?_
        have e97:D.ref true (st.length+2) gs0 0 s0.1.length=D.ref true (st.length+2) gs0 0 c95.length:=by simp[TD]
        simp only[e97]
        refine rn ?_
        cases h
        exact I6 gs0 (bm hsc)
      ·refine rn ?_
       cases h
       exact I6 gs0 (bm hsc)
  ·refine rn ?_
   cases h
   exact T2 gs0 (bm hsc)
 ·try simp only[go_sem,fx]
  unfold X8 at h
  refine K6 hb ?_
  obtain⟨fx,h⟩:=ck fx h
  have fy:=(show(rows u0.cells t0).getD 0 []=u0.cells (get t0 0)from oP (E:=u0.cells) (l:=t0) (k:=0) (by first|omega|(simp;omega)))
  have fy:=fa fy (show 0<t0.length from by first|omega|(simp;omega))
  refine r1 ?_
  exact rt
end Go.Proofs.YtonfgoanbllceaaGreatDoor
