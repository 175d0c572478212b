import Derived.Test.YtfogbhjeihkliaaGreatDoorDXWalk0
set_option linter.unusedVariables false
set_option linter.unusedSimpArgs false
set_option maxHeartbeats 2000000
set_option maxRecDepth 100000
namespace Go.Proofs.YtfogbhjeihkliaaGreatDoor
open Go Go.Am
theorem jh(a0:Int)(a1:Int)(r:w9)(h:iV a0 a1=some r):Pure Tryz.prog gl 100 [.int .i64 a0,.int .i64 a1] (.agg [.int .i64 r.code,.int .i64 r.index]):=by
 intro st
 unfold iV at h
 have fx:=trivial
 refine fb 8 [.cell 4 37] [0,1,4] Tryz.func100 fun hsc=>?_
 exact rt
theorem Ca(a0:y6)(a1:B3)(r:w9)(h:pQ a0 a1=some r):Pure Tryz.prog gl 98 [.agg [.sl false 2 40 (rows x7.cells a0.types),.sl false 3 32 (rows y8.cells a0.C1)],.agg [.sl false 2 32 (rows y4.cells a1.nodes)]] (.agg [.int .i64 r.code,.int .i64 r.index]):=by
 intro st
 unfold pQ at h
 have fx:=trivial
 refine fb 86 [.cell 4 37] [0,1,2,3,4,5,6,7,9,15,16,17,18,19,22,23,24,25,33,34,35,36,37,38,39,43,44,45,46,53,54,55,56,57,58,61,62,63,66,67,68,69,70,71,72,78] Tryz.func98 fun hsc=>?_
 refine cd h (fun hc h=>?_) fun hc h=>?_
 ·refine cl h (jh _ _) fun v1 h=>?_
  exact rt
 ·refine aln 22 fun hl0=>?_
  refine rng (body:=mU a1 a0) (kk:=qE) (n:=a1.nodes.length) (s0:=())
   (fun(gs0:Unit) (k0:Nat) (s0:Unit)=>[(2,.ptr st.length 0 0 0),(3,.ptr (st.length+1) 0 0 0),(4,.ptr (st.length+2) 0 0 0),(22,.sl false 2 32 (rows y4.cells a1.nodes)),(23,.int .i64 (↑a1.nodes.length:Int)),(24,.int .i64 (↑k0:Int))])
   (fun(gs0:Unit) (k0:Nat) (s0:Unit)=>st++[some (.arr 0 2 0 [[.sl false 2 40 (rows x7.cells a0.types),.sl false 3 32 (rows y8.cells a0.C1)]]),some (.arr 0 1 0 [[.sl false 2 32 (rows y4.cells a1.nodes)]]),some (.arr 0 2 0 [[.int .i64 0,.int .i64 0]])])
   (fun(gt0:Unit) (t0:Unit)=>[(4,.ptr (st.length+2) 0 0 0)])
   (fun(gt0:Unit) (t0:Unit)=>st++[none,none,some (.arr 0 2 0 [[.int .i64 0,.int .i64 0]])])
   () fx hl0 h (bm hsc)
   (fun gs0 k0 s0 b0 fx h hx0=>?_) (fun gs0 s0=>?_) (fun gt0 t0 fr1 st1 h hb=>?_)
  ·unfold mU at h
   refine ct ?_
   refine cd h (fun hc h=>?_) fun hc h=>?_
   ·refine cl h (jh _ _) fun v7 h=>?_
    refine ra ?_
    cases h
    refine F4 ?_;have h:=congrArg some (hx0 _ rfl)
    exact rt
   ·refine aln 43 fun hl2=>?_
    refine rng (body:=mV a1 k0 a0) (kk:=mW) (n:=((get a1.nodes k0).links).length) (s0:= -1)
     (fun(gs2:Unit) (k2:Nat) (s2:Int)=>[(2,.ptr st.length 0 0 0),(3,.ptr (st.length+1) 0 0 0),(4,.ptr (st.length+2) 0 0 0),(5,.int .i64 (↑k0:Int)),(7,.int .i64 s2),(22,.sl false 2 32 (rows y4.cells a1.nodes)),(23,.int .i64 (↑a1.nodes.length:Int)),(24,.int .i64 (↑k0:Int)),(43,.sl false 2 16 (rows G5.cells ((get a1.nodes k0).links))),(44,.int .i64 (↑(((get a1.nodes k0).links).length):Int)),(45,.int .i64 (↑k2:Int))])
     (fun(gs2:Unit) (k2:Nat) (s2:Int)=>st++[some (.arr 0 2 0 [[.sl false 2 40 (rows x7.cells a0.types),.sl false 3 32 (rows y8.cells a0.C1)]]),some (.arr 0 1 0 [[.sl false 2 32 (rows y4.cells a1.nodes)]]),some (.arr 0 2 0 [[.int .i64 0,.int .i64 0]])])
     (fun(gt2:Unit) (t2:Int)=>[(2,.ptr st.length 0 0 0),(3,.ptr (st.length+1) 0 0 0),(4,.ptr (st.length+2) 0 0 0),(22,.sl false 2 32 (rows y4.cells a1.nodes)),(23,.int .i64 (↑a1.nodes.length:Int)),(24,.int .i64 (↑k0:Int))])
     (fun(gt2:Unit) (t2:Int)=>st++[some (.arr 0 2 0 [[.sl false 2 40 (rows x7.cells a0.types),.sl false 3 32 (rows y8.cells a0.C1)]]),some (.arr 0 1 0 [[.sl false 2 32 (rows y4.cells a1.nodes)]]),some (.arr 0 2 0 [[.int .i64 0,.int .i64 0]])])
     () fx hl2 h (bm hsc)
     (fun gs2 k2 s2 b2 fx h hx2=>?_) (fun gs2 s2=>?_) (fun gt2 t2 fr1 st1 h hb=>?_)
    ·unfold mV at h
     refine ct ?_
     refine cd h (fun hc h=>?_) fun hc h=>?_
     ·refine cl h (jh _ _) fun v10 h=>?_
      refine ra ?_
      cases h
      refine F4 ?_;obtain rfl:=hx2 _ rfl;try simp only[go_sem,fx]
      refine F4 ?_;have h:=congrArg some (hx0 _ rfl)
      exact rt
     ·refine cd h (fun hc h=>?_) fun hc h=>?_
      ·refine cl h (jh _ _) fun v11 h=>?_
       refine ra ?_
       cases h
       refine F4 ?_;obtain rfl:=hx2 _ rfl;try simp only[go_sem,fx]
       refine F4 ?_;have h:=congrArg some (hx0 _ rfl)
       exact rt
      ·refine rn ?_
       cases h
       exact gW () (bm hsc)
    ·refine cf ?_
     refine gV ?_;simp only[go_sem,fx]
     exact⟨(),(bm hsc)⟩
    ·try simp only[go_sem,fx]
     unfold mW at h
     refine R4 hb ?_
     refine rn ?_
     cases h
     exact gW () (bm hsc)
  ·refine cf ?_
   refine gV ?_;simp only[go_sem,fx]
   exact⟨(),(bm hsc)⟩
  ·try simp only[go_sem,fx]
   unfold qE at h
   refine R4 hb ?_
   exact rt
theorem mK(a0:B2)(a1:Int)(a2:Int)(r:Bool)(h:cU a0 a1 a2=some r):Pure Tryz.prog gl 99 [.agg [.sl false 1 8 (rows eZ a0.up),.sl false 1 8 (rows eZ a0.down)],.int .i64 a1,.int .i64 a2] (.bool r):=by
 intro st
 unfold cU at h
 have fx:=trivial
 refine fb 16 [.tmp 6] [0,1,2,3,6] Tryz.func99 fun hsc=>?_
 obtain⟨fx,h⟩:=ck fx h
 obtain⟨fx,h⟩:=ck fx h
 exact rt
theorem ly(a0:(List Bool))(a1:Bool)(r:Int)(h:P6 a0 a1=some r):Pure Tryz.prog gl 115 [.sl false 1 1 (rows J9 a0),.bool a1] (.int .i64 r):=by
 intro st
 unfold P6 at h
 have fx:=trivial
 refine fb 19 [.tmp 4] [0,1,4,5,7,8,9,16] Tryz.func115 fun hsc=>?_
 refine aln 0 fun hl0=>?_
 refine rng (body:=dH a1 a0) (kk:=gQ) (n:=a0.length) (s0:=())
  (fun(gs0:Unit) (k0:Nat) (s0:Unit)=>[(0,.sl false 1 1 (rows J9 a0)),(1,.bool a1),(7,.int .i64 (↑a0.length:Int)),(8,.int .i64 (↑k0:Int))])
  (fun(gs0:Unit) (k0:Nat) (s0:Unit)=>st)
  (fun(gt0:Unit) (t0:Unit)=>[])
  (fun(gt0:Unit) (t0:Unit)=>st)
  () fx hl0 h (gX hsc)
  (fun gs0 k0 s0 b0 fx h hx0=>?_) (fun gs0 s0=>?_) (fun gt0 t0 fr1 st1 h hb=>?_)
 ·unfold dH at h
  refine ct ?_
  refine cd h (fun hc h=>?_) fun hc h=>?_
  ·refine ra ?_
   cases h
   refine F4 ?_;have h:=congrArg some (hx0 _ rfl)
   exact rt
  ·refine rn ?_
   cases h
   exact gW () (gX hsc)
 ·refine cf ?_
  refine gV ?_;simp only[go_sem,fx]
  exact⟨(),(gX hsc)⟩
 ·try simp only[go_sem,fx]
  unfold gQ at h
  refine R4 hb ?_
  exact rt
theorem vT(n:Nat)(a0:B3)(r:Int)(h:gH n a0=some r):Pure Tryz.prog gl 101 [.agg [.sl false 2 32 (rows y4.cells a0.nodes)]] (.int .i64 r):=by
 intro st
 unfold gH at h
 have fx:=trivial
 refine qp ?_;refine fb 58 [.tmp 2] [0,1,2,3,4,5,7,17,34,35,36,37,45] Tryz.func101 fun hsc=>?_
 refine r0 ?_
 obtain⟨fx,h⟩:=ck fx h
 have fy:=(show List.replicate a0.nodes.length [.bool false]=rows J9 (List.replicate a0.nodes.length (default:Bool))from tP (E:=J9) _ default)
 refine r1 ?_
 obtain⟨fx,h⟩:=ck fx h
 have fy:=(show(rows J9 (List.replicate a0.nodes.length (default:Bool))).getD 0 []=J9 (get (List.replicate a0.nodes.length (default:Bool)) 0)from qg (E:=J9) (l:=(List.replicate a0.nodes.length (default:Bool))) (k:=0) (by first|omega|(simp;omega)))
 have fy:=fa fy (show 0<a0.nodes.length from by first|omega|(simp;omega))
 obtain⟨c7,hc7,h⟩:=oz h
 have fy:=fa fy (show(rows J9 (List.replicate a0.nodes.length (default:Bool))).set 0 [.bool true]=rows J9 c7 from by rw[hc7];first|exact CF (E:=J9) _ _ _|simp only[go_sem,rows,List.map_set])
 refine r1 ?_
 have e9:D.ref true (st.length+1) 0 0 a0.nodes.length=D.ref true (st.length+1) 0 0 c7.length:=by simp[hc7]
 simp only[e9]
 refine rn ?_
 refine E8 (body:=iZ a0) (kk:=je) (n:=n) (s0:=(c7,[0],1))
  (fun(gs0:Nat×Nat) (s0:(List Bool)×(List Int)×Nat)=>[(1,.ptr st.length 0 0 0),(3,.ref true (st.length+1) gs0.1 0 s0.1.length),(4,.ref false (st.length+2) gs0.2 0 s0.2.2)])
  (fun(gs0:Nat×Nat) (s0:(List Bool)×(List Int)×Nat)=>st++[some (.arr 0 1 0 [[.sl false 2 32 (rows y4.cells a0.nodes)]]),some (.arr gs0.1 1 1 (rows J9 s0.1)),some (.arr gs0.2 1 8 (rows Z4 s0.2.1))])
  (fun(gt0:Nat) (t0:(List Bool))=>[(3,.ref true (st.length+1) gt0 0 t0.length)])
  (fun(gt0:Nat) (t0:(List Bool))=>st++[none,some (.arr gt0 1 1 (rows J9 t0))])
  (0,0) h (bm hsc)
  (fun gs0 s0 b0 h hx0=>?_) (fun gt0 t0 fr1 st1 h hb=>?_)
 ·unfold iZ at h
  refine cd h (fun hc h=>?_) fun hc h=>?_
  ·refine r0 ?_
   refine r0 ?_
   obtain⟨fx,h⟩:=ck fx h
   obtain⟨fx,h⟩:=ck fx h
   have fy:=(show(rows Z4 s0.2.1).getD ((wr .i64 ((↑s0.2.2:Int)-1)).toNat) []=Z4 (get s0.2.1 ((wr .i64 ((↑s0.2.2:Int)-1)).toNat))from qg (E:=Z4) (l:=s0.2.1) (k:=(wr .i64 ((↑s0.2.2:Int)-1)).toNat) (by first|omega|(simp;omega)))
   have fy:=fa fy (show(wr .i64 ((↑s0.2.2:Int)-1)).toNat<s0.2.1.length from by first|omega|(simp;omega))
   refine r1 ?_
   obtain⟨fx,h⟩:=ck fx h
   obtain⟨fx,h⟩:=ck fx h
   refine aln 34 fun hl2=>?_
   refine rng (body:=jc a0 s0) (kk:=jd) (n:=((get a0.nodes ((get s0.2.1 ((wr .i64 ((↑s0.2.2:Int)-1)).toNat)).toNat)).links).length) (s0:=(s0.1,s0.2.1,(wr .i64 ((↑s0.2.2:Int)-1)).toNat))
    (fun(gs2:Nat×Nat) (k2:Nat) (s2:(List Bool)×(List Int)×Nat)=>[(1,.ptr st.length 0 0 0),(3,.ref true (st.length+1) gs2.1 0 s2.1.length),(4,.ref false (st.length+2) gs2.2 0 s2.2.2),(34,.sl false 2 16 (rows G5.cells ((get a0.nodes ((get s0.2.1 ((wr .i64 ((↑s0.2.2:Int)-1)).toNat)).toNat)).links))),(35,.int .i64 (↑(((get a0.nodes ((get s0.2.1 ((wr .i64 ((↑s0.2.2:Int)-1)).toNat)).toNat)).links).length):Int)),(36,.int .i64 (↑k2:Int))])
    (fun(gs2:Nat×Nat) (k2:Nat) (s2:(List Bool)×(List Int)×Nat)=>st++[some (.arr 0 1 0 [[.sl false 2 32 (rows y4.cells a0.nodes)]]),some (.arr gs2.1 1 1 (rows J9 s2.1)),some (.arr gs2.2 1 8 (rows Z4 s2.2.1))])
    (fun(gt2:Nat×Nat) (t2:(List Bool)×(List Int)×Nat)=>[(1,.ptr st.length 0 0 0),(3,.ref true (st.length+1) gt2.1 0 t2.1.length),(4,.ref false (st.length+2) gt2.2 0 t2.2.2)])
    (fun(gt2:Nat×Nat) (t2:(List Bool)×(List Int)×Nat)=>st++[some (.arr 0 1 0 [[.sl false 2 32 (rows y4.cells a0.nodes)]]),some (.arr gt2.1 1 1 (rows J9 t2.1)),some (.arr gt2.2 1 8 (rows Z4 t2.2.1))])
    (gs0.1,gs0.2) fx hl2 h (bm hsc)
    (fun gs2 k2 s2 b2 fx h hx2=>?_) (fun gs2 s2=>?_) (fun gt2 t2 fr1 st1 h hb=>?_)
   ·unfold jc at h
    refine ct ?_
    refine r0 ?_
    refine r0 ?_
    refine r0 ?_
    obtain⟨fx,h⟩:=ck fx h
    have fy:=(show(rows J9 s2.1).getD (((get ((get a0.nodes ((get s0.2.1 ((wr .i64 ((↑s0.2.2:Int)-1)).toNat)).toNat)).links) k2).to_).toNat) []=J9 (get s2.1 (((get ((get a0.nodes ((get s0.2.1 ((wr .i64 ((↑s0.2.2:Int)-1)).toNat)).toNat)).links) k2).to_).toNat))from qg (E:=J9) (l:=s2.1) (k:=((get ((get a0.nodes ((get s0.2.1 ((wr .i64 ((↑s0.2.2:Int)-1)).toNat)).toNat)).links) k2).to_).toNat) (by first|omega|(simp;omega)))
    have fy:=fa fy (show((get ((get a0.nodes ((get s0.2.1 ((wr .i64 ((↑s0.2.2:Int)-1)).toNat)).toNat)).links) k2).to_).toNat<s2.1.length from by first|omega|(simp;omega))
    refine r1 ?_
    refine cd h (fun hc h=>?_) fun hc h=>?_
    ·have fy:=(show(rows J9 s2.1).getD (((get ((get a0.nodes ((get s0.2.1 ((wr .i64 ((↑s0.2.2:Int)-1)).toNat)).toNat)).links) k2).to_).toNat) []=J9 (get s2.1 (((get ((get a0.nodes ((get s0.2.1 ((wr .i64 ((↑s0.2.2:Int)-1)).toNat)).toNat)).links) k2).to_).toNat))from qg (E:=J9) (l:=s2.1) (k:=((get ((get a0.nodes ((get s0.2.1 ((wr .i64 ((↑s0.2.2:Int)-1)).toNat)).toNat)).links) k2).to_).toNat) (by first|omega|(simp;omega)))
     have fy:=fa fy (show((get ((get a0.nodes ((get s0.2.1 ((wr .i64 ((↑s0.2.2:Int)-1)).toNat)).toNat)).links) k2).to_).toNat<s2.1.length from by first|omega|(simp;omega))
     obtain⟨c79,Vi,h⟩:=oz h
     have fy:=fa fy (show(rows J9 s2.1).set (((get ((get a0.nodes ((get s0.2.1 ((wr .i64 ((↑s0.2.2:Int)-1)).toNat)).toNat)).links) k2).to_).toNat) [.bool true]=rows J9 c79 from by rw[Vi];first|exact CF (E:=J9) _ _ _|simp only[go_sem,rows,List.map_set])
     refine r1 ?_
     have e81:D.ref true (st.length+1) gs2.1 0 s2.1.length=D.ref true (st.length+1) gs2.1 0 c79.length:=by simp[Vi]
     simp only[e81]
     obtain⟨fx,h⟩:=ck fx h
     obtain⟨c84,Vj,h⟩:=oz h
     have fy:=(show rows Z4 (s2.2.1.take s2.2.2)++[[.int .i64 ((get ((get a0.nodes ((get s0.2.1 ((wr .i64 ((↑s0.2.2:Int)-1)).toNat)).toNat)).links) k2).to_)]]=rows Z4 c84 from by rw[Vj];first|exact U8 (E:=Z4) (s2.2.1.take s2.2.2) [(get ((get a0.nodes ((get s0.2.1 ((wr .i64 ((↑s0.2.2:Int)-1)).toNat)).toNat)).links) k2).to_]|simp only[go_sem,rows,List.map_append,List.map_cons,List.map_nil])
     have fy:=fa fy (show s2.2.2+1=c84.length from by rw[Vj];simp<;>omega)
     obtain⟨fx,h⟩:=ck fx h
     refine r1 ?_
     refine rn ?_
     cases h
     exact gW (gs2.1,(gs2.2+1)) (bm hsc)
    ·refine rn ?_
     cases h
     exact gW (gs2.1,gs2.2) (bm hsc)
   ·refine cf ?_
    refine gV ?_;simp only[go_sem,fx]
    exact⟨(gs2.1,gs2.2),(bm hsc)⟩
   ·try simp only[go_sem,fx]
    unfold jd at h
    cases h
    exact F5 (gt2.1,gt2.2) (hb.trans (bm hsc))
  ·refine rn ?_
   cases h
   exact K7 gs0.1 (bm hsc)
 ·try simp only[go_sem,fx]
  unfold je at h
  refine R4 hb ?_
  refine rn ?_
  obtain⟨v89,hv89,h⟩:=F9 h
  refine tV ?_;refine((ly _ _ _ hv89).borrow (args:=[.ref true (st.length+1) gt0 0 t0.length,.bool false]) (.cons _ _ _ _ (.ref _ _ _ _ _ _ _ _ _ (pL.trans rfl) tS (by decide) (ru _) (by simp only[go_sem])) (.cons _ _ _ _ .s .nil)) (by simp) rfl ) ?_
  exact rt
theorem pe(n:Nat)(a0:y6)(a1:B2)(a2:B3)(r:w9)(h:jP n a0 a1 a2=some r):Pure Tryz.prog gl 71 [.agg [.sl false 2 40 (rows x7.cells a0.types),.sl false 3 32 (rows y8.cells a0.C1)],.agg [.sl false 1 8 (rows eZ a1.up),.sl false 1 8 (rows eZ a1.down)],.agg [.sl false 2 32 (rows y4.cells a2.nodes)]] (.agg [.int .i64 r.code,.int .i64 r.index]):=by
 intro st
 unfold jP at h
 have fx:=trivial
 refine fb 74 [.cell 6 37] [0,1,2,3,4,5,6,7,8,9,11,12,13,19,22,23,24,25,30,31,32,33,50,51,52,53,54,55,56,57,58,59,60,61,62,70] Tryz.func71 fun hsc=>?_
 refine cl h (Ca _ _) fun v1 h=>?_
 refine cd h (fun hc h=>?_) fun hc h=>?_
 ·exact rt
 ·refine aln 22 fun hl0=>?_
  refine rng (body:=lI a2 a0 a1) (kk:=lM n a2) (n:=a2.nodes.length) (s0:=())
   (fun(gs0:Unit) (k0:Nat) (s0:Unit)=>[(3,.ptr st.length 0 0 0),(4,.ptr (st.length+1) 0 0 0),(5,.ptr (st.length+2) 0 0 0),(6,.ptr (st.length+3) 0 0 0),(22,.sl false 2 32 (rows y4.cells a2.nodes)),(23,.int .i64 (↑a2.nodes.length:Int)),(24,.int .i64 (↑k0:Int))])
   (fun(gs0:Unit) (k0:Nat) (s0:Unit)=>st++[some (.arr 0 2 0 [[.sl false 2 40 (rows x7.cells a0.types),.sl false 3 32 (rows y8.cells a0.C1)]]),some (.arr 0 2 0 [[.sl false 1 8 (rows eZ a1.up),.sl false 1 8 (rows eZ a1.down)]]),some (.arr 0 1 0 [[.sl false 2 32 (rows y4.cells a2.nodes)]]),some (.arr 0 2 0 [[.int .i64 0,.int .i64 0]])])
   (fun(gt0:Unit) (t0:Unit)=>[(5,.ptr (st.length+2) 0 0 0),(6,.ptr (st.length+3) 0 0 0)])
   (fun(gt0:Unit) (t0:Unit)=>st++[none,none,some (.arr 0 1 0 [[.sl false 2 32 (rows y4.cells a2.nodes)]]),some (.arr 0 2 0 [[.int .i64 0,.int .i64 0]])])
   () fx hl0 h (bm hsc)
   (fun gs0 k0 s0 b0 fx h hx0=>?_) (fun gs0 s0=>?_) (fun gt0 t0 fr1 st1 h hb=>?_)
  ·unfold lI at h
   refine ct ?_
   refine aln 30 fun hl2=>?_
   refine rng (body:=lJ a2 k0 a0 a1) (kk:=lK) (n:=((get a2.nodes k0).links).length) (s0:=())
    (fun(gs2:Unit) (k2:Nat) (s2:Unit)=>[(3,.ptr st.length 0 0 0),(4,.ptr (st.length+1) 0 0 0),(5,.ptr (st.length+2) 0 0 0),(6,.ptr (st.length+3) 0 0 0),(8,.int .i64 (↑k0:Int)),(9,.ptr (st.length+4) 0 0 0),(22,.sl false 2 32 (rows y4.cells a2.nodes)),(23,.int .i64 (↑a2.nodes.length:Int)),(24,.int .i64 (↑k0:Int)),(30,.sl false 2 16 (rows G5.cells ((get a2.nodes k0).links))),(31,.int .i64 (↑(((get a2.nodes k0).links).length):Int)),(32,.int .i64 (↑k2:Int))])
    (fun(gs2:Unit) (k2:Nat) (s2:Unit)=>st++[some (.arr 0 2 0 [[.sl false 2 40 (rows x7.cells a0.types),.sl false 3 32 (rows y8.cells a0.C1)]]),some (.arr 0 2 0 [[.sl false 1 8 (rows eZ a1.up),.sl false 1 8 (rows eZ a1.down)]]),some (.arr 0 1 0 [[.sl false 2 32 (rows y4.cells a2.nodes)]]),some (.arr 0 2 0 [[.int .i64 0,.int .i64 0]]),some (.arr 0 2 0 [[.int .i64 ((get a2.nodes k0).type),.sl false 2 16 (rows G5.cells ((get a2.nodes k0).links))]])])
    (fun(gt2:Unit) (t2:Unit)=>[(3,.ptr st.length 0 0 0),(4,.ptr (st.length+1) 0 0 0),(5,.ptr (st.length+2) 0 0 0),(6,.ptr (st.length+3) 0 0 0),(22,.sl false 2 32 (rows y4.cells a2.nodes)),(23,.int .i64 (↑a2.nodes.length:Int)),(24,.int .i64 (↑k0:Int))])
    (fun(gt2:Unit) (t2:Unit)=>st++[some (.arr 0 2 0 [[.sl false 2 40 (rows x7.cells a0.types),.sl false 3 32 (rows y8.cells a0.C1)]]),some (.arr 0 2 0 [[.sl false 1 8 (rows eZ a1.up),.sl false 1 8 (rows eZ a1.down)]]),some (.arr 0 1 0 [[.sl false 2 32 (rows y4.cells a2.nodes)]]),some (.arr 0 2 0 [[.int .i64 0,.int .i64 0]])])
    () fx hl2 h (bm hsc)
    (fun gs2 k2 s2 b2 fx h hx2=>?_) (fun gs2 s2=>?_) (fun gt2 t2 fr1 st1 h hb=>?_)
   ·unfold lJ at h
    refine ct ?_
    obtain⟨fx,h⟩:=ck fx h
    refine rn ?_
    refine dw [] 0 ?_
    obtain⟨v28,hv28,h⟩:=F9 h
    refine A9 (mK _ _ _ _ hv28) ?_
    obtain⟨fx,h⟩:=ck fx h
    try simp only[go_sem,fx]
    obtain⟨v32,hv32,h⟩:=F9 h
    refine fT (fun hG=>(mK _ _ _ _ (tO hv32 (by simpa using hG)))) ?_
    try simp only[go_sem,fx]
    refine cd h (fun hc h=>?_) fun hc h=>?_
    ·refine cl h (jh _ _) fun v33 h=>?_
     refine ra ?_
     cases h
     refine F4 ?_;obtain rfl:=hx2 _ rfl;try simp only[go_sem,fx]
     refine F4 ?_;have h:=congrArg some (hx0 _ rfl)
     exact rt
    ·refine rn ?_
     cases h
     exact gW () (bm hsc)
   ·refine cf ?_
    refine gV ?_;simp only[go_sem,fx]
    exact⟨(),(bm hsc)⟩
   ·try simp only[go_sem,fx]
    unfold lK at h
    refine R4 hb ?_
    refine rn ?_
    cases h
    exact gW () (bm hsc)
  ·refine cf ?_
   refine gV ?_;simp only[go_sem,fx]
   exact⟨(),(bm hsc)⟩
  ·try simp only[go_sem,fx]
   unfold lM at h
   refine R4 hb ?_
   refine cl h (vT n _) fun v34 h=>?_
   refine cd h (fun hc h=>?_) fun hc h=>?_
   ·refine cl h (jh _ _) fun v35 h=>?_
    exact rt
   ·exact rt
theorem rL(a0:G5)(a1:Int)(r:Int)(h:kj a0 a1=some r):Pure Tryz.prog gl 136 [.agg [.int .i64 a0.kV,.int .i64 a0.to_],.int .i64 a1] (.int .i64 r):=by
 intro st
 unfold kj at h
 have fx:=trivial
 refine fb 9 [.tmp 4] [0,1,2,4] Tryz.func136 fun hsc=>?_
 refine cl h (eH _ _) fun v1 h=>?_
 exact rt
theorem gE(n:Nat)(a0:(List G5))(a1:Int)(r:Int×Bool)(h:I0 n a0 a1=some r):Pure Tryz.prog gl 135 [.sl false 2 16 (rows G5.cells a0),.int .i64 a1,.fn 136 [] []] (.tup [.int .i64 r.1,.bool r.2]):=by
 intro st
 unfold I0 at h
 have fx:=trivial
 refine fb 49 [.tmp 6,.tmp 7] [0,1,2,6,7,8,9,10,11,17,31,40,41,42,43,44,45,46,47] Tryz.func135 fun hsc=>?_
 refine rn ?_
 refine E8 (body:=J5 a0 a1) (kk:=J6 a0 a1) (n:=n) (s0:=((↑a0.length:Int),0))
  (fun(gs0:Unit) (s0:Int×Int)=>[(0,.sl false 2 16 (rows G5.cells a0)),(1,.int .i64 a1),(2,.fn 136 [] []),(8,.int .i64 (↑a0.length:Int)),(9,.int .i64 s0.2),(10,.int .i64 s0.1)])
  (fun(gs0:Unit) (s0:Int×Int)=>st)
  (fun(gt0:Unit) (t0:Int)=>[(0,.sl false 2 16 (rows G5.cells a0)),(1,.int .i64 a1),(2,.fn 136 [] []),(8,.int .i64 (↑a0.length:Int)),(9,.int .i64 t0)])
  (fun(gt0:Unit) (t0:Int)=>st)
  () h (gX hsc)
  (fun gs0 s0 b0 h hx0=>?_) (fun gt0 t0 fr1 st1 h hb=>?_)
 ·unfold J5 at h
  refine cd h (fun hc h=>?_) fun hc h=>?_
  ·obtain⟨fx,h⟩:=ck fx h
   refine cl h (rL _ _) fun v6 h=>?_
   refine cd h (fun hc h=>?_) fun hc h=>?_
   ·refine rn ?_
    cases h
    exact F5 () (gX hsc)
   ·refine rn ?_
    cases h
    exact F5 () (gX hsc)
  ·refine rn ?_
   cases h
   exact K7 () (gX hsc)
 ·try simp only[go_sem,fx]
  unfold J6 at h
  refine R4 hb ?_
  obtain⟨fx,h⟩:=ck fx h
  refine rn ?_
  obtain⟨v10,hv10,h⟩:=F9 h
  refine kG (fun hG=>(rL _ _ _ (tO hv10 (by simpa using hG)))) ?_
  exact rt
theorem zI(n:Nat)(a0:B3)(a1:Int)(a2:Int)(r:Int)(h:nM n a0 a1 a2=some r):Pure Tryz.prog gl 117 [.agg [.sl false 2 32 (rows y4.cells a0.nodes)],.int .i64 a1,.int .i64 a2] (.int .i64 r):=by
 intro st
 unfold nM at h
 have fx:=trivial
 refine fb 32 [.tmp 6] [0,1,2,3,6,7,8,21] Tryz.func117 fun hsc=>?_
 obtain⟨fx,h⟩:=ck fx h
 refine cl h (gE n _ _) fun v3 h=>?_
 refine cd h (fun hc h=>?_) fun hc h=>?_
 ·exact rt
 ·obtain⟨fx,h⟩:=ck fx h
  exact rt
theorem wM(n:Nat)(a0:B3)(a1:Int)(r:Bool)(h:fV n a0 a1=some r):Pure Tryz.prog gl 95 [.agg [.sl false 2 32 (rows y4.cells a0.nodes)],.int .i64 a1] (.bool r):=by
 intro st
 unfold fV at h
 have fx:=trivial
 refine fb 18 [.tmp 4] [0,1,2,4,5,6,7,16] Tryz.func95 fun hsc=>?_
 refine rn ?_
 refine rng (body:=bY n a0 a1) (kk:=jG) (n:=4) (s0:=())
  (fun(gs0:Unit) (k0:Nat) (s0:Unit)=>[(1,.int .i64 a1),(2,.ptr st.length 0 0 0),(6,.int .i64 (↑k0:Int))])
  (fun(gs0:Unit) (k0:Nat) (s0:Unit)=>st++[some (.arr 0 1 0 [[.sl false 2 32 (rows y4.cells a0.nodes)]])])
  (fun(gt0:Unit) (t0:Unit)=>[])
  (fun(gt0:Unit) (t0:Unit)=>st)
  () fx (by decide) h (bm hsc)
  (fun gs0 k0 s0 b0 fx h hx0=>?_) (fun gs0 s0=>?_) (fun gt0 t0 fr1 st1 h hb=>?_)
 ·unfold bY at h
  have fx:=fa fx (show(↑k0:Int)<4 by omega)
  refine ct ?_
  refine cl h (zI n _ _ _) fun v1 h=>?_
  refine cd h (fun hc h=>?_) fun hc h=>?_
  ·refine ra ?_
   cases h
   refine F4 ?_;have h:=congrArg some (hx0 _ rfl)
   exact rt
  ·refine rn ?_
   cases h
   exact gW () (bm hsc)
 ·refine cf ?_
  refine gV ?_;simp only[go_sem,fx]
  exact⟨(),(bm0 hsc)⟩
 ·try simp only[go_sem,fx]
  unfold jG at h
  refine R4 hb ?_
  exact rt
theorem R3(a0:Int)(R2:Int)(r:w9)(h:Q8 a0 R2=some r):∀(st:St) (o0:Nat) (hnd: [o0].Nodup) (jI:Am.look st o0=some (.arr 0 1 0 [[.int .i64 R2]])),Am.Spec Tryz.prog gl 119 [.int .i64 a0,.ptr o0 0 0 0] st (fun d st'=>d= .agg [.int .i64 r.code,.int .i64 r.index]∧st'=puts st []):=by
 intro st o0 hnd jI
 unfold Q8 at h
 have ho0:=T6 jI
 have fx:=idf ho0
 refine fb 7 [.cell 3 37] [0,1,3] Tryz.func119 fun hsc=>?_
 refine mJ (s':=(aZ st [(o0,(.arr 0 1 0 [[.int .i64 R2]]))])) (N5 (by simp[jI])) ?_
 refine rr ?_
 exact fuo (.agg [.int .i64 a0,.int .i64 R2]) (.same _) h hsc (hr:=by rintro rfl;exact⟨rfl,N5 (by simp[jI])⟩)
theorem uI:∀(n:Nat) (a0:w6) (a1:Int) (R2:Int) (r:Int×Int) (h:cZ n a0 a1 R2=some r),∀(st:St) (o0 o1:Nat) (hnd: [o0,o1].Nodup) (jI:Am.look st o0=some (.arr 0 1 0 [[.int .i64 R2]])) (sY:Am.look st o1=some (.arr 0 1 0 [[.fn 137 [] [.ptr o0 0 0 0,.ptr o1 0 0 0]]])),Am.Spec Tryz.prog gl 137 [.agg [.str a0.base,.sl false 2 40 (rows w6.cells a0.args)],.int .i64 a1,.ptr o0 0 0 0,.ptr o1 0 0 0] st (fun d st'=>d= .int .i64 r.1∧st'=puts st [(o0,(.arr 0 1 0 [[.int .i64 r.2]])),(o1,(.arr 0 1 0 [[.fn 137 [] [.ptr o0 0 0 0,.ptr o1 0 0 0]]]))]):=by
 intro n
 induction n with
 |zero=>intro a0 a1 R2 r h;cases h
 |succ n ih=>
  intro a0 a1 R2 r h st o0 o1 hnd jI sY
  unfold cZ at h
  have ho0:=T6 jI
  have ho1:=T6 sY
  have fx:=fa (fa (idf ho0) (idf ho1)) (nd2 hnd)
  refine fb 62 [.tmp 6] [0,1,2,3,4,6,7,9,10,16,17,18,23,24,25,29,30,31,32,35,36,37,38,39,40,41,42,43,45,47,48,49,50,59] Tryz.func137 fun hsc=>?_
  refine mJ (s':=(aZ st [(o0,(.arr 0 1 0 [[.int .i64 R2]])),(o1,(.arr 0 1 0 [[.fn 137 [] [.ptr o0 0 0 0,.ptr o1 0 0 0]]]))])) (N5 (by simp[jI,sY])) ?_
  refine cd h (fun hc h=>?_) fun hc h=>?_
  ·refine rr ?_
   exact fuo (.int .i64 1) (.same _) h hsc
  ·refine cd h (fun hc h=>?_) fun hc h=>?_
   ·refine rr ?_
    exact fuo (.int .i64 5) (.same _) h hsc
   ·refine aln 47 fun hl0=>?_
    refine rng (body:=iq (cZ n) a0 a1) (kk:=iu) (n:=a0.args.length) (s0:=(wr .i64 (R2+1)))
     (fun(gs0:Unit) (k0:Nat) (s0:Int)=>[(1,.int .i64 a1),(3,.ptr o1 0 0 0),(47,.sl false 2 40 (rows w6.cells a0.args)),(48,.int .i64 (↑a0.args.length:Int)),(49,.int .i64 (↑k0:Int))])
     (fun(gs0:Unit) (k0:Nat) (s0:Int)=>(aZ st [(o0,(.arr 0 1 0 [[.int .i64 s0]])),(o1,(.arr 0 1 0 [[.fn 137 [] [.ptr o0 0 0 0,.ptr o1 0 0 0]]]))]))
     (fun(gt0:Unit) (t0:Int)=>[])
     (fun(gt0:Unit) (t0:Int)=>(aZ st [(o0,(.arr 0 1 0 [[.int .i64 t0]])),(o1,(.arr 0 1 0 [[.fn 137 [] [.ptr o0 0 0 0,.ptr o1 0 0 0]]]))]))
     () fx hl0 h (bu0 hsc)
     (fun gs0 k0 s0 b0 fx h hx0=>?_) (fun gs0 s0=>?_) (fun gt0 t0 fr1 st1 h hb=>?_)
    ·unfold iq at h
     refine ct ?_
     refine rn ?_
     obtain⟨v2,hv2,h⟩:=F9 h
     refine(ih _ _ _ _ hv2 _ _ _ hnd (by simp only[go_sem,fx]) (by simp only[go_sem,fx])).mono ?_
     rintro d1 st1 ⟨rfl,rfl⟩
     refine cd h (fun hc h=>?_) fun hc h=>?_
     ·refine ra ?_
      cases h
      refine F4 ?_;have h:=congrArg some (hx0 _ rfl)
      refine rr ?_
      exact fuo (.int .i64 v2.1) (.same _) h hsc
     ·refine rn ?_
      cases h
      exact gW () (bu0 hsc)
    ·refine cf ?_
     refine gV ?_;simp only[go_sem,fx]
     exact⟨(),(Po hsc)⟩
    ·try simp only[go_sem,fx]
     unfold iu at h
     refine R4 hb ?_
     refine rr ?_
     exact fus (.int .i64 0) (.same _) h hsc
end Go.Proofs.YtfogbhjeihkliaaGreatDoor
