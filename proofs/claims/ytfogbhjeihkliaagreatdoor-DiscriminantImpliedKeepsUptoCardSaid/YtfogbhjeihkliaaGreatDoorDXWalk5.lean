import Derived.Test.YtfogbhjeihkliaaGreatDoorDXHand2
import Derived.Test.YtfogbhjeihkliaaGreatDoorDXWalk4
set_option linter.unusedVariables false
set_option linter.unusedSimpArgs false
set_option maxHeartbeats 2000000
set_option maxRecDepth 100000
namespace Go.Proofs.YtfogbhjeihkliaaGreatDoor
open Go Go.Am
theorem oo(a0:Bs)(a1:Int)(r:Int)(h:gC a0 a1=some r):Pure Tryz.prog gl 151 [.str a0,.int .u8 a1] (.int .i64 r):=by
 intro st
 unfold gC at h
 have fx:=trivial
 refine fb 8 [.tmp 4] [0,1,4] Tryz.func151 fun hsc=>?_
 refine cl h (CN _ _) fun v1 h=>?_
 exact rt
theorem qG(a0:Int)(r:Bool)(h:fE a0=some r):Pure Tryz.prog gl 152 [.int .i32 a0] (.bool r):=by
 intro st
 unfold fE at h
 have fx:=trivial
 refine fb 17 [.tmp 2] [0,2,3,7,8,10,14,15] Tryz.func152 fun hsc=>?_
 refine cd h (fun hc h=>?_) fun hc h=>?_
 ·exact rt
 ·refine cd h (fun hc h=>?_) fun hc h=>?_
  ·exact rt
  ·exact rt
theorem oq(n:Nat)(a0:Bs)(a1:Int)(r:Int)(h:eG n a0 a1=some r):Pure Tryz.prog gl 146 [.str a0,.int .i32 a1] (.int .i64 r):=by
 intro st
 unfold eG at h
 have fx:=trivial
 refine fb 187 [.tmp 4] [0,1,4,5,6,7,8,9,10,11,12,13,14,15,16,26,33,43,51,64,73,74,75,76,79,80,81,82,85,86,87,88,89,90,91,92,93,94,95,96,97,98,108,124,133,134,135,136,137,138,139,143,156,160,164,165,171,175,176,177,181,183] Tryz.func146 fun hsc=>?_
 refine cd h (fun hc h=>?_) fun hc h=>?_
 ·refine cl h (oo _ _) fun v1 h=>?_
  exact rt
 ·refine cd h (fun hc h=>?_) fun hc h=>?_
  ·refine rn ?_
   refine E8 (body:=fX a0) (kk:=jT) (n:=n) (s0:=0)
    (fun(gs0:Unit) (s0:Nat)=>[(175,.it st.length)])
    (fun(gs0:Unit) (s0:Nat)=>st++[some (.sit a0 s0)])
    (fun(gt0:Unit) (t0:Unit)=>[])
    (fun(gt0:Unit) (t0:Unit)=>st)
    () h (bm hsc)
    (fun gs0 s0 b0 h hx0=>?_) (fun gt0 t0 fr1 st1 h hb=>?_)
   ·unfold fX at h
    refine cd h (fun hc h=>?_) fun hc h=>?_
    ·obtain⟨fx,h⟩:=ck fx h
     refine cd h (fun hc h=>?_) fun hc h=>?_
     ·refine ra ?_
      cases h
      refine aP ?_;have h:=congrArg some (hx0 _ rfl)
      exact rt
     ·refine rn ?_
      cases h
      exact F5 () (bm hsc)
    ·refine rn ?_
     cases h
     exact K7 () (bm0 hsc)
   ·try simp only[go_sem,fx]
    unfold jT at h
    refine R4 hb ?_
    exact rt
  ·refine cl h (qG _) fun v4 h=>?_
   refine cd h (fun hc h=>?_) fun hc h=>?_
   ·exact rt
   ·refine rn ?_
    refine E8 (body:=dh n a1 a0) (kk:=jW) (n:=n) (s0:=())
     (fun(gs1:Unit) (s1:Unit)=>[(0,.str a0),(7,.str (P3 a1)),(8,.int .i64 (wr .i64 ((↑((P3 a1).length):Int)-1))),(9,.int .i64 (wr .i64 ((↑((P3 a1).length):Int)-1)))])
     (fun(gs1:Unit) (s1:Unit)=>st)
     (fun(gt1:Unit) (t1:Unit)=>[])
     (fun(gt1:Unit) (t1:Unit)=>st)
     () h (gX hsc)
     (fun gs1 s1 b1 h hx1=>?_) (fun gt1 t1 fr1 st1 h hb=>?_)
    ·unfold dh at h
     refine cd h (fun hc h=>?_) fun hc h=>?_
     ·refine rn ?_
      obtain⟨fx,h⟩:=ck fx h
      obtain⟨fx,h⟩:=ck fx h
      refine dw [] 0 ?_
      (repeat apply sq_)
      refine iI (gj n a1 a0) b1 (fun(gj2:Unit) (j2:Int)=>[(0,.str a0),(7,.str (P3 a1)),(8,.int .i64 (wr .i64 ((↑((P3 a1).length):Int)-1))),(9,.int .i64 j2)]) (fun(gj2:Unit) (j2:Int)=>st) (fun gj2 j2 fr1 st1 h hb=>?_) (fun hj2=>?_)
      ·try simp only[go_sem,fx]
       unfold gj at h
       refine R4 hb ?_
       refine rn ?_
       refine E8 (body:=jU a1 j2 a0) (kk:=jV j2 a1) (n:=n) (s0:=1)
        (fun(gs3:Unit) (s3:Int)=>[(0,.str a0),(7,.str (P3 a1)),(8,.int .i64 (wr .i64 ((↑((P3 a1).length):Int)-1))),(9,.int .i64 j2),(12,.int .i64 s3)])
        (fun(gs3:Unit) (s3:Int)=>st)
        (fun(gt3:Unit) (t3:Unit)=>[(8,.int .i64 (wr .i64 ((↑((P3 a1).length):Int)-1))),(9,.int .i64 j2)])
        (fun(gt3:Unit) (t3:Unit)=>st)
        () h (gX hsc)
        (fun gs3 s3 b3 h hx3=>?_) (fun gt3 t3 fr1 st1 h hb=>?_)
       ·unfold jU at h
        refine cd h (fun hc h=>?_) fun hc h=>?_
        ·refine rn ?_
         obtain⟨fx,h⟩:=ck fx h
         obtain⟨fx,h⟩:=ck fx h
         refine dw [] 0 ?_
         refine cd h (fun hc h=>?_) fun hc h=>?_
         ·cases h
         ·refine rn ?_
          cases h
          exact F5 () (gX hsc)
        ·refine rn ?_
         cases h
         exact K7 () (gX hsc)
       ·try simp only[go_sem,fx]
        unfold jV at h
        refine R4 hb ?_
        refine ra ?_
        cases h
        refine aP ?_;have h:=congrArg some (hx1 _ rfl)
        exact rt
      ·refine cd h (fun hc h=>?_) fun hc h=>?_
       ·refine rs ?_
        obtain⟨fx,h⟩:=ck fx h
        refine dw [] 0 ?_
        obtain⟨v10,hv10,h⟩:=F9 h
        refine A9 (oo _ _ _ hv10) ?_
        try simp only[go_sem,fx]
        refine cd h (fun hc h=>?_) fun hc h=>?_
        ·refine ra ?_
         cases h
         refine aP ?_;have h:=congrArg some (hx1 _ rfl)
         exact rt
        ·refine r0 ?_
         refine r0 ?_
         refine hj2 () _ _ _ h ?_;exact(gX hsc)
       ·refine r0 ?_
        refine hj2 () _ _ _ h ?_;exact(gX hsc)
     ·refine rn ?_
      cases h
      exact K7 () (gX hsc)
    ·try simp only[go_sem,fx]
     unfold jW at h
     refine R4 hb ?_
     exact rt
theorem ot(a0:Int)(r:Bool)(h:fN a0=some r):Pure Tryz.prog gl 147 [.int .i64 a0] (.bool r):=by
 intro st
 unfold fN at h
 have fx:=trivial
 refine fb 5 [.tmp 2] [0,2] Tryz.func147 fun hsc=>?_
 exact rt
theorem sZ(n:Nat)(a0:Bs)(a1:Bs)(r:Int)(h:jH n a0 a1=some r):Pure Tryz.prog gl 140 [.str a0,.str a1] (.int .i64 r):=by
 intro st
 unfold jH at h
 have fx:=trivial
 refine fb 55 [.tmp 4] [0,1,4,5,6,7,8,9,10,12,15,20,26,32,36,42,45,46,47,53] Tryz.func140 fun hsc=>?_
 refine cd h (fun hc h=>?_) fun hc h=>?_
 ·exact rt
 ·refine cd h (fun hc h=>?_) fun hc h=>?_
  ·obtain⟨fx,h⟩:=ck fx h
   refine rn ?_
   refine iI (gn n a0) r (fun(gj0:Unit) (j0:Int)=>[(0,.str a0),(5,.int .i32 j0)]) (fun(gj0:Unit) (j0:Int)=>st) (fun gj0 j0 fr1 st1 h hb=>?_) (fun hj0=>?_)
   ·try simp only[go_sem,fx]
    unfold gn at h
    refine R4 hb ?_
    refine cl h (oq n _ _) fun v2 h=>?_
    exact rt
   ·refine cd h (fun hc h=>?_) fun hc h=>?_
    ·refine r0 ?_
     refine hj0 () _ _ _ h ?_;exact(gX hsc)
    ·refine r0 ?_
     refine hj0 () _ _ _ h ?_;exact(gX hsc)
  ·refine cl h (ot _) fun v3 h=>?_
   refine rn ?_
   refine iI (fY n a0 a1) r (fun(gj1:Unit) (j1:Unit)=>[(0,.str a0),(1,.str a1)]) (fun(gj1:Unit) (j1:Unit)=>st) (fun gj1 j1 fr1 st1 h hb=>?_) (fun hj1=>?_)
   ·try simp only[go_sem,fx]
    unfold fY at h
    refine R4 hb ?_
    refine rn ?_
    refine E8 (body:=fZ n a0 a1) (kk:=jX) (n:=n) (s0:=0)
     (fun(gs2:Unit) (s2:Nat)=>[(1,.str a1),(45,.it st.length)])
     (fun(gs2:Unit) (s2:Nat)=>st++[some (.sit a0 s2)])
     (fun(gt2:Unit) (t2:Unit)=>[])
     (fun(gt2:Unit) (t2:Unit)=>st)
     () h (bm hsc)
     (fun gs2 s2 b2 h hx2=>?_) (fun gt2 t2 fr1 st1 h hb=>?_)
    ·unfold fZ at h
     refine cd h (fun hc h=>?_) fun hc h=>?_
     ·obtain⟨fx,h⟩:=ck fx h
      refine cl h (oq n _ _) fun v7 h=>?_
      refine cd h (fun hc h=>?_) fun hc h=>?_
      ·refine ra ?_
       cases h
       refine aP ?_;have h:=congrArg some (hx2 _ rfl)
       exact rt
      ·refine rn ?_
       cases h
       exact F5 () (bm hsc)
     ·refine rn ?_
      cases h
      exact K7 () (bm0 hsc)
    ·try simp only[go_sem,fx]
     unfold jX at h
     refine R4 hb ?_
     exact rt
   ·refine cd h (fun hc h=>?_) fun hc h=>?_
    ·cases h
    ·refine r0 ?_
     refine hj1 () _ _ _ h ?_;exact(gX hsc)
theorem uK(n:Nat)(a0:Bs)(a1:Bs)(r:Int)(h:kN n a0 a1=some r):Pure Tryz.prog gl 140 [.str a0,.str a1] (.int .i64 r):=by
 unfold kN at h
 cases hc:decide (8<a0.length)with
 |true=>
  rw[hc]at h
  obtain⟨hp,h⟩:=MD h
  cases h
  exact Bx a0 a1 hp.1 (of_decide_eq_true hc) hp.2.1 hp.2.2.1 hp.2.2.2
 |false=>
  rw[hc]at h
  exact sZ n a0 a1 r h
theorem rN(n:Nat)(a0:Bs)(a1:Bs)(r:Bool)(h:bS n a0 a1=some r):Pure Tryz.prog gl 125 [.str a0,.str a1] (.bool r):=by
 intro st
 unfold bS at h
 have fx:=trivial
 refine fb 9 [.tmp 4] [0,1,4] Tryz.func125 fun hsc=>?_
 refine cl h (uK n _ _) fun v1 h=>?_
 exact rt
theorem zL(n:Nat)(a0:Bs)(r:Bool)(h:nS n a0=some r):Pure Tryz.prog gl 97 [.str a0] (.bool r):=by
 intro st
 unfold nS at h
 have fx:=trivial
 refine fb 21 [.tmp 2] [0,2,3,9,10,13,14,17,18,19] Tryz.func97 fun hsc=>?_
 refine cl h (lG n _) fun v1 h=>?_
 refine rn ?_
 obtain⟨v2,hv2,h⟩:=F9 h
 refine kG (fun hG=>(pq n _ _ (tO hv2 (by simpa using hG)))) ?_
 refine rn ?_
 obtain⟨v3,hv3,h⟩:=F9 h
 refine kG (fun hG=>(rN n _ _ _ (tO hv3 (by simpa using hG)))) ?_
 exact rt
theorem zc(n:Nat)(a0:y6)(a1:B2)(a2:C5)(r:Int)(h:mo n a0 a1 a2=some r):Pure Tryz.prog gl 70 [.agg [.sl false 2 40 (rows x7.cells a0.types),.sl false 3 32 (rows y8.cells a0.C1)],.agg [.sl false 1 8 (rows eZ a1.up),.sl false 1 8 (rows eZ a1.down)],.agg [.str a2.word,.sl false 2 32 (rows y4.cells a2.graph.nodes),.int .i64 a2.weight,.int .i64 a2.meaning.kind,.str a2.meaning.name,.int .i64 a2.meaning.index,.str a2.meaning.type.base,.sl false 2 40 (rows w6.cells a2.meaning.type.args),.sl false 6 96 (rows x9.cells a2.meaning.args)]] (.int .i64 r):=by
 intro st
 unfold mo at h
 have fx:=trivial
 refine fb 34 [.tmp 6] [0,1,2,3,4,5,6,7,11,16,17,18,19,27] Tryz.func70 fun hsc=>?_
 refine cl h (zL n _) fun v1 h=>?_
 refine cd h (fun hc h=>?_) fun hc h=>?_
 ·exact rt
 ·refine cd h (fun hc h=>?_) fun hc h=>?_
  ·exact rt
  ·refine cl h (pe n _ _ _) fun v2 h=>?_
   refine cd h (fun hc h=>?_) fun hc h=>?_
   ·exact rt
   ·refine cl h (rM n _) fun v3 h=>?_
    exact rt
theorem oS(n:Nat)(a0:x5)(r:w9)(h:dr n a0=some r):Pure Tryz.prog gl 48 [.agg [.sl false 2 40 (rows x7.cells a0.hierarchy.types),.sl false 3 32 (rows y8.cells a0.hierarchy.C1),.sl false 10 152 (rows x6.cells a0.rules),.sl false 9 144 (rows C5.cells a0.I7),.sl false 2 32 (rows y4.cells a0.start.nodes)]] (.agg [.int .i64 r.code,.int .i64 r.index]):=by
 intro st
 unfold dr at h
 have fx:=trivial
 refine fb 112 [.cell 2 37] [0,1,2,3,4,5,6,7,8,10,11,12,13,14,15,22,27,34,35,36,37,38,45,46,47,48,55,65,77,83,84,85,86,95,107] Tryz.func48 fun hsc=>?_
 refine cl h (sx _) fun v1 h=>?_
 refine cd h (fun hc h=>?_) fun hc h=>?_
 ·exact rt
 ·refine cd h (fun hc h=>?_) fun hc h=>?_
  ·refine cl h (dD _ _) fun v2 h=>?_
   exact rt
  ·refine cd h (fun hc h=>?_) fun hc h=>?_
   ·refine cl h (dD _ _) fun v3 h=>?_
    exact rt
   ·refine cl h (oR _) fun v4 h=>?_
    refine aln 45 fun hl0=>?_
    refine rng (body:=iw n a0 v4) (kk:=iy n a0 v4) (n:=a0.rules.length) (s0:=[])
     (fun(gs0:Unit) (k0:Nat) (s0:(List (Bs×Int)))=>[(1,.ptr st.length 0 0 0),(2,.ptr (st.length+1) 0 0 0),(3,.ptr (st.length+2) 0 0 0),(5,.ptr (st.length+4) 0 0 0),(6,.mp (st.length+5)),(45,.sl false 10 152 (rows x6.cells a0.rules)),(46,.int .i64 (↑a0.rules.length:Int)),(47,.int .i64 (↑k0:Int))])
     (fun(gs0:Unit) (k0:Nat) (s0:(List (Bs×Int)))=>st++[some (.arr 0 5 0 [[.sl false 2 40 (rows x7.cells a0.hierarchy.types),.sl false 3 32 (rows y8.cells a0.hierarchy.C1),.sl false 10 152 (rows x6.cells a0.rules),.sl false 9 144 (rows C5.cells a0.I7),.sl false 2 32 (rows y4.cells a0.start.nodes)]]),some (.arr 0 2 0 [[.int .i64 0,.int .i64 0]]),some (.arr 0 2 0 [[.sl false 2 40 (rows x7.cells a0.hierarchy.types),.sl false 3 32 (rows y8.cells a0.hierarchy.C1)]]),none,some (.arr 0 2 0 [[.sl false 1 8 (rows eZ v4.up),.sl false 1 8 (rows eZ v4.down)]]),some (.mps false (mrw Z4 s0))])
     (fun(gt0:Unit) (t0:(List (Bs×Int)))=>[(1,.ptr st.length 0 0 0),(2,.ptr (st.length+1) 0 0 0),(3,.ptr (st.length+2) 0 0 0),(5,.ptr (st.length+4) 0 0 0)])
     (fun(gt0:Unit) (t0:(List (Bs×Int)))=>st++[some (.arr 0 5 0 [[.sl false 2 40 (rows x7.cells a0.hierarchy.types),.sl false 3 32 (rows y8.cells a0.hierarchy.C1),.sl false 10 152 (rows x6.cells a0.rules),.sl false 9 144 (rows C5.cells a0.I7),.sl false 2 32 (rows y4.cells a0.start.nodes)]]),some (.arr 0 2 0 [[.int .i64 0,.int .i64 0]]),some (.arr 0 2 0 [[.sl false 2 40 (rows x7.cells a0.hierarchy.types),.sl false 3 32 (rows y8.cells a0.hierarchy.C1)]]),none,some (.arr 0 2 0 [[.sl false 1 8 (rows eZ v4.up),.sl false 1 8 (rows eZ v4.down)]])])
     () fx hl0 h (bm hsc)
     (fun gs0 k0 s0 b0 fx h hx0=>?_) (fun gs0 s0=>?_) (fun gt0 t0 fr1 st1 h hb=>?_)
    ·unfold iw at h
     refine ct ?_
     refine cl h (qF _) fun v12 h=>?_
     refine cd h (fun hc h=>?_) fun hc h=>?_
     ·refine cl h (dD _ _) fun v13 h=>?_
      refine ra ?_
      cases h
      refine F4 ?_;have h:=congrArg some (hx0 _ rfl)
      exact rt
     ·refine cd h (fun hc h=>?_) fun hc h=>?_
      ·refine cl h (dD _ _) fun v14 h=>?_
       refine ra ?_
       cases h
       refine F4 ?_;have h:=congrArg some (hx0 _ rfl)
       exact rt
      ·refine r0 ?_
       obtain⟨c15,Ub,h⟩:=oz h
       have fy:=(show Q6 ((get a0.rules k0).name) [.int .i64 (↑k0:Int)] (mrw Z4 s0)=mrw Z4 c15 from by rw[Ub];exact Ep (E:=Z4) _ _ _)
       refine r1 ?_
       refine cl h (zK n _ _ _) fun v17 h=>?_
       refine cd h (fun hc h=>?_) fun hc h=>?_
       ·refine cl h (dD _ _) fun v18 h=>?_
        refine ra ?_
        cases h
        refine F4 ?_;have h:=congrArg some (hx0 _ rfl)
        exact rt
       ·refine rn ?_
        cases h
        exact gW () (bm hsc)
    ·refine cf ?_
     refine gV ?_;simp only[go_sem,fx]
     exact⟨(),(bm hsc)⟩
    ·try simp only[go_sem,fx]
     unfold iy at h
     refine R4 hb ?_
     refine aln 83 fun hl1=>?_
     refine rng (body:=iz n a0 v4) (kk:=iA n a0 v4) (n:=a0.I7.length) (s0:=())
      (fun(gs1:Unit) (k1:Nat) (s1:Unit)=>[(1,.ptr st.length 0 0 0),(2,.ptr (st.length+1) 0 0 0),(3,.ptr (st.length+2) 0 0 0),(5,.ptr (st.length+4) 0 0 0),(83,.sl false 9 144 (rows C5.cells a0.I7)),(84,.int .i64 (↑a0.I7.length:Int)),(85,.int .i64 (↑k1:Int))])
      (fun(gs1:Unit) (k1:Nat) (s1:Unit)=>st++[some (.arr 0 5 0 [[.sl false 2 40 (rows x7.cells a0.hierarchy.types),.sl false 3 32 (rows y8.cells a0.hierarchy.C1),.sl false 10 152 (rows x6.cells a0.rules),.sl false 9 144 (rows C5.cells a0.I7),.sl false 2 32 (rows y4.cells a0.start.nodes)]]),some (.arr 0 2 0 [[.int .i64 0,.int .i64 0]]),some (.arr 0 2 0 [[.sl false 2 40 (rows x7.cells a0.hierarchy.types),.sl false 3 32 (rows y8.cells a0.hierarchy.C1)]]),none,some (.arr 0 2 0 [[.sl false 1 8 (rows eZ v4.up),.sl false 1 8 (rows eZ v4.down)]])])
      (fun(gt1:Unit) (t1:Unit)=>[(1,.ptr st.length 0 0 0),(2,.ptr (st.length+1) 0 0 0),(3,.ptr (st.length+2) 0 0 0),(5,.ptr (st.length+4) 0 0 0)])
      (fun(gt1:Unit) (t1:Unit)=>st++[some (.arr 0 5 0 [[.sl false 2 40 (rows x7.cells a0.hierarchy.types),.sl false 3 32 (rows y8.cells a0.hierarchy.C1),.sl false 10 152 (rows x6.cells a0.rules),.sl false 9 144 (rows C5.cells a0.I7),.sl false 2 32 (rows y4.cells a0.start.nodes)]]),some (.arr 0 2 0 [[.int .i64 0,.int .i64 0]]),some (.arr 0 2 0 [[.sl false 2 40 (rows x7.cells a0.hierarchy.types),.sl false 3 32 (rows y8.cells a0.hierarchy.C1)]]),none,some (.arr 0 2 0 [[.sl false 1 8 (rows eZ v4.up),.sl false 1 8 (rows eZ v4.down)]])])
      () fx hl1 h (bm hsc)
      (fun gs1 k1 s1 b1 fx h hx1=>?_) (fun gs1 s1=>?_) (fun gt1 t1 fr1 st1 h hb=>?_)
     ·unfold iz at h
      refine ct ?_
      refine cl h (zc n _ _ _) fun v19 h=>?_
      refine cd h (fun hc h=>?_) fun hc h=>?_
      ·refine cl h (dD _ _) fun v20 h=>?_
       refine ra ?_
       cases h
       refine F4 ?_;have h:=congrArg some (hx1 _ rfl)
       exact rt
      ·refine rn ?_
       cases h
       exact gW () (bm hsc)
     ·refine cf ?_
      refine gV ?_;simp only[go_sem,fx]
      exact⟨(),(bm hsc)⟩
     ·try simp only[go_sem,fx]
      unfold iA at h
      refine R4 hb ?_
      refine cl h (pe n _ _ _) fun v21 h=>?_
      refine cd h (fun hc h=>?_) fun hc h=>?_
      ·refine cl h (dD _ _) fun v22 h=>?_
       exact rt
      ·exact rt
theorem cF(a0:Int)(a1:Int)(r:w9)(h:L3 a0 a1=some r):Pure Tryz.prog gl 34 [.int .i64 a0,.int .i64 a1] (.agg [.int .i64 r.code,.int .i64 r.index]):=by
 intro st
 unfold L3 at h
 have fx:=trivial
 refine fb 8 [.cell 4 37] [0,1,4] Tryz.func34 fun hsc=>?_
 exact rt
theorem gL(a0:Int)(a1:Int)(r:w9)(h:bh a0 a1=some r):Pure Tryz.prog gl 73 [.int .i64 a0,.int .i64 a1] (.agg [.int .i64 r.code,.int .i64 r.index]):=by
 intro st
 unfold bh at h
 have fx:=trivial
 refine fb 8 [.cell 4 37] [0,1,4] Tryz.func73 fun hsc=>?_
 exact rt
theorem zM:∀(n:Nat) (a0:w8) (a1:Int) (a2:Int) (R2:Int) (oa:(List x7)) (yW:(List y8)) (wz:(List x6)) (wZ:(List C5)) (yX:(List y4)) (mZ:Int) (r:w9×Int×Int) (h:bg n a0 a1 a2 R2 oa yW wz wZ yX mZ=some r),∀(st:St) (o0 o1 o2 o3:Nat) (hnd: [o0,o1,o2,o3].Nodup) (jI:Am.look st o0=some (.arr 0 1 0 [[.int .i64 R2]])) (sY:Am.look st o1=some (.arr 0 5 0 [[.sl false 2 40 (rows x7.cells oa),.sl false 3 32 (rows y8.cells yW),.sl false 10 152 (rows x6.cells wz),.sl false 9 144 (rows C5.cells wZ),.sl false 2 32 (rows y4.cells yX)]])) (BZ:Am.look st o2=some (.arr 0 1 0 [[.int .i64 mZ]])) (OT:Am.look st o3=some (.arr 0 1 0 [[.fn 72 [] [.ptr o0 0 0 0,.ptr o1 0 0 0,.ptr o2 0 0 0,.ptr o3 0 0 0]]])),Am.Spec Tryz.prog gl 72 [.agg [.int .i64 a0.rule,.int .i64 a0.lex,.sl false 3 40 (rows w8.cells a0.kids)],.int .i64 a1,.int .i64 a2,.ptr o0 0 0 0,.ptr o1 0 0 0,.ptr o2 0 0 0,.ptr o3 0 0 0] st (fun d st'=>d= .agg [.int .i64 r.1.code,.int .i64 r.1.index]∧st'=puts st [(o0,(.arr 0 1 0 [[.int .i64 r.2.1]])),(o1,(.arr 0 5 0 [[.sl false 2 40 (rows x7.cells oa),.sl false 3 32 (rows y8.cells yW),.sl false 10 152 (rows x6.cells wz),.sl false 9 144 (rows C5.cells wZ),.sl false 2 32 (rows y4.cells yX)]])),(o2,(.arr 0 1 0 [[.int .i64 r.2.2]])),(o3,(.arr 0 1 0 [[.fn 72 [] [.ptr o0 0 0 0,.ptr o1 0 0 0,.ptr o2 0 0 0,.ptr o3 0 0 0]]]))]):=by
 intro n
 induction n with
 |zero=>intro a0 a1 a2 R2 oa yW wz wZ yX mZ r h;cases h
 |succ n ih=>
  intro a0 a1 a2 R2 oa yW wz wZ yX mZ r h st o0 o1 o2 o3 hnd jI sY BZ OT
  unfold bg at h
  have ho0:=T6 jI
  have ho1:=T6 sY
  have ho2:=T6 BZ
  have ho3:=T6 OT
  have fx:=fa (fa (fa (fa (idf ho0) (idf ho1)) (idf ho2)) (idf ho3)) (nd4 hnd)
  refine fb 118 [.cell 10 37] [0,1,2,3,4,5,6,7,10,11,12,14,15,21,25,26,30,35,36,37,38,39,40,43,44,45,46,47,48,49,50,51,52,53,54,55,56,57,58,62,67,68,69,73,88,94,96,100,101,102,103,114] Tryz.func72 fun hsc=>?_
  refine mJ (s':=(aZ st [(o0,(.arr 0 1 0 [[.int .i64 R2]])),(o1,(.arr 0 5 0 [[.sl false 2 40 (rows x7.cells oa),.sl false 3 32 (rows y8.cells yW),.sl false 10 152 (rows x6.cells wz),.sl false 9 144 (rows C5.cells wZ),.sl false 2 32 (rows y4.cells yX)]])),(o2,(.arr 0 1 0 [[.int .i64 mZ]])),(o3,(.arr 0 1 0 [[.fn 72 [] [.ptr o0 0 0 0,.ptr o1 0 0 0,.ptr o2 0 0 0,.ptr o3 0 0 0]]]))])) (N5 (by simp[jI,sY,BZ,OT])) ?_
  refine cd h (fun hc h=>?_) fun hc h=>?_
  ·refine cl h (gL _ _) fun v1 h=>?_
   refine rr ?_
   exact fuo (.agg [.int .i64 v1.code,.int .i64 v1.index]) (.same _) h hsc
  ·refine cd h (fun hc h=>?_) fun hc h=>?_
   ·refine cl h (gL _ _) fun v2 h=>?_
    refine rr ?_
    exact fuo (.agg [.int .i64 v2.code,.int .i64 v2.index]) (.same _) h hsc
   ·refine cd h (fun hc h=>?_) fun hc h=>?_
    ·refine cl h (gL _ _) fun v3 h=>?_
     refine rr ?_
     exact fuo (.agg [.int .i64 v3.code,.int .i64 v3.index]) (.same _) h hsc
    ·refine rn ?_
     refine iI (gJ (bg n) a0 R2 a1 oa yW wz wZ yX a2) r (fun(gj0:Unit) (j0:Int×Int)=>[(1,.int .i64 a1),(2,.int .i64 a2),(6,.ptr o3 0 0 0),(7,.ptr st.length 0 0 0),(10,.ptr (st.length+1) 0 0 0),(11,.int .i64 R2),(12,.int .i64 j0.2)]) (fun(gj0:Unit) (j0:Int×Int)=>(aZ st [(o0,(.arr 0 1 0 [[.int .i64 (wr .i64 (R2+1))]])),(o1,(.arr 0 5 0 [[.sl false 2 40 (rows x7.cells oa),.sl false 3 32 (rows y8.cells yW),.sl false 10 152 (rows x6.cells wz),.sl false 9 144 (rows C5.cells wZ),.sl false 2 32 (rows y4.cells yX)]])),(o2,(.arr 0 1 0 [[.int .i64 j0.1]])),(o3,(.arr 0 1 0 [[.fn 72 [] [.ptr o0 0 0 0,.ptr o1 0 0 0,.ptr o2 0 0 0,.ptr o3 0 0 0]]]))])++[some (.arr 0 3 0 [[.int .i64 a0.rule,.int .i64 a0.lex,.sl false 3 40 (rows w8.cells a0.kids)]]),some (.arr 0 2 0 [[.int .i64 0,.int .i64 0]])]) (fun gj0 j0 fr1 st1 h hb=>?_) (fun hj0=>?_)
     ·try simp only[go_sem,fx]
      unfold gJ at h
      refine R4 hb ?_
      refine cd h (fun hc h=>?_) fun hc h=>?_
      ·refine cl h (gL _ _) fun v6 h=>?_
       refine rr ?_
       exact fuo (.agg [.int .i64 v6.code,.int .i64 v6.index]) (.same _) h hsc
      ·refine rn ?_
       refine iI (ft (bg n) R2 j0 a0 a1 oa yW wz wZ yX) r (fun(gj1:Unit) (j1:Int)=>[(1,.int .i64 a1),(2,.int .i64 j1),(6,.ptr o3 0 0 0),(7,.ptr st.length 0 0 0),(10,.ptr (st.length+1) 0 0 0),(11,.int .i64 R2)]) (fun(gj1:Unit) (j1:Int)=>(aZ st [(o0,(.arr 0 1 0 [[.int .i64 (wr .i64 (R2+1))]])),(o1,(.arr 0 5 0 [[.sl false 2 40 (rows x7.cells oa),.sl false 3 32 (rows y8.cells yW),.sl false 10 152 (rows x6.cells wz),.sl false 9 144 (rows C5.cells wZ),.sl false 2 32 (rows y4.cells yX)]])),(o2,(.arr 0 1 0 [[.int .i64 j0.1]])),(o3,(.arr 0 1 0 [[.fn 72 [] [.ptr o0 0 0 0,.ptr o1 0 0 0,.ptr o2 0 0 0,.ptr o3 0 0 0]]]))])++[some (.arr 0 3 0 [[.int .i64 a0.rule,.int .i64 a0.lex,.sl false 3 40 (rows w8.cells a0.kids)]]),some (.arr 0 2 0 [[.int .i64 0,.int .i64 0]])]) (fun gj1 j1 fr1 st1 h hb=>?_) (fun hj1=>?_)
       ·try simp only[go_sem,fx]
        unfold ft at h
        refine R4 hb ?_
        refine cd h (fun hc h=>?_) fun hc h=>?_
        ·refine cl h (gL _ _) fun v7 h=>?_
         refine rr ?_
         exact fuo (.agg [.int .i64 v7.code,.int .i64 v7.index]) (.same _) h hsc
        ·refine aln 100 fun hl2=>?_
         refine rng (body:=jy (bg n) a0 a1 j1 oa yW wz wZ yX) (kk:=lN) (n:=a0.kids.length) (s0:=((wr .i64 (R2+1)),j0.1))
          (fun(gs2:Unit) (k2:Nat) (s2:Int×Int)=>[(1,.int .i64 a1),(2,.int .i64 j1),(6,.ptr o3 0 0 0),(10,.ptr (st.length+1) 0 0 0),(100,.sl false 3 40 (rows w8.cells a0.kids)),(101,.int .i64 (↑a0.kids.length:Int)),(102,.int .i64 (↑k2:Int))])
          (fun(gs2:Unit) (k2:Nat) (s2:Int×Int)=>(aZ st [(o0,(.arr 0 1 0 [[.int .i64 s2.1]])),(o1,(.arr 0 5 0 [[.sl false 2 40 (rows x7.cells oa),.sl false 3 32 (rows y8.cells yW),.sl false 10 152 (rows x6.cells wz),.sl false 9 144 (rows C5.cells wZ),.sl false 2 32 (rows y4.cells yX)]])),(o2,(.arr 0 1 0 [[.int .i64 s2.2]])),(o3,(.arr 0 1 0 [[.fn 72 [] [.ptr o0 0 0 0,.ptr o1 0 0 0,.ptr o2 0 0 0,.ptr o3 0 0 0]]]))])++[none,some (.arr 0 2 0 [[.int .i64 0,.int .i64 0]])])
          (fun(gt2:Unit) (t2:Int×Int)=>[(10,.ptr (st.length+1) 0 0 0)])
          (fun(gt2:Unit) (t2:Int×Int)=>(aZ st [(o0,(.arr 0 1 0 [[.int .i64 t2.1]])),(o1,(.arr 0 5 0 [[.sl false 2 40 (rows x7.cells oa),.sl false 3 32 (rows y8.cells yW),.sl false 10 152 (rows x6.cells wz),.sl false 9 144 (rows C5.cells wZ),.sl false 2 32 (rows y4.cells yX)]])),(o2,(.arr 0 1 0 [[.int .i64 t2.2]])),(o3,(.arr 0 1 0 [[.fn 72 [] [.ptr o0 0 0 0,.ptr o1 0 0 0,.ptr o2 0 0 0,.ptr o3 0 0 0]]]))])++[none,some (.arr 0 2 0 [[.int .i64 0,.int .i64 0]])])
          () fx hl2 h (bu hsc)
          (fun gs2 k2 s2 b2 fx h hx2=>?_) (fun gs2 s2=>?_) (fun gt2 t2 fr1 st1 h hb=>?_)
         ·unfold jy at h
          refine ct ?_
          refine rn ?_
          obtain⟨v9,hv9,h⟩:=F9 h
          refine(ih _ _ _ _ _ _ _ _ _ _ _ hv9 _ _ _ _ _ hnd (by simp only[go_sem,fx]) (by simp only[go_sem,fx]) (by simp only[go_sem,fx]) (by simp only[go_sem,fx])).mono ?_
          rintro d1 st1 ⟨rfl,rfl⟩
          refine cd h (fun hc h=>?_) fun hc h=>?_
          ·refine ra ?_
           cases h
           refine F4 ?_;have h:=congrArg some (hx2 _ rfl)
           refine rr ?_
           exact fuo (.agg [.int .i64 v9.1.code,.int .i64 v9.1.index]) (.same _) h hsc
          ·refine rn ?_
           cases h
           exact gW () (bu hsc)
         ·refine cf ?_
          refine gV ?_;simp only[go_sem,fx]
          exact⟨(),(bu hsc)⟩
         ·try simp only[go_sem,fx]
          unfold lN at h
          refine R4 hb ?_
          refine rr ?_
          exact fuo (.agg [.int .i64 0,.int .i64 0]) (.same _) h hsc
       ·refine cd h (fun hc h=>?_) fun hc h=>?_
        ·refine r0 ?_
         refine hj1 () _ _ _ h ?_;exact(bu hsc)
        ·refine r0 ?_
         refine hj1 () _ _ _ h ?_;exact(bu hsc)
     ·refine cd h (fun hc h=>?_) fun hc h=>?_
      ·obtain⟨fx,h⟩:=ck fx h
       refine r0 ?_
       refine hj0 () _ _ _ h ?_;exact(bu hsc)
      ·refine r0 ?_
       refine hj0 () _ _ _ h ?_;exact(bu hsc)
end Go.Proofs.YtfogbhjeihkliaaGreatDoor
