import Derived.Test.YtbgkcolebacbmaaGreatDoorDWalk2
set_option linter.unusedVariables false
set_option linter.unusedSimpArgs false
set_option maxHeartbeats 2000000
set_option maxRecDepth 100000
namespace Go.Proofs.YtbgkcolebacbmaaGreatDoor
open Go Go.Am
theorem mH(n:Nat)(a0:w5)(a1:B7)(a2:y4)(r:w9)(h:fX n a0 a1 a2=some r):Pure Tryz.prog gl 56 [.agg [.sl false 2 40 (rows w6.cells a0.types),.sl false 3 32 (rows y3.cells a0.B5)],.agg [.sl false 1 8 (rows bP a1.up),.sl false 1 8 (rows bP a1.down)],.agg [.sl false 2 32 (rows w8.cells a2.nodes)]] (.agg [.int .i64 r.code,.int .i64 r.index]):=by
 intro st
 unfold fX at h
 have fx:=trivial
 refine fb 74 [.cell 6 41] [0,1,2,3,4,5,6,7,8,9,11,12,13,19,22,23,24,25,30,31,32,33,50,51,52,53,54,55,56,57,58,59,60,61,62,70] Tryz.func56 fun hsc=>?_
 refine cl h (zm _ _) fun v1 h=>?_
 refine cd h (fun hc h=>?_) fun hc h=>?_
 ·exact rt
 ·refine aln 22 fun hl0=>?_
  refine rng (body:=iV a2 a0 a1) (kk:=iY n a2) (n:=a2.nodes.length) (s0:=())
   (fun(gs0:Unit) (k0:Nat) (s0:Unit)=>[(3,.ptr st.length 0 0 0),(4,.ptr (st.length+1) 0 0 0),(5,.ptr (st.length+2) 0 0 0),(6,.ptr (st.length+3) 0 0 0),(22,.sl false 2 32 (rows w8.cells a2.nodes)),(23,.int .i64 (↑a2.nodes.length:Int)),(24,.int .i64 (↑k0:Int))])
   (fun(gs0:Unit) (k0:Nat) (s0:Unit)=>st++[some (.arr 0 2 0 [[.sl false 2 40 (rows w6.cells a0.types),.sl false 3 32 (rows y3.cells a0.B5)]]),some (.arr 0 2 0 [[.sl false 1 8 (rows bP a1.up),.sl false 1 8 (rows bP a1.down)]]),some (.arr 0 1 0 [[.sl false 2 32 (rows w8.cells a2.nodes)]]),some (.arr 0 2 0 [[.int .i64 0,.int .i64 0]])])
   (fun(gt0:Unit) (t0:Unit)=>[(5,.ptr (st.length+2) 0 0 0),(6,.ptr (st.length+3) 0 0 0)])
   (fun(gt0:Unit) (t0:Unit)=>st++[none,none,some (.arr 0 1 0 [[.sl false 2 32 (rows w8.cells a2.nodes)]]),some (.arr 0 2 0 [[.int .i64 0,.int .i64 0]])])
   () fx hl0 h (bm hsc)
   (fun gs0 k0 s0 b0 fx h hx0=>?_) (fun gs0 s0=>?_) (fun gt0 t0 fr1 st1 h hb=>?_)
  ·unfold iV at h
   refine ct ?_
   refine aln 30 fun hl2=>?_
   refine rng (body:=iW a2 k0 a0 a1) (kk:=iX) (n:=((get a2.nodes k0).links).length) (s0:=())
    (fun(gs2:Unit) (k2:Nat) (s2:Unit)=>[(3,.ptr st.length 0 0 0),(4,.ptr (st.length+1) 0 0 0),(5,.ptr (st.length+2) 0 0 0),(6,.ptr (st.length+3) 0 0 0),(8,.int .i64 (↑k0:Int)),(9,.ptr (st.length+4) 0 0 0),(22,.sl false 2 32 (rows w8.cells a2.nodes)),(23,.int .i64 (↑a2.nodes.length:Int)),(24,.int .i64 (↑k0:Int)),(30,.sl false 2 16 (rows D4.cells ((get a2.nodes k0).links))),(31,.int .i64 (↑(((get a2.nodes k0).links).length):Int)),(32,.int .i64 (↑k2:Int))])
    (fun(gs2:Unit) (k2:Nat) (s2:Unit)=>st++[some (.arr 0 2 0 [[.sl false 2 40 (rows w6.cells a0.types),.sl false 3 32 (rows y3.cells a0.B5)]]),some (.arr 0 2 0 [[.sl false 1 8 (rows bP a1.up),.sl false 1 8 (rows bP a1.down)]]),some (.arr 0 1 0 [[.sl false 2 32 (rows w8.cells a2.nodes)]]),some (.arr 0 2 0 [[.int .i64 0,.int .i64 0]]),some (.arr 0 2 0 [[.int .i64 ((get a2.nodes k0).type),.sl false 2 16 (rows D4.cells ((get a2.nodes k0).links))]])])
    (fun(gt2:Unit) (t2:Unit)=>[(3,.ptr st.length 0 0 0),(4,.ptr (st.length+1) 0 0 0),(5,.ptr (st.length+2) 0 0 0),(6,.ptr (st.length+3) 0 0 0),(22,.sl false 2 32 (rows w8.cells a2.nodes)),(23,.int .i64 (↑a2.nodes.length:Int)),(24,.int .i64 (↑k0:Int))])
    (fun(gt2:Unit) (t2:Unit)=>st++[some (.arr 0 2 0 [[.sl false 2 40 (rows w6.cells a0.types),.sl false 3 32 (rows y3.cells a0.B5)]]),some (.arr 0 2 0 [[.sl false 1 8 (rows bP a1.up),.sl false 1 8 (rows bP a1.down)]]),some (.arr 0 1 0 [[.sl false 2 32 (rows w8.cells a2.nodes)]]),some (.arr 0 2 0 [[.int .i64 0,.int .i64 0]])])
    () fx hl2 h (bm hsc)
    (fun gs2 k2 s2 b2 fx h hx2=>?_) (fun gs2 s2=>?_) (fun gt2 t2 fr1 st1 h hb=>?_)
   ·unfold iW at h
    refine ct ?_
    obtain⟨fx,h⟩:=ck fx h
    refine rn ?_
    refine dw [] 0 ?_
    obtain⟨v28,hv28,h⟩:=E6 h
    refine B3 (jR _ _ _ _ hv28) ?_
    obtain⟨fx,h⟩:=ck fx h
    try simp only[go_sem,fx]
    obtain⟨v32,hv32,h⟩:=E6 h
    refine bG (fun hG=>(jR _ _ _ _ (kH hv32 (by simpa using hG)))) ?_
    try simp only[go_sem,fx]
    refine cd h (fun hc h=>?_) fun hc h=>?_
    ·refine cl h (fD _ _) fun v33 h=>?_
     refine ra ?_
     cases h
     refine D6 ?_;obtain rfl:=hx2 _ rfl;try simp only[go_sem,fx]
     refine D6 ?_;have h:=congrArg some (hx0 _ rfl)
     exact rt
    ·refine rn ?_
     cases h
     exact aX () (bm hsc)
   ·refine cf ?_
    refine Z6 ?_;simp only[go_sem,fx]
    exact⟨(),(bm hsc)⟩
   ·try simp only[go_sem,fx]
    unfold iX at h
    refine K1 hb ?_
    refine rn ?_
    cases h
    exact aX () (bm hsc)
  ·refine cf ?_
   refine Z6 ?_;simp only[go_sem,fx]
   exact⟨(),(bm hsc)⟩
  ·try simp only[go_sem,fx]
   unfold iY at h
   refine K1 hb ?_
   refine cl h (tA n _) fun v34 h=>?_
   refine cd h (fun hc h=>?_) fun hc h=>?_
   ·refine cl h (fD _ _) fun v35 h=>?_
    exact rt
   ·exact rt
theorem qx(a0:Int)(r:Bool)(h:nT a0=some r):Pure Tryz.prog gl 123 [.int .i64 a0] (.bool r):=by
 intro st
 unfold nT at h
 have fx:=trivial
 refine fb 6 [.tmp 2] [0,2] Tryz.func123 fun hsc=>?_
 exact rt
theorem uc(a0:Int)(a1:Int)(r:Int)(h:gV a0 a1=some r):Pure Tryz.prog gl 114 [.int .i64 a0,.int .i64 a1] (.int .i64 r):=by
 intro st
 unfold gV at h
 have fx:=trivial
 refine fb 20 [.tmp 4] [0,1,4,5,6,11,12,13,16,19] Tryz.func114 fun hsc=>?_
 refine cl h (qx _) fun v1 h=>?_
 refine cl h (qx _) fun v2 h=>?_
 refine cd h (fun hc h=>?_) fun hc h=>?_
 ·refine cd h (fun hc h=>?_) fun hc h=>?_
  ·exact rt
  ·exact rt
 ·refine cd h (fun hc h=>?_) fun hc h=>?_
  ·exact rt
  ·refine cd h (fun hc h=>?_) fun hc h=>?_
   ·exact rt
   ·refine cd h (fun hc h=>?_) fun hc h=>?_
    ·exact rt
    ·exact rt
theorem pD(a0:D4)(a1:Int)(r:Int)(h:gH a0 a1=some r):Pure Tryz.prog gl 113 [.agg [.int .i64 a0.gG,.int .i64 a0.to_],.int .i64 a1] (.int .i64 r):=by
 intro st
 unfold gH at h
 have fx:=trivial
 refine fb 9 [.tmp 4] [0,1,2,4] Tryz.func113 fun hsc=>?_
 refine cl h (uc _ _) fun v1 h=>?_
 exact rt
theorem dJ(n:Nat)(a0:(List D4))(a1:Int)(r:Int×Bool)(h:F2 n a0 a1=some r):Pure Tryz.prog gl 112 [.sl false 2 16 (rows D4.cells a0),.int .i64 a1,.fn 113 [] []] (.tup [.int .i64 r.1,.bool r.2]):=by
 intro st
 unfold F2 at h
 have fx:=trivial
 refine fb 49 [.tmp 6,.tmp 7] [0,1,2,6,7,8,9,10,11,17,31,40,41,42,43,44,45,46,47] Tryz.func112 fun hsc=>?_
 refine rn ?_
 refine F1 (body:=G1 a0 a1) (kk:=G2 a0 a1) (n:=n) (s0:=((↑a0.length:Int),0))
  (fun(gs0:Unit) (s0:Int×Int)=>[(0,.sl false 2 16 (rows D4.cells a0)),(1,.int .i64 a1),(2,.fn 113 [] []),(8,.int .i64 (↑a0.length:Int)),(9,.int .i64 s0.2),(10,.int .i64 s0.1)])
  (fun(gs0:Unit) (s0:Int×Int)=>st)
  (fun(gt0:Unit) (t0:Int)=>[(0,.sl false 2 16 (rows D4.cells a0)),(1,.int .i64 a1),(2,.fn 113 [] []),(8,.int .i64 (↑a0.length:Int)),(9,.int .i64 t0)])
  (fun(gt0:Unit) (t0:Int)=>st)
  () h (bX hsc)
  (fun gs0 s0 b0 h hx0=>?_) (fun gt0 t0 fr1 st1 h hb=>?_)
 ·unfold G1 at h
  refine cd h (fun hc h=>?_) fun hc h=>?_
  ·obtain⟨fx,h⟩:=ck fx h
   refine cl h (pD _ _) fun v6 h=>?_
   refine cd h (fun hc h=>?_) fun hc h=>?_
   ·refine rn ?_
    cases h
    exact G0 () (bX hsc)
   ·refine rn ?_
    cases h
    exact G0 () (bX hsc)
  ·refine rn ?_
   cases h
   exact P0 () (bX hsc)
 ·try simp only[go_sem,fx]
  unfold G2 at h
  refine K1 hb ?_
  obtain⟨fx,h⟩:=ck fx h
  refine rn ?_
  obtain⟨v10,hv10,h⟩:=E6 h
  refine U4 (fun hG=>(pD _ _ _ (kH hv10 (by simpa using hG)))) ?_
  exact rt
theorem wX(n:Nat)(a0:y4)(a1:Int)(a2:Int)(r:Int)(h:kL n a0 a1 a2=some r):Pure Tryz.prog gl 98 [.agg [.sl false 2 32 (rows w8.cells a0.nodes)],.int .i64 a1,.int .i64 a2] (.int .i64 r):=by
 intro st
 unfold kL at h
 have fx:=trivial
 refine fb 32 [.tmp 6] [0,1,2,3,6,7,8,21] Tryz.func98 fun hsc=>?_
 obtain⟨fx,h⟩:=ck fx h
 refine cl h (dJ n _ _) fun v3 h=>?_
 refine cd h (fun hc h=>?_) fun hc h=>?_
 ·exact rt
 ·obtain⟨fx,h⟩:=ck fx h
  exact rt
theorem ud(n:Nat)(a0:y4)(a1:Int)(r:Bool)(h:cY n a0 a1=some r):Pure Tryz.prog gl 83 [.agg [.sl false 2 32 (rows w8.cells a0.nodes)],.int .i64 a1] (.bool r):=by
 intro st
 unfold cY at h
 have fx:=trivial
 refine fb 18 [.tmp 4] [0,1,2,4,5,6,7,16] Tryz.func83 fun hsc=>?_
 refine rn ?_
 refine rng (body:=Y9 n a0 a1) (kk:=fS) (n:=4) (s0:=())
  (fun(gs0:Unit) (k0:Nat) (s0:Unit)=>[(1,.int .i64 a1),(2,.ptr st.length 0 0 0),(6,.int .i64 (↑k0:Int))])
  (fun(gs0:Unit) (k0:Nat) (s0:Unit)=>st++[some (.arr 0 1 0 [[.sl false 2 32 (rows w8.cells a0.nodes)]])])
  (fun(gt0:Unit) (t0:Unit)=>[])
  (fun(gt0:Unit) (t0:Unit)=>st)
  () fx (by decide) h (bm hsc)
  (fun gs0 k0 s0 b0 fx h hx0=>?_) (fun gs0 s0=>?_) (fun gt0 t0 fr1 st1 h hb=>?_)
 ·unfold Y9 at h
  have fx:=fa fx (show(↑k0:Int)<4 by omega)
  refine ct ?_
  refine cl h (wX n _ _ _) fun v1 h=>?_
  refine cd h (fun hc h=>?_) fun hc h=>?_
  ·refine ra ?_
   cases h
   refine D6 ?_;have h:=congrArg some (hx0 _ rfl)
   exact rt
  ·refine rn ?_
   cases h
   exact aX () (bm hsc)
 ·refine cf ?_
  refine Z6 ?_;simp only[go_sem,fx]
  exact⟨(),(bm0 hsc)⟩
 ·try simp only[go_sem,fx]
  unfold fS at h
  refine K1 hb ?_
  exact rt
theorem M9(a0:Int)(iI:Int)(r:w9)(h:M5 a0 iI=some r):∀(st:St) (o0:Nat) (hnd: [o0].Nodup) (oo:Am.look st o0=some (.arr 0 1 0 [[.int .i64 iI]])),Am.Spec Tryz.prog gl 100 [.int .i64 a0,.ptr o0 0 0 0] st (fun d st'=>d= .agg [.int .i64 r.code,.int .i64 r.index]∧st'=puts st []):=by
 intro st o0 hnd oo
 unfold M5 at h
 have ho0:=jD oo
 have fx:=idf ho0
 refine fb 7 [.cell 3 41] [0,1,3] Tryz.func100 fun hsc=>?_
 refine tM (s':=(bp st [(o0,(.arr 0 1 0 [[.int .i64 iI]]))])) (U6 (by simp[oo])) ?_
 refine rr ?_
 exact fuo (.agg [.int .i64 a0,.int .i64 iI]) (.same _) h hsc (hr:=by rintro rfl;exact⟨rfl,U6 (by simp[oo])⟩)
theorem rY:∀(n:Nat) (a0:u0) (a1:Int) (iI:Int) (r:Int×Int) (h:aN n a0 a1 iI=some r),∀(st:St) (o0 o1:Nat) (hnd: [o0,o1].Nodup) (oo:Am.look st o0=some (.arr 0 1 0 [[.int .i64 iI]])) (Hq:Am.look st o1=some (.arr 0 1 0 [[.fn 115 [] [.ptr o0 0 0 0,.ptr o1 0 0 0]]])),Am.Spec Tryz.prog gl 115 [.agg [.str a0.base,.sl false 2 40 (rows u0.cells a0.args)],.int .i64 a1,.ptr o0 0 0 0,.ptr o1 0 0 0] st (fun d st'=>d= .int .i64 r.1∧st'=puts st [(o0,(.arr 0 1 0 [[.int .i64 r.2]])),(o1,(.arr 0 1 0 [[.fn 115 [] [.ptr o0 0 0 0,.ptr o1 0 0 0]]]))]):=by
 intro n
 induction n with
 |zero=>intro a0 a1 iI r h;cases h
 |succ n ih=>
  intro a0 a1 iI r h st o0 o1 hnd oo Hq
  unfold aN at h
  have ho0:=jD oo
  have ho1:=jD Hq
  have fx:=fa (fa (idf ho0) (idf ho1)) (nd2 hnd)
  refine fb 62 [.tmp 6] [0,1,2,3,4,6,7,9,10,16,17,18,23,24,25,29,30,31,32,35,36,37,38,39,40,41,42,43,45,47,48,49,50,59] Tryz.func115 fun hsc=>?_
  refine tM (s':=(bp st [(o0,(.arr 0 1 0 [[.int .i64 iI]])),(o1,(.arr 0 1 0 [[.fn 115 [] [.ptr o0 0 0 0,.ptr o1 0 0 0]]]))])) (U6 (by simp[oo,Hq])) ?_
  refine cd h (fun hc h=>?_) fun hc h=>?_
  ·refine rr ?_
   exact fuo (.int .i64 1) (.same _) h hsc
  ·refine cd h (fun hc h=>?_) fun hc h=>?_
   ·refine rr ?_
    exact fuo (.int .i64 5) (.same _) h hsc
   ·refine aln 47 fun hl0=>?_
    refine rng (body:=ey (aN n) a0 a1) (kk:=eA) (n:=a0.args.length) (s0:=(wr .i64 (iI+1)))
     (fun(gs0:Unit) (k0:Nat) (s0:Int)=>[(1,.int .i64 a1),(3,.ptr o1 0 0 0),(47,.sl false 2 40 (rows u0.cells a0.args)),(48,.int .i64 (↑a0.args.length:Int)),(49,.int .i64 (↑k0:Int))])
     (fun(gs0:Unit) (k0:Nat) (s0:Int)=>(bp st [(o0,(.arr 0 1 0 [[.int .i64 s0]])),(o1,(.arr 0 1 0 [[.fn 115 [] [.ptr o0 0 0 0,.ptr o1 0 0 0]]]))]))
     (fun(gt0:Unit) (t0:Int)=>[])
     (fun(gt0:Unit) (t0:Int)=>(bp st [(o0,(.arr 0 1 0 [[.int .i64 t0]])),(o1,(.arr 0 1 0 [[.fn 115 [] [.ptr o0 0 0 0,.ptr o1 0 0 0]]]))]))
     () fx hl0 h (bu0 hsc)
     (fun gs0 k0 s0 b0 fx h hx0=>?_) (fun gs0 s0=>?_) (fun gt0 t0 fr1 st1 h hb=>?_)
    ·unfold ey at h
     refine ct ?_
     refine rn ?_
     obtain⟨v2,hv2,h⟩:=E6 h
     refine(ih _ _ _ _ hv2 _ _ _ hnd (by simp only[go_sem,fx]) (by simp only[go_sem,fx])).mono ?_
     rintro d1 st1 ⟨rfl,rfl⟩
     refine cd h (fun hc h=>?_) fun hc h=>?_
     ·refine ra ?_
      cases h
      refine D6 ?_;have h:=congrArg some (hx0 _ rfl)
      refine rr ?_
      exact fuo (.int .i64 v2.1) (.same _) h hsc
     ·refine rn ?_
      cases h
      exact aX () (bu0 hsc)
    ·refine cf ?_
     refine Z6 ?_;simp only[go_sem,fx]
     exact⟨(),(RV hsc)⟩
    ·try simp only[go_sem,fx]
     unfold eA at h
     refine K1 hb ?_
     refine rr ?_
     exact fus (.int .i64 0) (.same _) h hsc
theorem ny(n:Nat)(a0:u0)(r:w9)(h:dN n a0=some r):Pure Tryz.prog gl 101 [.agg [.str a0.base,.sl false 2 40 (rows u0.cells a0.args)]] (.agg [.int .i64 r.code,.int .i64 r.index]):=by
 intro st
 unfold dN at h
 have fx:=trivial
 refine fb 10 [.cell 2 41] [0,1,2,3,4] Tryz.func101 fun hsc=>?_
 refine rn ?_
 obtain⟨v1,hv1,h⟩:=E6 h
 refine(rY n _ _ _ _ hv1 _ _ _ (by simp) (cQ.trans rfl) (cQ.trans rfl)).mono ?_
 rintro d1 st1 ⟨rfl,rfl⟩
 exact rt
theorem wF(a0:u0)(r:Bool)(h:pY a0=some r):Pure Tryz.prog gl 102 [.agg [.str a0.base,.sl false 2 40 (rows u0.cells a0.args)]] (.bool r):=by
 intro st
 unfold pY at h
 have fx:=trivial
 refine fb 12 [.tmp 2] [0,1,2,7,8,9,10] Tryz.func102 fun hsc=>?_
 exact rt
theorem uf:∀(n:Nat) (a0:w7) (a1:Int) (a2:Int) (iI:Int) (r:w9×Int) (h:bM n a0 a1 a2 iI=some r),∀(st:St) (o0 o1:Nat) (hnd: [o0,o1].Nodup) (oo:Am.look st o0=some (.arr 0 1 0 [[.int .i64 iI]])) (Hq:Am.look st o1=some (.arr 0 1 0 [[.fn 99 [] [.ptr o0 0 0 0,.ptr o1 0 0 0]]])),Am.Spec Tryz.prog gl 99 [.agg [.int .i64 a0.kind,.str a0.name,.int .i64 a0.index,.str a0.type.base,.sl false 2 40 (rows u0.cells a0.type.args),.sl false 6 96 (rows w7.cells a0.args)],.int .i64 a1,.int .i64 a2,.ptr o0 0 0 0,.ptr o1 0 0 0] st (fun d st'=>d= .agg [.int .i64 r.1.code,.int .i64 r.1.index]∧st'=puts st [(o0,(.arr 0 1 0 [[.int .i64 r.2]])),(o1,(.arr 0 1 0 [[.fn 99 [] [.ptr o0 0 0 0,.ptr o1 0 0 0]]]))]):=by
 intro n
 induction n with
 |zero=>intro a0 a1 a2 iI r h;cases h
 |succ n ih=>
  intro a0 a1 a2 iI r h st o0 o1 hnd oo Hq
  unfold bM at h
  have ho0:=jD oo
  have ho1:=jD Hq
  have fx:=fa (fa (idf ho0) (idf ho1)) (nd2 hnd)
  refine fb 166 [.cell 8 41] [0,1,2,3,4,5,8,9,10,11,19,20,21,25,28,34,35,36,37,38,44,51,54,60,61,62,63,66,67,68,69,70,77,78,79,80,81,84,90,91,92,95,96,97,98,99,106,119,125,126,127,130,131,132,133,136,137,138,139,140,154] Tryz.func99 fun hsc=>?_
  refine tM (s':=(bp st [(o0,(.arr 0 1 0 [[.int .i64 iI]])),(o1,(.arr 0 1 0 [[.fn 99 [] [.ptr o0 0 0 0,.ptr o1 0 0 0]]]))])) (U6 (by simp[oo,Hq])) ?_
  refine cd h (fun hc h=>?_) fun hc h=>?_
  ·refine rn ?_
   obtain⟨v1,hv1,h⟩:=E6 h
   refine(M9 _ _ _ hv1 _ _ (by simp) (bD.trans rfl)).mono ?_
   rintro d1 st1 ⟨rfl,rfl⟩
   refine rr ?_
   exact fuo (.agg [.int .i64 v1.code,.int .i64 v1.index]) (.same _) h hsc
  ·refine cd h (fun hc h=>?_) fun hc h=>?_
   ·refine cd h (fun hc h=>?_) fun hc h=>?_
    ·refine rn ?_
     obtain⟨v2,hv2,h⟩:=E6 h
     refine(M9 _ _ _ hv2 _ _ (by simp) (bD.trans rfl)).mono ?_
     rintro d1 st1 ⟨rfl,rfl⟩
     refine rr ?_
     exact fuo (.agg [.int .i64 v2.code,.int .i64 v2.index]) (.same _) h hsc
    ·refine cl h (nU _) fun v3 h=>?_
     refine cd h (fun hc h=>?_) fun hc h=>?_
     ·refine rn ?_
      obtain⟨v4,hv4,h⟩:=E6 h
      refine(M9 _ _ _ hv4 _ _ (by simp) (bD.trans rfl)).mono ?_
      rintro d1 st1 ⟨rfl,rfl⟩
      refine rr ?_
      exact fuo (.agg [.int .i64 v4.code,.int .i64 v4.index]) (.same _) h hsc
     ·refine cl h (ny n _) fun v5 h=>?_
      refine cd h (fun hc h=>?_) fun hc h=>?_
      ·refine rn ?_
       obtain⟨v6,hv6,h⟩:=E6 h
       refine(M9 _ _ _ hv6 _ _ (by simp) (bD.trans rfl)).mono ?_
       rintro d1 st1 ⟨rfl,rfl⟩
       refine rr ?_
       exact fuo (.agg [.int .i64 v6.code,.int .i64 v6.index]) (.same _) h hsc
      ·refine rr ?_
       exact fuo (.agg [.int .i64 0,.int .i64 0]) (.same _) h hsc
   ·refine cd h (fun hc h=>?_) fun hc h=>?_
    ·refine rn ?_
     obtain⟨v7,hv7,h⟩:=E6 h
     refine U4 (fun hG=>(wF _ _ (kH hv7 (by simpa using hG)))) ?_
     refine cd h (fun hc h=>?_) fun hc h=>?_
     ·refine rn ?_
      obtain⟨v8,hv8,h⟩:=E6 h
      refine(M9 _ _ _ hv8 _ _ (by simp) (bD.trans rfl)).mono ?_
      rintro d1 st1 ⟨rfl,rfl⟩
      refine rr ?_
      exact fuo (.agg [.int .i64 v8.code,.int .i64 v8.index]) (.same _) h hsc
     ·refine cd h (fun hc h=>?_) fun hc h=>?_
      ·refine rn ?_
       obtain⟨v9,hv9,h⟩:=E6 h
       refine(M9 _ _ _ hv9 _ _ (by simp) (bD.trans rfl)).mono ?_
       rintro d1 st1 ⟨rfl,rfl⟩
       refine rr ?_
       exact fuo (.agg [.int .i64 v9.code,.int .i64 v9.index]) (.same _) h hsc
      ·refine rr ?_
       exact fuo (.agg [.int .i64 0,.int .i64 0]) (.same _) h hsc
    ·refine cd h (fun hc h=>?_) fun hc h=>?_
     ·refine cd h (fun hc h=>?_) fun hc h=>?_
      ·refine rn ?_
       obtain⟨v10,hv10,h⟩:=E6 h
       refine(M9 _ _ _ hv10 _ _ (by simp) (bD.trans rfl)).mono ?_
       rintro d1 st1 ⟨rfl,rfl⟩
       refine rr ?_
       exact fuo (.agg [.int .i64 v10.code,.int .i64 v10.index]) (.same _) h hsc
      ·refine cl h (ny n _) fun v11 h=>?_
       refine cd h (fun hc h=>?_) fun hc h=>?_
       ·refine rn ?_
        obtain⟨v12,hv12,h⟩:=E6 h
        refine(M9 _ _ _ hv12 _ _ (by simp) (bD.trans rfl)).mono ?_
        rintro d1 st1 ⟨rfl,rfl⟩
        refine rr ?_
        exact fuo (.agg [.int .i64 v12.code,.int .i64 v12.index]) (.same _) h hsc
       ·refine rn ?_
        obtain⟨fx,h⟩:=ck fx h
        refine dw [9] 0 ?_
        obtain⟨v14,hv14,h⟩:=E6 h
        refine xO [o0,o1] (fun st2 h2=>(ih _ _ _ _ _ hv14 st2 _ _ hnd ((h2 _ (by simp)).trans (by simp only[go_sem,fx])) ((h2 _ (by simp)).trans (by simp only[go_sem,fx])))) (by simp) (by simp only[List.mem_cons,List.not_mem_nil,or_false,forall_eq_or_imp,forall_eq];exact⟨⟨by first|omega|(simp<;>omega),_,(by simp only[go_sem,fx]<;>rfl),Ob.noConfusion⟩,⟨by first|omega|(simp<;>omega),_,(by simp only[go_sem,fx]<;>rfl),Ob.noConfusion⟩⟩) (by simp) ?_
        try simp only[go_sem,fx]
        try refine⟨by(simp<;>omega),?_⟩
        refine rr ?_
        exact fuo (.agg [.int .i64 v14.1.code,.int .i64 v14.1.index]) (.same _) h hsc
     ·refine cd h (fun hc h=>?_) fun hc h=>?_
      ·refine rn ?_
       obtain⟨v15,hv15,h⟩:=E6 h
       refine U4 (fun hG=>(wF _ _ (kH hv15 (by simpa using hG)))) ?_
       refine cd h (fun hc h=>?_) fun hc h=>?_
       ·refine rn ?_
        obtain⟨v16,hv16,h⟩:=E6 h
        refine(M9 _ _ _ hv16 _ _ (by simp) (bD.trans rfl)).mono ?_
        rintro d1 st1 ⟨rfl,rfl⟩
        refine rr ?_
        exact fuo (.agg [.int .i64 v16.code,.int .i64 v16.index]) (.same _) h hsc
       ·refine rn ?_
        obtain⟨fx,h⟩:=ck fx h
        refine dw [8] 1 ?_
        obtain⟨v18,hv18,h⟩:=E6 h
        refine xO [o0,o1] (fun st2 h2=>(ih _ _ _ _ _ hv18 st2 _ _ hnd ((h2 _ (by simp)).trans (by simp only[go_sem,fx])) ((h2 _ (by simp)).trans (by simp only[go_sem,fx])))) (by simp) (by simp only[List.mem_cons,List.not_mem_nil,or_false,forall_eq_or_imp,forall_eq];exact⟨⟨by first|omega|(simp<;>omega),_,(by simp only[go_sem,fx]<;>rfl),Ob.noConfusion⟩,⟨by first|omega|(simp<;>omega),_,(by simp only[go_sem,fx]<;>rfl),Ob.noConfusion⟩⟩) (by simp) ?_
        try simp only[go_sem,fx]
        try refine⟨by(simp<;>omega),?_⟩
        refine cd h (fun hc h=>?_) fun hc h=>?_
        ·refine rr ?_
         exact fuo (.agg [.int .i64 v18.1.code,.int .i64 v18.1.index]) (.same _) h hsc
        ·refine rn ?_
         obtain⟨fx,h⟩:=ck fx h
         refine dw [8] 0 ?_
         obtain⟨v20,hv20,h⟩:=E6 h
         refine xO [o0,o1] (fun st2 h2=>(ih _ _ _ _ _ hv20 st2 _ _ hnd ((h2 _ (by simp)).trans (by simp only[go_sem,fx])) ((h2 _ (by simp)).trans (by simp only[go_sem,fx])))) (by simp) (by simp only[List.mem_cons,List.not_mem_nil,or_false,forall_eq_or_imp,forall_eq];exact⟨⟨by first|omega|(simp<;>omega),_,(by simp only[go_sem,fx]<;>rfl),Ob.noConfusion⟩,⟨by first|omega|(simp<;>omega),_,(by simp only[go_sem,fx]<;>rfl),Ob.noConfusion⟩⟩) (by simp) ?_
         try simp only[go_sem,fx]
         try refine⟨by(simp<;>omega),?_⟩
         refine rr ?_
         exact fuo (.agg [.int .i64 v20.1.code,.int .i64 v20.1.index]) (.same _) h hsc
      ·refine rn ?_
       obtain⟨v21,hv21,h⟩:=E6 h
       refine(M9 _ _ _ hv21 _ _ (by simp) (bD.trans rfl)).mono ?_
       rintro d1 st1 ⟨rfl,rfl⟩
       refine rr ?_
       exact fuo (.agg [.int .i64 v21.code,.int .i64 v21.index]) (.same _) h hsc
theorem rZ:∀(n:Nat) (a0:u0) (a1:u0) (r:Bool) (h:cG n a0 a1=some r),Pure Tryz.prog gl 116 [.agg [.str a0.base,.sl false 2 40 (rows u0.cells a0.args)],.agg [.str a1.base,.sl false 2 40 (rows u0.cells a1.args)]] (.bool r):=by
 intro n
 induction n with
 |zero=>intro a0 a1 r h;cases h
 |succ n ih=>
  intro a0 a1 r h st
  unfold cG at h
  have fx:=trivial
  refine fb 39 [.tmp 4] [0,1,2,3,4,5,12,13,14,15,16,17,18,19,22,23,24,37] Tryz.func116 fun hsc=>?_
  refine cd h (fun hc h=>?_) fun hc h=>?_
  ·exact rt
  ·obtain⟨fx,h⟩:=ck fx h
   refine rn ?_
   refine rng (body:=jZ (cG n) a1 a0) (kk:=kd) (n:=a0.args.length) (s0:=())
    (fun(gs0:Unit) (k0:Nat) (s0:Unit)=>[(2,.ptr st.length 0 0 0),(3,.ptr (st.length+1) 0 0 0),(22,.int .i64 (↑a0.args.length:Int)),(23,.int .i64 (↑k0:Int))])
    (fun(gs0:Unit) (k0:Nat) (s0:Unit)=>st++[some (.arr 0 2 0 [[.str a0.base,.sl false 2 40 (rows u0.cells a0.args)]]),some (.arr 0 2 0 [[.str a1.base,.sl false 2 40 (rows u0.cells a1.args)]])])
    (fun(gt0:Unit) (t0:Unit)=>[])
    (fun(gt0:Unit) (t0:Unit)=>st)
    () fx fx.2 h (bm hsc)
    (fun gs0 k0 s0 b0 fx h hx0=>?_) (fun gs0 s0=>?_) (fun gt0 t0 fr1 st1 h hb=>?_)
   ·unfold jZ at h
    refine ct ?_
    refine rn ?_
    obtain⟨fx,h⟩:=ck fx h
    refine dw [] 0 ?_
    obtain⟨v3,hv3,h⟩:=E6 h
    refine B3 (ih _ _ _ hv3) ?_
    try simp only[go_sem,fx]
    refine cd h (fun hc h=>?_) fun hc h=>?_
    ·refine ra ?_
     cases h
     refine D6 ?_;have h:=congrArg some (hx0 _ rfl)
     exact rt
    ·refine rn ?_
     cases h
     exact aX () (bm hsc)
   ·refine cf ?_
    refine Z6 ?_;simp only[go_sem,fx]
    exact⟨(),(bm0 hsc)⟩
   ·try simp only[go_sem,fx]
    unfold kd at h
    refine K1 hb ?_
    exact rt
end Go.Proofs.YtbgkcolebacbmaaGreatDoor
