import Derived.Test.YtonfgoanbllceaaGreatDoorAWalk0
import Derived.Test.YtonfgoanbllceaaGreatDoorAHand2
import Derived.Test.YtonfgoanbllceaaGreatDoorAWalk4
set_option linter.unusedVariables false
set_option linter.unusedSimpArgs false
set_option maxHeartbeats 2000000
set_option maxRecDepth 100000
namespace Go.Proofs.YtonfgoanbllceaaGreatDoor
open Go Go.Am
theorem lO(a0:Int)(r:Bool)(h:cP a0=some r):Pure Tryz.prog gl 123 [.int .i64 a0] (.bool r):=by
 intro st
 unfold cP at h
 have fx:=trivial
 refine fb 5 [.tmp 2] [0,2] Tryz.func123 fun hsc=>?_
 exact rt
theorem rD(n:Nat)(a0:Bs)(a1:Bs)(r:Int)(h:gL n a0 a1=some r):Pure Tryz.prog gl 116 [.str a0,.str a1] (.int .i64 r):=by
 intro st
 unfold gL at h
 have fx:=trivial
 refine fb 55 [.tmp 4] [0,1,4,5,6,7,8,9,10,12,15,20,26,32,36,42,45,46,47,53] Tryz.func116 fun hsc=>?_
 refine cd h (fun hc h=>?_) fun hc h=>?_
 ·exact rt
 ·refine cd h (fun hc h=>?_) fun hc h=>?_
  ·obtain⟨fx,h⟩:=ck fx h
   refine rn ?_
   refine nk (dK n a0) r (fun(gj0:Unit) (j0:Int)=>[(0,.str a0),(5,.int .i32 j0)]) (fun(gj0:Unit) (j0:Int)=>st) (fun gj0 j0 fr1 st1 h hb=>?_) (fun hj0=>?_)
   ·try simp only[go_sem,fx]
    unfold dK at h
    refine K6 hb ?_
    refine cl h (lN n _ _) fun v2 h=>?_
    exact rt
   ·refine cd h (fun hc h=>?_) fun hc h=>?_
    ·refine r0 ?_
     refine hj0 () _ _ _ h ?_;exact(bW hsc)
    ·refine r0 ?_
     refine hj0 () _ _ _ h ?_;exact(bW hsc)
  ·refine cl h (lO _) fun v3 h=>?_
   refine rn ?_
   refine nk (dz n a0 a1) r (fun(gj1:Unit) (j1:Unit)=>[(0,.str a0),(1,.str a1)]) (fun(gj1:Unit) (j1:Unit)=>st) (fun gj1 j1 fr1 st1 h hb=>?_) (fun hj1=>?_)
   ·try simp only[go_sem,fx]
    unfold dz at h
    refine K6 hb ?_
    refine rn ?_
    refine H9 (body:=dA n a0 a1) (kk:=gX) (n:=n) (s0:=0)
     (fun(gs2:Unit) (s2:Nat)=>[(1,.str a1),(45,.it st.length)])
     (fun(gs2:Unit) (s2:Nat)=>st++[some (.sit a0 s2)])
     (fun(gt2:Unit) (t2:Unit)=>[])
     (fun(gt2:Unit) (t2:Unit)=>st)
     () h (bm hsc)
     (fun gs2 s2 b2 h hx2=>?_) (fun gt2 t2 fr1 st1 h hb=>?_)
    ·unfold dA at h
     refine cd h (fun hc h=>?_) fun hc h=>?_
     ·obtain⟨fx,h⟩:=ck fx h
      refine cl h (lN n _ _) fun v7 h=>?_
      refine cd h (fun hc h=>?_) fun hc h=>?_
      ·refine ra ?_
       cases h
       refine ep ?_;have h:=congrArg some (hx2 _ rfl)
       exact rt
      ·refine rn ?_
       cases h
       exact I6 () (bm hsc)
     ·refine rn ?_
      cases h
      exact T2 () (bm0 hsc)
    ·try simp only[go_sem,fx]
     unfold gX at h
     refine K6 hb ?_
     exact rt
   ·refine cd h (fun hc h=>?_) fun hc h=>?_
    ·cases h
    ·refine r0 ?_
     refine hj1 () _ _ _ h ?_;exact(bW hsc)
theorem td(n:Nat)(a0:Bs)(a1:Bs)(r:Int)(h:iN n a0 a1=some r):Pure Tryz.prog gl 116 [.str a0,.str a1] (.int .i64 r):=by
 unfold iN at h
 cases hc:decide (8<a0.length)with
 |true=>
  rw[hc]at h
  obtain⟨hp,h⟩:=pe h
  cases h
  exact Ac a0 a1 hp.1 (of_decide_eq_true hc) hp.2.1 hp.2.2.1 hp.2.2.2
 |false=>
  rw[hc]at h
  exact rD n a0 a1 r h
theorem pZ(n:Nat)(a0:Bs)(a1:Bs)(r:Bool)(h:X9 n a0 a1=some r):Pure Tryz.prog gl 105 [.str a0,.str a1] (.bool r):=by
 intro st
 unfold X9 at h
 have fx:=trivial
 refine fb 9 [.tmp 4] [0,1,4] Tryz.func105 fun hsc=>?_
 refine cl h (td n _ _) fun v1 h=>?_
 exact rt
theorem yF(n:Nat)(a0:Bs)(r:Bool)(h:kZ n a0=some r):Pure Tryz.prog gl 79 [.str a0] (.bool r):=by
 intro st
 unfold kZ at h
 have fx:=trivial
 refine fb 21 [.tmp 2] [0,2,3,9,10,13,14,17,18,19] Tryz.func79 fun hsc=>?_
 refine cl h (jr n _) fun v1 h=>?_
 refine rn ?_
 obtain⟨v2,hv2,h⟩:=E4 h
 refine P4 (fun hG=>(mS n _ _ (kh hv2 (by simpa using hG)))) ?_
 refine rn ?_
 obtain⟨v3,hv3,h⟩:=E4 h
 refine P4 (fun hG=>(pZ n _ _ _ (kh hv3 (by simpa using hG)))) ?_
 exact rt
theorem xW(n:Nat)(a0:w5)(a1:B6)(a2:x7)(r:Int)(h:jG n a0 a1 a2=some r):Pure Tryz.prog gl 52 [.agg [.sl false 2 40 (rows w8.cells a0.types),.sl false 3 32 (rows y3.cells a0.B1)],.agg [.sl false 1 8 (rows bP a1.up),.sl false 1 8 (rows bP a1.down)],.agg [.str a2.word,.sl false 2 32 (rows x5.cells a2.graph.nodes),.int .i64 a2.weight,.int .i64 a2.meaning.kind,.str a2.meaning.name,.int .i64 a2.meaning.index,.str a2.meaning.type.base,.sl false 2 40 (rows u0.cells a2.meaning.type.args),.sl false 6 96 (rows w6.cells a2.meaning.args)]] (.int .i64 r):=by
 intro st
 unfold jG at h
 have fx:=trivial
 refine fb 34 [.tmp 6] [0,1,2,3,4,5,6,7,11,16,17,18,19,27] Tryz.func52 fun hsc=>?_
 refine cl h (yF n _) fun v1 h=>?_
 refine cd h (fun hc h=>?_) fun hc h=>?_
 ·exact rt
 ·refine cd h (fun hc h=>?_) fun hc h=>?_
  ·exact rt
  ·refine cl h (mR n _ _ _) fun v2 h=>?_
   refine cd h (fun hc h=>?_) fun hc h=>?_
   ·exact rt
   ·refine cl h (pY n _) fun v3 h=>?_
    exact rt
theorem iZ(n:Nat)(a0:x9)(r:x6)(h:N7 n a0=some r):Pure Tryz.prog gl 13 [.agg [.sl false 2 40 (rows w8.cells a0.hierarchy.types),.sl false 3 32 (rows y3.cells a0.hierarchy.B1),.sl false 10 152 (rows w4.cells a0.rules),.sl false 9 144 (rows x7.cells a0.y9),.sl false 2 32 (rows x5.cells a0.start.nodes)]] (.agg [.int .i64 r.code,.int .i64 r.index]):=by
 intro st
 unfold N7 at h
 have fx:=trivial
 refine fb 112 [.cell 2 41] [0,1,2,3,4,5,6,7,8,10,11,12,13,14,15,22,27,34,35,36,37,38,45,46,47,48,55,65,77,83,84,85,86,95,107] Tryz.func13 fun hsc=>?_
 refine cl h (qF _) fun v1 h=>?_
 refine cd h (fun hc h=>?_) fun hc h=>?_
 ·exact rt
 ·refine cd h (fun hc h=>?_) fun hc h=>?_
  ·refine cl h (aS _ _) fun v2 h=>?_
   exact rt
  ·refine cd h (fun hc h=>?_) fun hc h=>?_
   ·refine cl h (aS _ _) fun v3 h=>?_
    exact rt
   ·refine cl h (mF _) fun v4 h=>?_
    refine aln 45 fun hl0=>?_
    refine rng (body:=eP n a0 v4) (kk:=eR n a0 v4) (n:=a0.rules.length) (s0:=[])
     (fun(gs0:Unit) (k0:Nat) (s0:(List (Bs×Int)))=>[(1,.ptr st.length 0 0 0),(2,.ptr (st.length+1) 0 0 0),(3,.ptr (st.length+2) 0 0 0),(5,.ptr (st.length+4) 0 0 0),(6,.mp (st.length+5)),(45,.sl false 10 152 (rows w4.cells a0.rules)),(46,.int .i64 (↑a0.rules.length:Int)),(47,.int .i64 (↑k0:Int))])
     (fun(gs0:Unit) (k0:Nat) (s0:(List (Bs×Int)))=>st++[some (.arr 0 5 0 [[.sl false 2 40 (rows w8.cells a0.hierarchy.types),.sl false 3 32 (rows y3.cells a0.hierarchy.B1),.sl false 10 152 (rows w4.cells a0.rules),.sl false 9 144 (rows x7.cells a0.y9),.sl false 2 32 (rows x5.cells a0.start.nodes)]]),some (.arr 0 2 0 [[.int .i64 0,.int .i64 0]]),some (.arr 0 2 0 [[.sl false 2 40 (rows w8.cells a0.hierarchy.types),.sl false 3 32 (rows y3.cells a0.hierarchy.B1)]]),none,some (.arr 0 2 0 [[.sl false 1 8 (rows bP v4.up),.sl false 1 8 (rows bP v4.down)]]),some (.mps false (mrw N3 s0))])
     (fun(gt0:Unit) (t0:(List (Bs×Int)))=>[(1,.ptr st.length 0 0 0),(2,.ptr (st.length+1) 0 0 0),(3,.ptr (st.length+2) 0 0 0),(5,.ptr (st.length+4) 0 0 0)])
     (fun(gt0:Unit) (t0:(List (Bs×Int)))=>st++[some (.arr 0 5 0 [[.sl false 2 40 (rows w8.cells a0.hierarchy.types),.sl false 3 32 (rows y3.cells a0.hierarchy.B1),.sl false 10 152 (rows w4.cells a0.rules),.sl false 9 144 (rows x7.cells a0.y9),.sl false 2 32 (rows x5.cells a0.start.nodes)]]),some (.arr 0 2 0 [[.int .i64 0,.int .i64 0]]),some (.arr 0 2 0 [[.sl false 2 40 (rows w8.cells a0.hierarchy.types),.sl false 3 32 (rows y3.cells a0.hierarchy.B1)]]),none,some (.arr 0 2 0 [[.sl false 1 8 (rows bP v4.up),.sl false 1 8 (rows bP v4.down)]])])
     () fx hl0 h (bm hsc)
     (fun gs0 k0 s0 b0 fx h hx0=>?_) (fun gs0 s0=>?_) (fun gt0 t0 fr1 st1 h hb=>?_)
    ·unfold eP at h
     refine ct ?_
     refine cl h (oB _) fun v12 h=>?_
     refine cd h (fun hc h=>?_) fun hc h=>?_
     ·refine cl h (aS _ _) fun v13 h=>?_
      refine ra ?_
      cases h
      refine D4 ?_;have h:=congrArg some (hx0 _ rfl)
      exact rt
     ·refine cd h (fun hc h=>?_) fun hc h=>?_
      ·refine cl h (aS _ _) fun v14 h=>?_
       refine ra ?_
       cases h
       refine D4 ?_;have h:=congrArg some (hx0 _ rfl)
       exact rt
      ·refine r0 ?_
       obtain⟨c15,SD,h⟩:=mO h
       have fy:=(show L5 ((get a0.rules k0).name) [.int .i64 (↑k0:Int)] (mrw N3 s0)=mrw N3 c15 from by rw[SD];exact DH (E:=N3) _ _ _)
       refine r1 ?_
       refine cl h (yE n _ _ _) fun v17 h=>?_
       refine cd h (fun hc h=>?_) fun hc h=>?_
       ·refine cl h (aS _ _) fun v18 h=>?_
        refine ra ?_
        cases h
        refine D4 ?_;have h:=congrArg some (hx0 _ rfl)
        exact rt
       ·refine rn ?_
        cases h
        exact aT () (bm hsc)
    ·refine cf ?_
     refine X5 ?_;simp only[go_sem,fx]
     exact⟨(),(bm hsc)⟩
    ·try simp only[go_sem,fx]
     unfold eR at h
     refine K6 hb ?_
     refine aln 83 fun hl1=>?_
     refine rng (body:=eS n a0 v4) (kk:=eU n a0 v4) (n:=a0.y9.length) (s0:=())
      (fun(gs1:Unit) (k1:Nat) (s1:Unit)=>[(1,.ptr st.length 0 0 0),(2,.ptr (st.length+1) 0 0 0),(3,.ptr (st.length+2) 0 0 0),(5,.ptr (st.length+4) 0 0 0),(83,.sl false 9 144 (rows x7.cells a0.y9)),(84,.int .i64 (↑a0.y9.length:Int)),(85,.int .i64 (↑k1:Int))])
      (fun(gs1:Unit) (k1:Nat) (s1:Unit)=>st++[some (.arr 0 5 0 [[.sl false 2 40 (rows w8.cells a0.hierarchy.types),.sl false 3 32 (rows y3.cells a0.hierarchy.B1),.sl false 10 152 (rows w4.cells a0.rules),.sl false 9 144 (rows x7.cells a0.y9),.sl false 2 32 (rows x5.cells a0.start.nodes)]]),some (.arr 0 2 0 [[.int .i64 0,.int .i64 0]]),some (.arr 0 2 0 [[.sl false 2 40 (rows w8.cells a0.hierarchy.types),.sl false 3 32 (rows y3.cells a0.hierarchy.B1)]]),none,some (.arr 0 2 0 [[.sl false 1 8 (rows bP v4.up),.sl false 1 8 (rows bP v4.down)]])])
      (fun(gt1:Unit) (t1:Unit)=>[(1,.ptr st.length 0 0 0),(2,.ptr (st.length+1) 0 0 0),(3,.ptr (st.length+2) 0 0 0),(5,.ptr (st.length+4) 0 0 0)])
      (fun(gt1:Unit) (t1:Unit)=>st++[some (.arr 0 5 0 [[.sl false 2 40 (rows w8.cells a0.hierarchy.types),.sl false 3 32 (rows y3.cells a0.hierarchy.B1),.sl false 10 152 (rows w4.cells a0.rules),.sl false 9 144 (rows x7.cells a0.y9),.sl false 2 32 (rows x5.cells a0.start.nodes)]]),some (.arr 0 2 0 [[.int .i64 0,.int .i64 0]]),some (.arr 0 2 0 [[.sl false 2 40 (rows w8.cells a0.hierarchy.types),.sl false 3 32 (rows y3.cells a0.hierarchy.B1)]]),none,some (.arr 0 2 0 [[.sl false 1 8 (rows bP v4.up),.sl false 1 8 (rows bP v4.down)]])])
      () fx hl1 h (bm hsc)
      (fun gs1 k1 s1 b1 fx h hx1=>?_) (fun gs1 s1=>?_) (fun gt1 t1 fr1 st1 h hb=>?_)
     ·unfold eS at h
      refine ct ?_
      refine cl h (xW n _ _ _) fun v19 h=>?_
      refine cd h (fun hc h=>?_) fun hc h=>?_
      ·refine cl h (aS _ _) fun v20 h=>?_
       refine ra ?_
       cases h
       refine D4 ?_;have h:=congrArg some (hx1 _ rfl)
       exact rt
      ·refine rn ?_
       cases h
       exact aT () (bm hsc)
     ·refine cf ?_
      refine X5 ?_;simp only[go_sem,fx]
      exact⟨(),(bm hsc)⟩
     ·try simp only[go_sem,fx]
      unfold eU at h
      refine K6 hb ?_
      refine cl h (mR n _ _ _) fun v21 h=>?_
      refine cd h (fun hc h=>?_) fun hc h=>?_
      ·refine cl h (aS _ _) fun v22 h=>?_
       exact rt
      ·exact rt
theorem jZ(a0:(List Int))(a1:(List Int))(r:Bool)(h:aF a0 a1=some r):Pure Tryz.prog gl 56 [.sl false 1 8 (rows N3 a0),.sl false 1 8 (rows N3 a1)] (.bool r):=by
 intro st
 unfold aF at h
 have fx:=trivial
 refine fb 26 [.tmp 4] [0,1,4,5,10,12,13,14,24] Tryz.func56 fun hsc=>?_
 refine cd h (fun hc h=>?_) fun hc h=>?_
 ·exact rt
 ·refine aln 0 fun hl0=>?_
  refine rng (body:=gq a1 a0) (kk:=gu) (n:=a0.length) (s0:=())
   (fun(gs0:Unit) (k0:Nat) (s0:Unit)=>[(0,.sl false 1 8 (rows N3 a0)),(1,.sl false 1 8 (rows N3 a1)),(12,.int .i64 (↑a0.length:Int)),(13,.int .i64 (↑k0:Int))])
   (fun(gs0:Unit) (k0:Nat) (s0:Unit)=>st)
   (fun(gt0:Unit) (t0:Unit)=>[])
   (fun(gt0:Unit) (t0:Unit)=>st)
   () fx hl0 h (bW hsc)
   (fun gs0 k0 s0 b0 fx h hx0=>?_) (fun gs0 s0=>?_) (fun gt0 t0 fr1 st1 h hb=>?_)
  ·unfold gq at h
   refine ct ?_
   refine rn ?_
   obtain⟨fx,h⟩:=ck fx h
   refine dw [] 0 ?_
   refine cd h (fun hc h=>?_) fun hc h=>?_
   ·refine ra ?_
    cases h
    refine D4 ?_;have h:=congrArg some (hx0 _ rfl)
    exact rt
   ·refine rn ?_
    cases h
    exact aT () (bW hsc)
  ·refine cf ?_
   refine X5 ?_;simp only[go_sem,fx]
   exact⟨(),(bW hsc)⟩
  ·try simp only[go_sem,fx]
   unfold gu at h
   refine K6 hb ?_
   exact rt
theorem qb(a0:w8)(a1:w8)(r:Bool)(h:bI a0 a1=some r):Pure Tryz.prog gl 55 [.agg [.str a0.name,.sl false 1 8 (rows N3 a0.parents)],.agg [.str a1.name,.sl false 1 8 (rows N3 a1.parents)]] (.bool r):=by
 intro st
 unfold bI at h
 have fx:=trivial
 refine fb 17 [.tmp 4] [0,1,2,3,4,11,12,13,14,15] Tryz.func55 fun hsc=>?_
 refine rn ?_
 obtain⟨v1,hv1,h⟩:=E4 h
 refine P4 (fun hG=>(jZ _ _ _ (kh hv1 (by simpa using hG)))) ?_
 exact rt
theorem bX(a0:(List w8))(a1:(List w8))(r:Bool)(h:G0 a0 a1=some r):Pure Tryz.prog gl 54 [.sl false 2 40 (rows w8.cells a0),.sl false 2 40 (rows w8.cells a1),.fn 55 [] []] (.bool r):=by
 intro st
 unfold G0 at h
 have fx:=trivial
 refine fb 32 [.tmp 6] [0,1,2,6,7,8,9,14,15,16,17,18,30] Tryz.func54 fun hsc=>?_
 refine cd h (fun hc h=>?_) fun hc h=>?_
 ·exact rt
 ·refine aln 15 fun hl0=>?_
  refine rng (body:=I7 a1 a0) (kk:=I8) (n:=a0.length) (s0:=())
   (fun(gs0:Unit) (k0:Nat) (s0:Unit)=>[(1,.sl false 2 40 (rows w8.cells a1)),(2,.fn 55 [] []),(15,.sl false 2 40 (rows w8.cells a0)),(16,.int .i64 (↑a0.length:Int)),(17,.int .i64 (↑k0:Int))])
   (fun(gs0:Unit) (k0:Nat) (s0:Unit)=>st)
   (fun(gt0:Unit) (t0:Unit)=>[])
   (fun(gt0:Unit) (t0:Unit)=>st)
   () fx hl0 h (bW hsc)
   (fun gs0 k0 s0 b0 fx h hx0=>?_) (fun gs0 s0=>?_) (fun gt0 t0 fr1 st1 h hb=>?_)
  ·unfold I7 at h
   refine ct ?_
   obtain⟨fx,h⟩:=ck fx h
   refine cl h (qb _ _) fun v2 h=>?_
   refine cd h (fun hc h=>?_) fun hc h=>?_
   ·refine ra ?_
    cases h
    refine D4 ?_;have h:=congrArg some (hx0 _ rfl)
    exact rt
   ·refine rn ?_
    cases h
    exact aT () (bm0 hsc)
  ·refine cf ?_
   refine X5 ?_;simp only[go_sem,fx]
   exact⟨(),(bW hsc)⟩
  ·try simp only[go_sem,fx]
   unfold I8 at h
   refine K6 hb ?_
   exact rt
theorem eZ(a0:(List y3))(a1:(List y3))(r:Bool)(h:L8 a0 a1=some r):Pure Tryz.prog gl 57 [.sl false 3 32 (rows y3.cells a0),.sl false 3 32 (rows y3.cells a1)] (.bool r):=by
 intro st
 unfold L8 at h
 have fx:=trivial
 refine fb 26 [.tmp 4] [0,1,4,5,10,12,13,14,24] Tryz.func57 fun hsc=>?_
 refine cd h (fun hc h=>?_) fun hc h=>?_
 ·exact rt
 ·refine aln 0 fun hl0=>?_
  refine rng (body:=aq a1 a0) (kk:=au) (n:=a0.length) (s0:=())
   (fun(gs0:Unit) (k0:Nat) (s0:Unit)=>[(0,.sl false 3 32 (rows y3.cells a0)),(1,.sl false 3 32 (rows y3.cells a1)),(12,.int .i64 (↑a0.length:Int)),(13,.int .i64 (↑k0:Int))])
   (fun(gs0:Unit) (k0:Nat) (s0:Unit)=>st)
   (fun(gt0:Unit) (t0:Unit)=>[])
   (fun(gt0:Unit) (t0:Unit)=>st)
   () fx hl0 h (bW hsc)
   (fun gs0 k0 s0 b0 fx h hx0=>?_) (fun gs0 s0=>?_) (fun gt0 t0 fr1 st1 h hb=>?_)
  ·unfold aq at h
   refine ct ?_
   refine rn ?_
   obtain⟨fx,h⟩:=ck fx h
   refine dw [] 0 ?_
   refine cd h (fun hc h=>?_) fun hc h=>?_
   ·refine ra ?_
    cases h
    refine D4 ?_;have h:=congrArg some (hx0 _ rfl)
    exact rt
   ·refine rn ?_
    cases h
    exact aT () (bW hsc)
  ·refine cf ?_
   refine X5 ?_;simp only[go_sem,fx]
   exact⟨(),(bW hsc)⟩
  ·try simp only[go_sem,fx]
   unfold au at h
   refine K6 hb ?_
   exact rt
theorem qG(a0:w5)(a1:w5)(r:Bool)(h:cI a0 a1=some r):Pure Tryz.prog gl 14 [.agg [.sl false 2 40 (rows w8.cells a0.types),.sl false 3 32 (rows y3.cells a0.B1)],.agg [.sl false 2 40 (rows w8.cells a1.types),.sl false 3 32 (rows y3.cells a1.B1)]] (.bool r):=by
 intro st
 unfold cI at h
 have fx:=trivial
 refine fb 17 [.tmp 4] [0,1,2,3,4,11,12,13,14,15] Tryz.func14 fun hsc=>?_
 refine cl h (bX _ _) fun v1 h=>?_
 refine rn ?_
 obtain⟨v2,hv2,h⟩:=E4 h
 refine P4 (fun hG=>(eZ _ _ _ (kh hv2 (by simpa using hG)))) ?_
 exact rt
theorem kE(a0:(List y3))(r:(List y3))(h:bU a0=some r):Pure Tryz.prog gl 58 [.sl false 3 32 (rows y3.cells a0)] (.sl false 3 32 (rows y3.cells r)):=by
 intro st
 refine sA ?_
 unfold bU at h
 have hr:=Option.some.inj h
 subst hr
 refine Od (N:=8) (rs:=[.tmp 2]) (keep:=[0,2,4]) Tryz.func58 rfl rfl rfl (by kernel_rfl) rfl fun hsc=>?_
 refine Pg (t:=0) rfl fun hl=>?_
 (repeat apply sq_);apply er_;simp only[go_sem]
 (repeat apply sq_);refine wK rfl ⟨103,by rw[UK]⟩ (by omega) (by omega) fun c hcn=>?_
 simp only[go_sem]
 (repeat apply sq_);refine tv (by rfl) (fun hc=>?_) fun hc=>?_
 ·(repeat apply sq_);apply er_;simp only[go_sem]
  refine He ?_
  try simp only[go_sem]
  have QK:=hcn hc
  rw[QK]
  refine JK ?_;simp only[go_sem]
  exact pq hsc (.B3 _ _ _ (by decide)) (by simp) ⟨rfl,rfl⟩
 ·refine uW ?_;try simp only[go_sem]
  (repeat apply sq_);apply er_;simp only[go_sem]
  simp only[zV]at hl
  refine⟨⟨by omega,by simp only[top]at *; omega⟩,?_⟩
  refine He ?_
  try simp only[go_sem]
  refine JK ?_;simp only[go_sem]
  exact nT hsc (.ref _ _ _ _ _ _ _ _ _ (iC.trans rfl) uX (by decide) (lQ a0) (by simp only[go_sem])) (by simp) ⟨rfl,rfl⟩
theorem qH(a0:(List Int))(r:(List Int))(h:jm a0=some r):Pure Tryz.prog gl 59 [.sl false 1 8 (rows N3 a0)] (.sl false 1 8 (rows N3 r)):=by
 intro st
 refine sA ?_
 unfold jm at h
 have hr:=Option.some.inj h
 subst hr
 refine Od (N:=8) (rs:=[.tmp 2]) (keep:=[0,2,4]) Tryz.func59 rfl rfl rfl (by kernel_rfl) rfl fun hsc=>?_
 refine Pg (t:=0) rfl fun hl=>?_
 (repeat apply sq_);apply er_;simp only[go_sem]
 (repeat apply sq_);refine wK rfl ⟨3,by rw[Sz]⟩ (by omega) (by omega) fun c hcn=>?_
 simp only[go_sem]
 (repeat apply sq_);refine tv (by rfl) (fun hc=>?_) fun hc=>?_
 ·(repeat apply sq_);apply er_;simp only[go_sem]
  refine He ?_
  try simp only[go_sem]
  have QK:=hcn hc
  rw[QK]
  refine JK ?_;simp only[go_sem]
  exact pq hsc (.B3 _ _ _ (by decide)) (by simp) ⟨rfl,rfl⟩
 ·refine uW ?_;try simp only[go_sem]
  (repeat apply sq_);apply er_;simp only[go_sem]
  simp only[zV]at hl
  refine⟨⟨by omega,by simp only[top]at *; omega⟩,?_⟩
  refine He ?_
  try simp only[go_sem]
  refine JK ?_;simp only[go_sem]
  exact nT hsc (.ref _ _ _ _ _ _ _ _ _ (iC.trans rfl) uX (by decide) (lQ a0) (by simp only[go_sem])) (by simp) ⟨rfl,rfl⟩
theorem jK(a0:w5)(r:w5)(h:Y0 a0=some r):Pure Tryz.prog gl 15 [.agg [.sl false 2 40 (rows w8.cells a0.types),.sl false 3 32 (rows y3.cells a0.B1)]] (.agg [.sl false 2 40 (rows w8.cells r.types),.sl false 3 32 (rows y3.cells r.B1)]):=by
 intro st
 unfold Y0 at h
 have fx:=trivial
 refine fb 30 [.cell 2 25] [0,1,2,3,5,11,12,13,14] Tryz.func15 fun hsc=>?_
 refine cl h (kE _) fun v1 h=>?_
 refine r0 ?_
 (repeat apply sq_)
 refine cY 2 40 ?_
 try simp only[List.append_assoc,List.cons_append,List.nil_append]
 refine K6 (F:=[(2,.ptr (st.length+1) 0 0 0),(3,.ptr (st.length+2) 0 0 0),(11,.sl false 2 40 (rows w8.cells a0.types)),(12,.int .i64 (↑a0.types.length:Int)),(13,.int .i64 0)]) (T:=st++[some (.arr 0 2 0 [[.sl false 2 40 (rows w8.cells a0.types),.sl false 3 32 (rows y3.cells a0.B1)]]),some (.arr 0 2 0 [[.B3,.B3]]),some (.arr 0 2 0 [[.ref false (st.length+3) 0 0 0,.sl false 3 32 (rows y3.cells v1)]]),some (.arr 0 2 40 (rows w8.cells []))]) (jL hsc (.lv (.lv (.live _ _ _ _ (.arr _ _ _ _ _ (.cons _ _ _ _ (.cons _ _ _ _ (.nref _ _ _ _ _ _ (iC.trans rfl)) (.cons _ _ _ _ .s .nil)) (.same _))) (.lv (.nil _))))) (by simp) ⟨.s,.s,.s,.s,.s,trivial⟩ (by simp)) ?_
 refine aln 11 fun hl0=>?_
 refine rng (body:=fE a0) (kk:=fF v1) (n:=a0.types.length) (s0:=[])
  (fun(gs0:Nat) (k0:Nat) (s0:(List w8))=>[(2,.ptr (st.length+1) 0 0 0),(3,.ptr (st.length+2) 0 0 0),(11,.sl false 2 40 (rows w8.cells a0.types)),(12,.int .i64 (↑a0.types.length:Int)),(13,.int .i64 (↑k0:Int))])
  (fun(gs0:Nat) (k0:Nat) (s0:(List w8))=>st++[none,some (.arr 0 2 0 [[.B3,.B3]]),some (.arr 0 2 0 [[.ref false (st.length+3) gs0 0 s0.length,.sl false 3 32 (rows y3.cells v1)]]),some (.arr gs0 2 40 (rows w8.cells s0))])
  (fun(gt0:Nat) (t0:(List w8))=>[(2,.ptr (st.length+1) 0 0 0),(3,.ptr (st.length+2) 0 0 0)])
  (fun(gt0:Nat) (t0:(List w8))=>st++[none,some (.arr 0 2 0 [[.B3,.B3]]),some (.arr 0 2 0 [[.ref false (st.length+3) gt0 0 t0.length,.sl false 3 32 (rows y3.cells v1)]]),some (.arr gt0 2 40 (rows w8.cells t0))])
  0 fx hl0 h (bm hsc)
  (fun gs0 k0 s0 b0 fx h hx0=>?_) (fun gs0 s0=>?_) (fun gt0 t0 fr1 st1 h hb=>?_)
 ·unfold fE at h
  refine ct ?_
  refine rn ?_
  refine dw [] 2 ?_
  obtain⟨v9,hv9,h⟩:=E4 h
  refine A9 (qH _ _ hv9) ?_
  obtain⟨c11,QL,h⟩:=mO h
  have fy:=(show rows w8.cells s0++[[.str ((get a0.types k0).name),.sl false 1 8 (rows N3 v9)]]=rows w8.cells c11 from by rw[QL];first|exact N9 (E:=w8.cells) s0 [(w8.mk ((get a0.types k0).name) v9)]|simp only[go_sem,rows,List.map_append,List.map_cons,List.map_nil])
  have fy:=fa fy (show s0.length+1=c11.length from by rw[QL];simp)
  obtain⟨fx,h⟩:=ck fx h
  try simp only[go_sem,fx,fy]
  refine rn ?_
  cases h
  exact aT (gs0+1) (bm hsc)
 ·refine cf ?_
  refine X5 ?_;simp only[go_sem,fx]
  exact⟨gs0,(bm hsc)⟩
 ·try simp only[go_sem,fx]
  unfold fF at h
  refine K6 hb ?_
  refine rr ?_
  exact fo (.agg [.sl false 2 40 (rows w8.cells t0),.sl false 3 32 (rows y3.cells v1)]) (.agg _ _ (.cons _ _ _ _ (.ref _ _ _ _ _ _ _ _ _ (iC.trans rfl) uX (by decide) (lQ _) (by simp only[go_sem])) (.cons _ _ _ _ .s .nil))) h hsc
theorem uw(a0:x5)(a1:x5)(r:Bool)(h:gE a0 a1=some r):Pure Tryz.prog gl 61 [.agg [.int .i64 a0.type,.sl false 2 16 (rows D3.cells a0.links)],.agg [.int .i64 a1.type,.sl false 2 16 (rows D3.cells a1.links)]] (.bool r):=by
 intro st
 unfold gE at h
 have fx:=trivial
 refine fb 17 [.tmp 4] [0,1,2,3,4,11,12,13,14,15] Tryz.func61 fun hsc=>?_
 refine rn ?_
 obtain⟨v1,hv1,h⟩:=E4 h
 refine P4 (fun hG=>(eY _ _ _ (kh hv1 (by simpa using hG)))) ?_
 exact rt
end Go.Proofs.YtonfgoanbllceaaGreatDoor
