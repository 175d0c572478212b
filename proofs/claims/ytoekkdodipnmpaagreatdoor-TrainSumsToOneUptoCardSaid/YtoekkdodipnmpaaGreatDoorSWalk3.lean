import Derived.Test.YtoekkdodipnmpaaGreatDoorSWalk2
set_option linter.unusedVariables false
set_option linter.unusedSimpArgs false
set_option maxHeartbeats 2000000
set_option maxRecDepth 100000
namespace Go.Proofs.YtoekkdodipnmpaaGreatDoor
open Go Go.Am
theorem ji(n:Nat)(a0:x7)(a1:A9)(a2:B0)(r:w5)(h:dA n a0 a1 a2=some r):Pure Tryz.prog gl 56 [.agg [.sl false 2 40 (rows x5.cells a0.types),.sl false 3 32 (rows A0.cells a0.C2)],.agg [.sl false 1 8 (rows Z2 a1.up),.sl false 1 8 (rows Z2 a1.down)],.agg [.sl false 2 32 (rows y4.cells a2.nodes)]] (.agg [.int .i64 r.code,.int .i64 r.index]):=by
 intro st
 unfold dA at h
 have fx:=trivial
 refine fb 74 [.cell 6 39] [0,1,2,3,4,5,6,7,8,9,11,12,13,19,22,23,24,25,30,31,32,33,50,51,52,53,54,55,56,57,58,59,60,61,62,70] Tryz.func56 fun hsc=>?_
 refine cl h (vo _ _) fun v1 h=>?_
 refine cd h (fun hc h=>?_) fun hc h=>?_
 ·exact rt
 ·refine aln 22 fun hl0=>?_
  refine rng (body:=eZ a2 a0 a1) (kk:=fq n a2) (n:=a2.nodes.length) (s0:=())
   (fun(gs0:Unit) (k0:Nat) (s0:Unit)=>[(3,.ptr st.length 0 0 0),(4,.ptr (st.length+1) 0 0 0),(5,.ptr (st.length+2) 0 0 0),(6,.ptr (st.length+3) 0 0 0),(22,.sl false 2 32 (rows y4.cells a2.nodes)),(23,.int .i64 (↑a2.nodes.length:Int)),(24,.int .i64 (↑k0:Int))])
   (fun(gs0:Unit) (k0:Nat) (s0:Unit)=>st++[some (.arr 0 2 0 [[.sl false 2 40 (rows x5.cells a0.types),.sl false 3 32 (rows A0.cells a0.C2)]]),some (.arr 0 2 0 [[.sl false 1 8 (rows Z2 a1.up),.sl false 1 8 (rows Z2 a1.down)]]),some (.arr 0 1 0 [[.sl false 2 32 (rows y4.cells a2.nodes)]]),some (.arr 0 2 0 [[.int .i64 0,.int .i64 0]])])
   (fun(gt0:Unit) (t0:Unit)=>[(5,.ptr (st.length+2) 0 0 0),(6,.ptr (st.length+3) 0 0 0)])
   (fun(gt0:Unit) (t0:Unit)=>st++[none,none,some (.arr 0 1 0 [[.sl false 2 32 (rows y4.cells a2.nodes)]]),some (.arr 0 2 0 [[.int .i64 0,.int .i64 0]])])
   () fx hl0 h (bm hsc)
   (fun gs0 k0 s0 b0 fx h hx0=>?_) (fun gs0 s0=>?_) (fun gt0 t0 fr1 st1 h hb=>?_)
  ·unfold eZ at h
   refine ct ?_
   refine aln 30 fun hl2=>?_
   refine rng (body:=fh a2 k0 a0 a1) (kk:=fj) (n:=((get a2.nodes k0).links).length) (s0:=())
    (fun(gs2:Unit) (k2:Nat) (s2:Unit)=>[(3,.ptr st.length 0 0 0),(4,.ptr (st.length+1) 0 0 0),(5,.ptr (st.length+2) 0 0 0),(6,.ptr (st.length+3) 0 0 0),(8,.int .i64 (↑k0:Int)),(9,.ptr (st.length+4) 0 0 0),(22,.sl false 2 32 (rows y4.cells a2.nodes)),(23,.int .i64 (↑a2.nodes.length:Int)),(24,.int .i64 (↑k0:Int)),(30,.sl false 2 16 (rows D9.cells ((get a2.nodes k0).links))),(31,.int .i64 (↑(((get a2.nodes k0).links).length):Int)),(32,.int .i64 (↑k2:Int))])
    (fun(gs2:Unit) (k2:Nat) (s2:Unit)=>st++[some (.arr 0 2 0 [[.sl false 2 40 (rows x5.cells a0.types),.sl false 3 32 (rows A0.cells a0.C2)]]),some (.arr 0 2 0 [[.sl false 1 8 (rows Z2 a1.up),.sl false 1 8 (rows Z2 a1.down)]]),some (.arr 0 1 0 [[.sl false 2 32 (rows y4.cells a2.nodes)]]),some (.arr 0 2 0 [[.int .i64 0,.int .i64 0]]),some (.arr 0 2 0 [[.int .i64 ((get a2.nodes k0).type),.sl false 2 16 (rows D9.cells ((get a2.nodes k0).links))]])])
    (fun(gt2:Unit) (t2:Unit)=>[(3,.ptr st.length 0 0 0),(4,.ptr (st.length+1) 0 0 0),(5,.ptr (st.length+2) 0 0 0),(6,.ptr (st.length+3) 0 0 0),(22,.sl false 2 32 (rows y4.cells a2.nodes)),(23,.int .i64 (↑a2.nodes.length:Int)),(24,.int .i64 (↑k0:Int))])
    (fun(gt2:Unit) (t2:Unit)=>st++[some (.arr 0 2 0 [[.sl false 2 40 (rows x5.cells a0.types),.sl false 3 32 (rows A0.cells a0.C2)]]),some (.arr 0 2 0 [[.sl false 1 8 (rows Z2 a1.up),.sl false 1 8 (rows Z2 a1.down)]]),some (.arr 0 1 0 [[.sl false 2 32 (rows y4.cells a2.nodes)]]),some (.arr 0 2 0 [[.int .i64 0,.int .i64 0]])])
    () fx hl2 h (bm hsc)
    (fun gs2 k2 s2 b2 fx h hx2=>?_) (fun gs2 s2=>?_) (fun gt2 t2 fr1 st1 h hb=>?_)
   ·unfold fh at h
    refine ct ?_
    obtain⟨fx,h⟩:=ck fx h
    refine rn ?_
    refine dw [] 0 ?_
    obtain⟨v28,hv28,h⟩:=E7 h
    refine y9 (fZ _ _ _ _ hv28) ?_
    obtain⟨fx,h⟩:=ck fx h
    try simp only[go_sem,fx]
    obtain⟨v32,hv32,h⟩:=E7 h
    refine dZ (fun hG=>(fZ _ _ _ _ (sM hv32 (by simpa using hG)))) ?_
    try simp only[go_sem,fx]
    refine cd h (fun hc h=>?_) fun hc h=>?_
    ·refine cl h (cI _ _) fun v33 h=>?_
     refine ra ?_
     cases h
     refine D4 ?_;obtain rfl:=hx2 _ rfl;try simp only[go_sem,fx]
     refine D4 ?_;have h:=congrArg some (hx0 _ rfl)
     exact rt
    ·refine rn ?_
     cases h
     exact dc () (bm hsc)
   ·refine cf ?_
    refine cP ?_;simp only[go_sem,fx]
    exact⟨(),(bm hsc)⟩
   ·try simp only[go_sem,fx]
    unfold fj at h
    refine R8 hb ?_
    refine rn ?_
    cases h
    exact dc () (bm hsc)
  ·refine cf ?_
   refine cP ?_;simp only[go_sem,fx]
   exact⟨(),(bm hsc)⟩
  ·try simp only[go_sem,fx]
   unfold fq at h
   refine R8 hb ?_
   refine cl h (pE n _) fun v34 h=>?_
   refine cd h (fun hc h=>?_) fun hc h=>?_
   ·refine cl h (cI _ _) fun v35 h=>?_
    exact rt
   ·exact rt
theorem mI(a0:Int)(r:Bool)(h:kd a0=some r):Pure Tryz.prog gl 84 [.int .i64 a0] (.bool r):=by
 intro st
 unfold kd at h
 have fx:=trivial
 refine fb 6 [.tmp 2] [0,2] Tryz.func84 fun hsc=>?_
 exact rt
theorem pX(a0:Int)(a1:Int)(r:Int)(h:eA a0 a1=some r):Pure Tryz.prog gl 63 [.int .i64 a0,.int .i64 a1] (.int .i64 r):=by
 intro st
 unfold eA at h
 have fx:=trivial
 refine fb 20 [.tmp 4] [0,1,4,5,6,11,12,13,16,19] Tryz.func63 fun hsc=>?_
 refine cl h (mI _) fun v1 h=>?_
 refine cl h (mI _) fun v2 h=>?_
 refine cd h (fun hc h=>?_) fun hc h=>?_
 ·refine cd h (fun hc h=>?_) fun hc h=>?_
  ·exact rt
  ·exact rt
 ·refine cd h (fun hc h=>?_) fun hc h=>?_
  ·exact rt
  ·refine cd h (fun hc h=>?_) fun hc h=>?_
   ·exact rt
   ·refine cd h (fun hc h=>?_) fun hc h=>?_
    ·exact rt
    ·exact rt
theorem lu(a0:D9)(a1:Int)(r:Int)(h:dP a0 a1=some r):Pure Tryz.prog gl 62 [.agg [.int .i64 a0.eL,.int .i64 a0.to_],.int .i64 a1] (.int .i64 r):=by
 intro st
 unfold dP at h
 have fx:=trivial
 refine fb 9 [.tmp 4] [0,1,2,4] Tryz.func62 fun hsc=>?_
 refine cl h (pX _ _) fun v1 h=>?_
 exact rt
theorem aX(n:Nat)(a0:(List D9))(a1:Int)(r:Int×Bool)(h:E5 n a0 a1=some r):Pure Tryz.prog gl 61 [.sl false 2 16 (rows D9.cells a0),.int .i64 a1,.fn 62 [] []] (.tup [.int .i64 r.1,.bool r.2]):=by
 intro st
 unfold E5 at h
 have fx:=trivial
 refine fb 49 [.tmp 6,.tmp 7] [0,1,2,6,7,8,9,10,11,17,31,40,41,42,43,44,45,46,47] Tryz.func61 fun hsc=>?_
 refine rn ?_
 refine I3 (body:=F1 a0 a1) (kk:=F2 a0 a1) (n:=n) (s0:=((↑a0.length:Int),0))
  (fun(gs0:Unit) (s0:Int×Int)=>[(0,.sl false 2 16 (rows D9.cells a0)),(1,.int .i64 a1),(2,.fn 62 [] []),(8,.int .i64 (↑a0.length:Int)),(9,.int .i64 s0.2),(10,.int .i64 s0.1)])
  (fun(gs0:Unit) (s0:Int×Int)=>st)
  (fun(gt0:Unit) (t0:Int)=>[(0,.sl false 2 16 (rows D9.cells a0)),(1,.int .i64 a1),(2,.fn 62 [] []),(8,.int .i64 (↑a0.length:Int)),(9,.int .i64 t0)])
  (fun(gt0:Unit) (t0:Int)=>st)
  () h (cT hsc)
  (fun gs0 s0 b0 h hx0=>?_) (fun gt0 t0 fr1 st1 h hb=>?_)
 ·unfold F1 at h
  refine cd h (fun hc h=>?_) fun hc h=>?_
  ·obtain⟨fx,h⟩:=ck fx h
   refine cl h (lu _ _) fun v6 h=>?_
   refine cd h (fun hc h=>?_) fun hc h=>?_
   ·refine rn ?_
    cases h
    exact J2 () (cT hsc)
   ·refine rn ?_
    cases h
    exact J2 () (cT hsc)
  ·refine rn ?_
   cases h
   exact U0 () (cT hsc)
 ·try simp only[go_sem,fx]
  unfold F2 at h
  refine R8 hb ?_
  obtain⟨fx,h⟩:=ck fx h
  refine rn ?_
  obtain⟨v10,hv10,h⟩:=E7 h
  refine iZ (fun hG=>(lu _ _ _ (sM hv10 (by simpa using hG)))) ?_
  exact rt
theorem mJ(n:Nat)(a0:B0)(a1:Int)(a2:Int)(r:Int)(h:dB n a0 a1 a2=some r):Pure Tryz.prog gl 34 [.agg [.sl false 2 32 (rows y4.cells a0.nodes)],.int .i64 a1,.int .i64 a2] (.int .i64 r):=by
 intro st
 unfold dB at h
 have fx:=trivial
 refine fb 32 [.tmp 6] [0,1,2,3,6,7,8,21] Tryz.func34 fun hsc=>?_
 obtain⟨fx,h⟩:=ck fx h
 refine cl h (aX n _ _) fun v3 h=>?_
 refine cd h (fun hc h=>?_) fun hc h=>?_
 ·exact rt
 ·obtain⟨fx,h⟩:=ck fx h
  exact rt
theorem pY(n:Nat)(a0:B0)(a1:Int)(r:Bool)(h:aL n a0 a1=some r):Pure Tryz.prog gl 75 [.agg [.sl false 2 32 (rows y4.cells a0.nodes)],.int .i64 a1] (.bool r):=by
 intro st
 unfold aL at h
 have fx:=trivial
 refine fb 18 [.tmp 4] [0,1,2,4,5,6,7,16] Tryz.func75 fun hsc=>?_
 refine rn ?_
 refine rng (body:=U2 n a0 a1) (kk:=dg) (n:=4) (s0:=())
  (fun(gs0:Unit) (k0:Nat) (s0:Unit)=>[(1,.int .i64 a1),(2,.ptr st.length 0 0 0),(6,.int .i64 (↑k0:Int))])
  (fun(gs0:Unit) (k0:Nat) (s0:Unit)=>st++[some (.arr 0 1 0 [[.sl false 2 32 (rows y4.cells a0.nodes)]])])
  (fun(gt0:Unit) (t0:Unit)=>[])
  (fun(gt0:Unit) (t0:Unit)=>st)
  () fx (by decide) h (bm hsc)
  (fun gs0 k0 s0 b0 fx h hx0=>?_) (fun gs0 s0=>?_) (fun gt0 t0 fr1 st1 h hb=>?_)
 ·unfold U2 at h
  have fx:=fa fx (show(↑k0:Int)<4 by omega)
  refine ct ?_
  refine cl h (mJ n _ _ _) fun v1 h=>?_
  refine cd h (fun hc h=>?_) fun hc h=>?_
  ·refine ra ?_
   cases h
   refine D4 ?_;have h:=congrArg some (hx0 _ rfl)
   exact rt
  ·refine rn ?_
   cases h
   exact dc () (bm hsc)
 ·refine cf ?_
  refine cP ?_;simp only[go_sem,fx]
  exact⟨(),(bm0 hsc)⟩
 ·try simp only[go_sem,fx]
  unfold dg at h
  refine R8 hb ?_
  exact rt
theorem J0(a0:Int)(S5:Int)(r:w5)(h:I8 a0 S5=some r):∀(st:St) (o0:Nat) (hnd: [o0].Nodup) (fY:Am.look st o0=some (.arr 0 1 0 [[.int .i64 S5]])),Am.Spec Tryz.prog gl 91 [.int .i64 a0,.ptr o0 0 0 0] st (fun d st'=>d= .agg [.int .i64 r.code,.int .i64 r.index]∧st'=puts st []):=by
 intro st o0 hnd fY
 unfold I8 at h
 have ho0:=S9 fY
 have fx:=idf ho0
 refine fb 7 [.cell 3 39] [0,1,3] Tryz.func91 fun hsc=>?_
 refine kS (s':=(U1 st [(o0,(.arr 0 1 0 [[.int .i64 S5]]))])) (K5 (by simp[fY])) ?_
 refine rr ?_
 exact fuo (.agg [.int .i64 a0,.int .i64 S5]) (.same _) h hsc (hr:=by rintro rfl;exact⟨rfl,K5 (by simp[fY])⟩)
theorem og:∀(n:Nat) (a0:u0) (a1:Int) (S5:Int) (r:Int×Int) (h:W3 n a0 a1 S5=some r),∀(st:St) (o0 o1:Nat) (hnd: [o0,o1].Nodup) (fY:Am.look st o0=some (.arr 0 1 0 [[.int .i64 S5]])) (ot:Am.look st o1=some (.arr 0 1 0 [[.fn 102 [] [.ptr o0 0 0 0,.ptr o1 0 0 0]]])),Am.Spec Tryz.prog gl 102 [.agg [.str a0.base,.sl false 2 40 (rows u0.cells a0.args)],.int .i64 a1,.ptr o0 0 0 0,.ptr o1 0 0 0] st (fun d st'=>d= .int .i64 r.1∧st'=puts st [(o0,(.arr 0 1 0 [[.int .i64 r.2]])),(o1,(.arr 0 1 0 [[.fn 102 [] [.ptr o0 0 0 0,.ptr o1 0 0 0]]]))]):=by
 intro n
 induction n with
 |zero=>intro a0 a1 S5 r h;cases h
 |succ n ih=>
  intro a0 a1 S5 r h st o0 o1 hnd fY ot
  unfold W3 at h
  have ho0:=S9 fY
  have ho1:=S9 ot
  have fx:=fa (fa (idf ho0) (idf ho1)) (nd2 hnd)
  refine fb 62 [.tmp 6] [0,1,2,3,4,6,7,9,10,16,17,18,23,24,25,29,30,31,32,35,36,37,38,39,40,41,42,43,45,47,48,49,50,59] Tryz.func102 fun hsc=>?_
  refine kS (s':=(U1 st [(o0,(.arr 0 1 0 [[.int .i64 S5]])),(o1,(.arr 0 1 0 [[.fn 102 [] [.ptr o0 0 0 0,.ptr o1 0 0 0]]]))])) (K5 (by simp[fY,ot])) ?_
  refine cd h (fun hc h=>?_) fun hc h=>?_
  ·refine rr ?_
   exact fuo (.int .i64 1) (.same _) h hsc
  ·refine cd h (fun hc h=>?_) fun hc h=>?_
   ·refine rr ?_
    exact fuo (.int .i64 5) (.same _) h hsc
   ·refine aln 47 fun hl0=>?_
    refine rng (body:=bH (W3 n) a0 a1) (kk:=bI) (n:=a0.args.length) (s0:=(wr .i64 (S5+1)))
     (fun(gs0:Unit) (k0:Nat) (s0:Int)=>[(1,.int .i64 a1),(3,.ptr o1 0 0 0),(47,.sl false 2 40 (rows u0.cells a0.args)),(48,.int .i64 (↑a0.args.length:Int)),(49,.int .i64 (↑k0:Int))])
     (fun(gs0:Unit) (k0:Nat) (s0:Int)=>(U1 st [(o0,(.arr 0 1 0 [[.int .i64 s0]])),(o1,(.arr 0 1 0 [[.fn 102 [] [.ptr o0 0 0 0,.ptr o1 0 0 0]]]))]))
     (fun(gt0:Unit) (t0:Int)=>[])
     (fun(gt0:Unit) (t0:Int)=>(U1 st [(o0,(.arr 0 1 0 [[.int .i64 t0]])),(o1,(.arr 0 1 0 [[.fn 102 [] [.ptr o0 0 0 0,.ptr o1 0 0 0]]]))]))
     () fx hl0 h (bu0 hsc)
     (fun gs0 k0 s0 b0 fx h hx0=>?_) (fun gs0 s0=>?_) (fun gt0 t0 fr1 st1 h hb=>?_)
    ·unfold bH at h
     refine ct ?_
     refine rn ?_
     obtain⟨v2,hv2,h⟩:=E7 h
     refine(ih _ _ _ _ hv2 _ _ _ hnd (by simp only[go_sem,fx]) (by simp only[go_sem,fx])).mono ?_
     rintro d1 st1 ⟨rfl,rfl⟩
     refine cd h (fun hc h=>?_) fun hc h=>?_
     ·refine ra ?_
      cases h
      refine D4 ?_;have h:=congrArg some (hx0 _ rfl)
      refine rr ?_
      exact fuo (.int .i64 v2.1) (.same _) h hsc
     ·refine rn ?_
      cases h
      exact dc () (bu0 hsc)
    ·refine cf ?_
     refine cP ?_;simp only[go_sem,fx]
     exact⟨(),(LB hsc)⟩
    ·try simp only[go_sem,fx]
     unfold bI at h
     refine R8 hb ?_
     refine rr ?_
     exact fus (.int .i64 0) (.same _) h hsc
theorem jH(n:Nat)(a0:u0)(r:w5)(h:bg n a0=some r):Pure Tryz.prog gl 92 [.agg [.str a0.base,.sl false 2 40 (rows u0.cells a0.args)]] (.agg [.int .i64 r.code,.int .i64 r.index]):=by
 intro st
 unfold bg at h
 have fx:=trivial
 refine fb 10 [.cell 2 39] [0,1,2,3,4] Tryz.func92 fun hsc=>?_
 refine rn ?_
 obtain⟨v1,hv1,h⟩:=E7 h
 refine(og n _ _ _ _ hv1 _ _ _ (by simp) (U5.trans rfl) (U5.trans rfl)).mono ?_
 rintro d1 st1 ⟨rfl,rfl⟩
 exact rt
theorem sB(a0:u0)(r:Bool)(h:lP a0=some r):Pure Tryz.prog gl 93 [.agg [.str a0.base,.sl false 2 40 (rows u0.cells a0.args)]] (.bool r):=by
 intro st
 unfold lP at h
 have fx:=trivial
 refine fb 12 [.tmp 2] [0,1,2,7,8,9,10] Tryz.func93 fun hsc=>?_
 exact rt
theorem pZ:∀(n:Nat) (a0:w6) (a1:Int) (a2:Int) (S5:Int) (r:w5×Int) (h:Z1 n a0 a1 a2 S5=some r),∀(st:St) (o0 o1:Nat) (hnd: [o0,o1].Nodup) (fY:Am.look st o0=some (.arr 0 1 0 [[.int .i64 S5]])) (ot:Am.look st o1=some (.arr 0 1 0 [[.fn 90 [] [.ptr o0 0 0 0,.ptr o1 0 0 0]]])),Am.Spec Tryz.prog gl 90 [.agg [.int .i64 a0.kind,.str a0.name,.int .i64 a0.index,.str a0.type.base,.sl false 2 40 (rows u0.cells a0.type.args),.sl false 6 96 (rows w6.cells a0.args)],.int .i64 a1,.int .i64 a2,.ptr o0 0 0 0,.ptr o1 0 0 0] st (fun d st'=>d= .agg [.int .i64 r.1.code,.int .i64 r.1.index]∧st'=puts st [(o0,(.arr 0 1 0 [[.int .i64 r.2]])),(o1,(.arr 0 1 0 [[.fn 90 [] [.ptr o0 0 0 0,.ptr o1 0 0 0]]]))]):=by
 intro n
 induction n with
 |zero=>intro a0 a1 a2 S5 r h;cases h
 |succ n ih=>
  intro a0 a1 a2 S5 r h st o0 o1 hnd fY ot
  unfold Z1 at h
  have ho0:=S9 fY
  have ho1:=S9 ot
  have fx:=fa (fa (idf ho0) (idf ho1)) (nd2 hnd)
  refine fb 166 [.cell 8 39] [0,1,2,3,4,5,8,9,10,11,19,20,21,25,28,34,35,36,37,38,44,51,54,60,61,62,63,66,67,68,69,70,77,78,79,80,81,84,90,91,92,95,96,97,98,99,106,119,125,126,127,130,131,132,133,136,137,138,139,140,154] Tryz.func90 fun hsc=>?_
  refine kS (s':=(U1 st [(o0,(.arr 0 1 0 [[.int .i64 S5]])),(o1,(.arr 0 1 0 [[.fn 90 [] [.ptr o0 0 0 0,.ptr o1 0 0 0]]]))])) (K5 (by simp[fY,ot])) ?_
  refine cd h (fun hc h=>?_) fun hc h=>?_
  ·refine rn ?_
   obtain⟨v1,hv1,h⟩:=E7 h
   refine(J0 _ _ _ hv1 _ _ (by simp) (R5.trans rfl)).mono ?_
   rintro d1 st1 ⟨rfl,rfl⟩
   refine rr ?_
   exact fuo (.agg [.int .i64 v1.code,.int .i64 v1.index]) (.same _) h hsc
  ·refine cd h (fun hc h=>?_) fun hc h=>?_
   ·refine cd h (fun hc h=>?_) fun hc h=>?_
    ·refine rn ?_
     obtain⟨v2,hv2,h⟩:=E7 h
     refine(J0 _ _ _ hv2 _ _ (by simp) (R5.trans rfl)).mono ?_
     rintro d1 st1 ⟨rfl,rfl⟩
     refine rr ?_
     exact fuo (.agg [.int .i64 v2.code,.int .i64 v2.index]) (.same _) h hsc
    ·refine cl h (kh _) fun v3 h=>?_
     refine cd h (fun hc h=>?_) fun hc h=>?_
     ·refine rn ?_
      obtain⟨v4,hv4,h⟩:=E7 h
      refine(J0 _ _ _ hv4 _ _ (by simp) (R5.trans rfl)).mono ?_
      rintro d1 st1 ⟨rfl,rfl⟩
      refine rr ?_
      exact fuo (.agg [.int .i64 v4.code,.int .i64 v4.index]) (.same _) h hsc
     ·refine cl h (jH n _) fun v5 h=>?_
      refine cd h (fun hc h=>?_) fun hc h=>?_
      ·refine rn ?_
       obtain⟨v6,hv6,h⟩:=E7 h
       refine(J0 _ _ _ hv6 _ _ (by simp) (R5.trans rfl)).mono ?_
       rintro d1 st1 ⟨rfl,rfl⟩
       refine rr ?_
       exact fuo (.agg [.int .i64 v6.code,.int .i64 v6.index]) (.same _) h hsc
      ·refine rr ?_
       exact fuo (.agg [.int .i64 0,.int .i64 0]) (.same _) h hsc
   ·refine cd h (fun hc h=>?_) fun hc h=>?_
    ·refine rn ?_
     obtain⟨v7,hv7,h⟩:=E7 h
     refine iZ (fun hG=>(sB _ _ (sM hv7 (by simpa using hG)))) ?_
     refine cd h (fun hc h=>?_) fun hc h=>?_
     ·refine rn ?_
      obtain⟨v8,hv8,h⟩:=E7 h
      refine(J0 _ _ _ hv8 _ _ (by simp) (R5.trans rfl)).mono ?_
      rintro d1 st1 ⟨rfl,rfl⟩
      refine rr ?_
      exact fuo (.agg [.int .i64 v8.code,.int .i64 v8.index]) (.same _) h hsc
     ·refine cd h (fun hc h=>?_) fun hc h=>?_
      ·refine rn ?_
       obtain⟨v9,hv9,h⟩:=E7 h
       refine(J0 _ _ _ hv9 _ _ (by simp) (R5.trans rfl)).mono ?_
       rintro d1 st1 ⟨rfl,rfl⟩
       refine rr ?_
       exact fuo (.agg [.int .i64 v9.code,.int .i64 v9.index]) (.same _) h hsc
      ·refine rr ?_
       exact fuo (.agg [.int .i64 0,.int .i64 0]) (.same _) h hsc
    ·refine cd h (fun hc h=>?_) fun hc h=>?_
     ·refine cd h (fun hc h=>?_) fun hc h=>?_
      ·refine rn ?_
       obtain⟨v10,hv10,h⟩:=E7 h
       refine(J0 _ _ _ hv10 _ _ (by simp) (R5.trans rfl)).mono ?_
       rintro d1 st1 ⟨rfl,rfl⟩
       refine rr ?_
       exact fuo (.agg [.int .i64 v10.code,.int .i64 v10.index]) (.same _) h hsc
      ·refine cl h (jH n _) fun v11 h=>?_
       refine cd h (fun hc h=>?_) fun hc h=>?_
       ·refine rn ?_
        obtain⟨v12,hv12,h⟩:=E7 h
        refine(J0 _ _ _ hv12 _ _ (by simp) (R5.trans rfl)).mono ?_
        rintro d1 st1 ⟨rfl,rfl⟩
        refine rr ?_
        exact fuo (.agg [.int .i64 v12.code,.int .i64 v12.index]) (.same _) h hsc
       ·refine rn ?_
        obtain⟨fx,h⟩:=ck fx h
        refine dw [9] 0 ?_
        obtain⟨v14,hv14,h⟩:=E7 h
        refine pN [o0,o1] (fun st2 h2=>(ih _ _ _ _ _ hv14 st2 _ _ hnd ((h2 _ (by simp)).trans (by simp only[go_sem,fx])) ((h2 _ (by simp)).trans (by simp only[go_sem,fx])))) (by simp) (by simp only[List.mem_cons,List.not_mem_nil,or_false,forall_eq_or_imp,forall_eq];exact⟨⟨by first|omega|(simp<;>omega),_,(by simp only[go_sem,fx]<;>rfl),Ob.noConfusion⟩,⟨by first|omega|(simp<;>omega),_,(by simp only[go_sem,fx]<;>rfl),Ob.noConfusion⟩⟩) (by simp) ?_
        try simp only[go_sem,fx]
        try refine⟨by(simp<;>omega),?_⟩
        refine rr ?_
        exact fuo (.agg [.int .i64 v14.1.code,.int .i64 v14.1.index]) (.same _) h hsc
     ·refine cd h (fun hc h=>?_) fun hc h=>?_
      ·refine rn ?_
       obtain⟨v15,hv15,h⟩:=E7 h
       refine iZ (fun hG=>(sB _ _ (sM hv15 (by simpa using hG)))) ?_
       refine cd h (fun hc h=>?_) fun hc h=>?_
       ·refine rn ?_
        obtain⟨v16,hv16,h⟩:=E7 h
        refine(J0 _ _ _ hv16 _ _ (by simp) (R5.trans rfl)).mono ?_
        rintro d1 st1 ⟨rfl,rfl⟩
        refine rr ?_
        exact fuo (.agg [.int .i64 v16.code,.int .i64 v16.index]) (.same _) h hsc
       ·refine rn ?_
        obtain⟨fx,h⟩:=ck fx h
        refine dw [8] 1 ?_
        obtain⟨v18,hv18,h⟩:=E7 h
        refine pN [o0,o1] (fun st2 h2=>(ih _ _ _ _ _ hv18 st2 _ _ hnd ((h2 _ (by simp)).trans (by simp only[go_sem,fx])) ((h2 _ (by simp)).trans (by simp only[go_sem,fx])))) (by simp) (by simp only[List.mem_cons,List.not_mem_nil,or_false,forall_eq_or_imp,forall_eq];exact⟨⟨by first|omega|(simp<;>omega),_,(by simp only[go_sem,fx]<;>rfl),Ob.noConfusion⟩,⟨by first|omega|(simp<;>omega),_,(by simp only[go_sem,fx]<;>rfl),Ob.noConfusion⟩⟩) (by simp) ?_
        try simp only[go_sem,fx]
        try refine⟨by(simp<;>omega),?_⟩
        refine cd h (fun hc h=>?_) fun hc h=>?_
        ·refine rr ?_
         exact fuo (.agg [.int .i64 v18.1.code,.int .i64 v18.1.index]) (.same _) h hsc
        ·refine rn ?_
         obtain⟨fx,h⟩:=ck fx h
         refine dw [8] 0 ?_
         obtain⟨v20,hv20,h⟩:=E7 h
         refine pN [o0,o1] (fun st2 h2=>(ih _ _ _ _ _ hv20 st2 _ _ hnd ((h2 _ (by simp)).trans (by simp only[go_sem,fx])) ((h2 _ (by simp)).trans (by simp only[go_sem,fx])))) (by simp) (by simp only[List.mem_cons,List.not_mem_nil,or_false,forall_eq_or_imp,forall_eq];exact⟨⟨by first|omega|(simp<;>omega),_,(by simp only[go_sem,fx]<;>rfl),Ob.noConfusion⟩,⟨by first|omega|(simp<;>omega),_,(by simp only[go_sem,fx]<;>rfl),Ob.noConfusion⟩⟩) (by simp) ?_
         try simp only[go_sem,fx]
         try refine⟨by(simp<;>omega),?_⟩
         refine rr ?_
         exact fuo (.agg [.int .i64 v20.1.code,.int .i64 v20.1.index]) (.same _) h hsc
      ·refine rn ?_
       obtain⟨v21,hv21,h⟩:=E7 h
       refine(J0 _ _ _ hv21 _ _ (by simp) (R5.trans rfl)).mono ?_
       rintro d1 st1 ⟨rfl,rfl⟩
       refine rr ?_
       exact fuo (.agg [.int .i64 v21.code,.int .i64 v21.index]) (.same _) h hsc
theorem oh:∀(n:Nat) (a0:u0) (a1:u0) (r:Bool) (h:aD n a0 a1=some r),Pure Tryz.prog gl 103 [.agg [.str a0.base,.sl false 2 40 (rows u0.cells a0.args)],.agg [.str a1.base,.sl false 2 40 (rows u0.cells a1.args)]] (.bool r):=by
 intro n
 induction n with
 |zero=>intro a0 a1 r h;cases h
 |succ n ih=>
  intro a0 a1 r h st
  unfold aD at h
  have fx:=trivial
  refine fb 39 [.tmp 4] [0,1,2,3,4,5,12,13,14,15,16,17,18,19,22,23,24,37] Tryz.func103 fun hsc=>?_
  refine cd h (fun hc h=>?_) fun hc h=>?_
  ·exact rt
  ·obtain⟨fx,h⟩:=ck fx h
   refine rn ?_
   refine rng (body:=gA (aD n) a1 a0) (kk:=gB) (n:=a0.args.length) (s0:=())
    (fun(gs0:Unit) (k0:Nat) (s0:Unit)=>[(2,.ptr st.length 0 0 0),(3,.ptr (st.length+1) 0 0 0),(22,.int .i64 (↑a0.args.length:Int)),(23,.int .i64 (↑k0:Int))])
    (fun(gs0:Unit) (k0:Nat) (s0:Unit)=>st++[some (.arr 0 2 0 [[.str a0.base,.sl false 2 40 (rows u0.cells a0.args)]]),some (.arr 0 2 0 [[.str a1.base,.sl false 2 40 (rows u0.cells a1.args)]])])
    (fun(gt0:Unit) (t0:Unit)=>[])
    (fun(gt0:Unit) (t0:Unit)=>st)
    () fx fx.2 h (bm hsc)
    (fun gs0 k0 s0 b0 fx h hx0=>?_) (fun gs0 s0=>?_) (fun gt0 t0 fr1 st1 h hb=>?_)
   ·unfold gA at h
    refine ct ?_
    refine rn ?_
    obtain⟨fx,h⟩:=ck fx h
    refine dw [] 0 ?_
    obtain⟨v3,hv3,h⟩:=E7 h
    refine y9 (ih _ _ _ hv3) ?_
    try simp only[go_sem,fx]
    refine cd h (fun hc h=>?_) fun hc h=>?_
    ·refine ra ?_
     cases h
     refine D4 ?_;have h:=congrArg some (hx0 _ rfl)
     exact rt
    ·refine rn ?_
     cases h
     exact dc () (bm hsc)
   ·refine cf ?_
    refine cP ?_;simp only[go_sem,fx]
    exact⟨(),(bm0 hsc)⟩
   ·try simp only[go_sem,fx]
    unfold gB at h
    refine R8 hb ?_
    exact rt
end Go.Proofs.YtoekkdodipnmpaaGreatDoor
