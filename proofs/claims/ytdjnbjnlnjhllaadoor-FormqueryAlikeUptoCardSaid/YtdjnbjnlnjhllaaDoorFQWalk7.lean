import Derived.Test.YtdjnbjnlnjhllaaDoorFQWalk6
set_option linter.unusedVariables false
set_option linter.unusedSimpArgs false
set_option maxHeartbeats 2000000
set_option maxRecDepth 100000
namespace Go.Proofs.YtdjnbjnlnjhllaaDoor
open Go Go.Am
theorem T9(n:Nat)(a0:w6)(r:Bool)(h:A9 n a0=some r):Pure Tryd.prog gl 3 [.agg [.int .i64 a0.form.kind,.str a0.form.name,.sl false 1 16 (rows w8 a0.form.words),.sl false 4 72 (rows u5.cells a0.form.subs),.sl false 1 16 (rows w8 a0.words),.sl false 1 16 (rows w8 a0.y5),.sl false 1 16 (rows w8 a0.parts)]] (.bool r):=by
 intro st
 unfold A9 at h
 have fx:=trivial
 refine fb 11 [.tmp 2] [0,1,2,5,6,7,8,9] Tryd.func3 fun hsc=>?_
 refine rn ?_
 refine dw [] 0 ?_
 obtain⟨v1,hv1,h⟩:=Y8 h
 refine X9 (K1 n _ hv1) ?_
 try simp only[go_sem,fx]
 obtain⟨v2,hv2,h⟩:=Y8 h
 refine ec (fun hG=>(aH n _ _ (pH hv2 (by simpa using hG)))) ?_
 try simp only[go_sem,fx]
 obtain⟨v3,hv3,h⟩:=Y8 h
 refine ec (fun hG=>(cP n _ _ (pH hv3 (by simpa using hG)))) ?_
 try simp only[go_sem,fx]
 exact rt
theorem V3(n:Nat)(a0:(List u7))(a1:(List u7))(r:Bool)(h:C6 n a0 a1=some r):Pure Tryd.prog gl 11 [.sl false 6 104 (rows u7.cells a0),.sl false 6 104 (rows u7.cells a1)] (.bool r):=by
 intro st
 unfold C6 at h
 have fx:=trivial
 refine fb 55 [.tmp 4] [0,1,4,5,10,14,29,30,31,32,33,34,35,36,37,38,39,42,43,44,45,46,47,48,49,50,51,52,53,54] Tryd.func11 fun hsc=>?_
 refine cd h (fun hc h=>?_) fun hc h=>?_
 ·exact rt
 ·refine rn ?_
  refine B7 (body:=C7 n a0 a1) (kk:=N0) (n:=n) (s0:=0)
   (fun(gs0:Unit) (s0:Int)=>[(0,.sl false 6 104 (rows u7.cells a0)),(1,.sl false 6 104 (rows u7.cells a1)),(5,.int .i64 s0)])
   (fun(gs0:Unit) (s0:Int)=>st)
   (fun(gt0:Unit) (t0:Unit)=>[])
   (fun(gt0:Unit) (t0:Unit)=>st)
   () h (fM hsc)
   (fun gs0 s0 b0 h hx0=>?_) (fun gt0 t0 fr1 st1 h hb=>?_)
  ·unfold C7 at h
   refine cd h (fun hc h=>?_) fun hc h=>?_
   ·refine rn ?_
    obtain⟨fx,h⟩:=ck fx h
    obtain⟨fx,h⟩:=ck fx h
    refine dw [] 0 ?_
    obtain⟨v7,hv7,h⟩:=Y8 h
    refine ec (fun hG=>(S4 n _ _ _ (pH hv7 (by simpa using hG)))) ?_
    try simp only[go_sem,fx]
    refine cd h (fun hc h=>?_) fun hc h=>?_
    ·refine ra ?_
     cases h
     refine Y9 ?_;have h:=congrArg some (hx0 _ rfl)
     exact rt
    ·refine rn ?_
     cases h
     exact F7 () (fM hsc)
   ·refine rn ?_
    cases h
    exact J1 () (fM hsc)
  ·try simp only[go_sem,fx]
   unfold N0 at h
   refine R8 hb ?_
   exact rt
theorem bS(n:Nat)(a0:w6)(a1:u5)(r:Bool)(h:G6 n a0 a1=some r):Pure Tryd.prog gl 4 [.agg [.int .i64 a0.form.kind,.str a0.form.name,.sl false 1 16 (rows w8 a0.form.words),.sl false 4 72 (rows u5.cells a0.form.subs),.sl false 1 16 (rows w8 a0.words),.sl false 1 16 (rows w8 a0.y5),.sl false 1 16 (rows w8 a0.parts)],.agg [.int .i64 a1.kind,.str a1.name,.sl false 1 16 (rows w8 a1.words),.sl false 4 72 (rows u5.cells a1.subs)]] (.bool r):=by
 intro st
 unfold G6 at h
 have fx:=trivial
 refine fb 88 [.tmp 4] [0,1,2,3,4,5,6,7,8,9,10,12,31,32,33,34,39,40,41,42,43,44,51,55,73,74,75,76,77,78,79,80,81,82,83,84,85,86,87] Tryd.func4 fun hsc=>?_
 refine cl h (K1 n) fun v1 h=>?_
 refine cd h (fun hc h=>?_) fun hc h=>?_
 ·exact rt
 ·refine cl h (X3 n _ _) fun v2 h=>?_
  refine rn ?_
  obtain⟨v4,hv4,h⟩:=Y8 h
  refine((X3 n _ _ _ hv4).freeze (st:=st++[some (.arr 0 7 0 [[.int .i64 a0.form.kind,.str a0.form.name,.sl false 1 16 (rows w8 a0.form.words),.sl false 4 72 (rows u5.cells a0.form.subs),.sl false 1 16 (rows w8 a0.words),.sl false 1 16 (rows w8 a0.y5),.sl false 1 16 (rows w8 a0.parts)]]),some (.arr 0 4 0 [[.int .i64 a1.kind,.str a1.name,.sl false 1 16 (rows w8 a1.words),.sl false 4 72 (rows u5.cells a1.subs)]]),some (.arr 0 2 0 [[.int .i64 v2.2.code,.int .i64 v2.2.index]]),some (.arr 0 4 72 [[.int .i64 a1.kind,.str a1.name,.sl false 1 16 (rows w8 a1.words),.sl false 4 72 (rows u5.cells a1.subs)]])]) (args:=[.agg [.int .i64 a0.form.kind,.str a0.form.name,.sl false 1 16 (rows w8 a0.form.words),.sl false 4 72 (rows u5.cells a0.form.subs),.sl false 1 16 (rows w8 a0.words),.sl false 1 16 (rows w8 a0.y5),.sl false 1 16 (rows w8 a0.parts)],.agg [.int .i64 4,.str [],.y6,.ref true (st.length+3) 0 0 1]]) (T:=st++[some (.arr 0 7 0 [[.int .i64 a0.form.kind,.str a0.form.name,.sl false 1 16 (rows w8 a0.form.words),.sl false 4 72 (rows u5.cells a0.form.subs),.sl false 1 16 (rows w8 a0.words),.sl false 1 16 (rows w8 a0.y5),.sl false 1 16 (rows w8 a0.parts)]]),some (.arr 0 4 0 [[.int .i64 a1.kind,.str a1.name,.sl false 1 16 (rows w8 a1.words),.sl false 4 72 (rows u5.cells a1.subs)]]),some (.arr 0 2 0 [[.int .i64 v2.2.code,.int .i64 v2.2.index]]),none]) (xC hsc (.lv (.lv (.lv (.dead _ _ _ (.nil _))))) (by simp)) (by simp) (.cons _ _ _ _ .s (.cons _ _ _ _ (.agg _ _ (.cons _ _ _ _ .s (.cons _ _ _ _ .s (.cons _ _ _ _ (.y6 _ _ _ (by decide)) (.cons _ _ _ _ (.ref _ _ _ _ _ _ _ _ _ (nV.trans rfl) (kU.trans rfl) (by decide) (by simp[Imm,D.imm]) (by simp only[go_sem,rows,List.map_cons,List.map_nil])) .nil))))) .nil)) (by simp) ?_)
  refine cd h (fun hc h=>?_) fun hc h=>?_
  ·exact rt
  ·obtain⟨fx,h⟩:=ck fx h
   refine rn ?_
   refine bB (A0 n v4 v2) r (fun(gj0:Unit) (j0:Int)=>[(5,.sl false 2 32 (rows x9.cells v2.1)),(7,.sl false 2 32 (rows x9.cells v4.1)),(9,.int .i64 j0)]) (fun(gj0:Unit) (j0:Int)=>st) (fun gj0 j0 fr1 st1 h hb=>?_) (fun hj0=>?_)
   ·try simp only[go_sem,fx]
    unfold A0 at h
    refine R8 hb ?_
    refine cd h (fun hc h=>?_) fun hc h=>?_
    ·exact rt
    ·refine rn ?_
     refine B7 (body:=C0 n v2 j0 v4) (kk:=J9) (n:=n) (s0:=0)
      (fun(gs1:Unit) (s1:Int)=>[(5,.sl false 2 32 (rows x9.cells v2.1)),(7,.sl false 2 32 (rows x9.cells v4.1)),(9,.int .i64 j0),(10,.int .i64 s1)])
      (fun(gs1:Unit) (s1:Int)=>st)
      (fun(gt1:Unit) (t1:Unit)=>[])
      (fun(gt1:Unit) (t1:Unit)=>st)
      () h (fM hsc)
      (fun gs1 s1 b1 h hx1=>?_) (fun gt1 t1 fr1 st1 h hb=>?_)
     ·unfold C0 at h
      refine cd h (fun hc h=>?_) fun hc h=>?_
      ·refine rn ?_
       obtain⟨fx,h⟩:=ck fx h
       obtain⟨fx,h⟩:=ck fx h
       refine dw [] 0 ?_
       obtain⟨v15,hv15,h⟩:=Y8 h
       refine ec (fun hG=>(V3 n _ _ _ (pH hv15 (by simpa using hG)))) ?_
       try simp only[go_sem,fx]
       refine cd h (fun hc h=>?_) fun hc h=>?_
       ·refine ra ?_
        cases h
        refine Y9 ?_;have h:=congrArg some (hx1 _ rfl)
        exact rt
       ·refine rn ?_
        cases h
        exact F7 () (fM hsc)
      ·refine rn ?_
       cases h
       exact J1 () (fM hsc)
     ·try simp only[go_sem,fx]
      unfold J9 at h
      refine R8 hb ?_
      exact rt
   ·refine cd h (fun hc h=>?_) fun hc h=>?_
    ·refine r0 ?_
     refine hj0 () _ _ _ h ?_;exact(bm0 hsc)
    ·refine r0 ?_
     refine hj0 () _ _ _ h ?_;exact(bm0 hsc)
theorem jh(n:Nat)(a0:u5)(r:u5×w9)(h:X2 n a0=some r):Pure Tryd.prog gl 12 [.agg [.int .i64 a0.kind,.str a0.name,.sl false 1 16 (rows w8 a0.words),.sl false 4 72 (rows u5.cells a0.subs)]] (.tup [.agg [.int .i64 r.1.kind,.str r.1.name,.sl false 1 16 (rows w8 r.1.words),.sl false 4 72 (rows u5.cells r.1.subs)],.agg [.int .i64 r.2.code,.int .i64 r.2.index]]):=by
 intro st
 unfold X2 at h
 have fx:=trivial
 refine fb 15 [.cell 2 25,.cell 3 30] [0,1,2,3,4,9] Tryd.func12 fun hsc=>?_
 refine cl h (Y5 n _) fun v1 h=>?_
 refine cd h (fun hc h=>?_) fun hc h=>?_
 ·refine rs ?_
  refine dw [1,2] 0 ?_
  try refine⟨by first|omega|(simp<;>omega),?_⟩
  refine rr ?_
  exact fo (.tup [.agg [.int .i64 0,.str [],.sl false 1 16 (rows w8 []),.sl false 4 72 (rows u5.cells [])],.agg [.int .i64 v1.code,.int .i64 v1.index]]) (.tup _ _ (.cons _ _ _ _ (.agg _ _ (.cons _ _ _ _ .s (.cons _ _ _ _ .s (.cons _ _ _ _ (.y6 _ _ _ (by decide)) (.cons _ _ _ _ (.y6 _ _ _ (by decide)) .nil))))) (.cons _ _ _ _ .s .nil)) rfl) h hsc
 ·refine cl h (dO n _) fun v2 h=>?_
  exact rt
theorem bR(n:Nat)(a0:w6)(a1:u5)(r:Bool)(h:G5 n a0 a1=some r):Pure Tryd.prog gl 5 [.agg [.int .i64 a0.form.kind,.str a0.form.name,.sl false 1 16 (rows w8 a0.form.words),.sl false 4 72 (rows u5.cells a0.form.subs),.sl false 1 16 (rows w8 a0.words),.sl false 1 16 (rows w8 a0.y5),.sl false 1 16 (rows w8 a0.parts)],.agg [.int .i64 a1.kind,.str a1.name,.sl false 1 16 (rows w8 a1.words),.sl false 4 72 (rows u5.cells a1.subs)]] (.bool r):=by
 intro st
 unfold G5 at h
 have fx:=trivial
 refine fb 74 [.tmp 4] [0,1,2,3,4,5,6,7,8,9,10,12,20,37,38,39,40,41,42,46,61,62,63,64,65,66,67,68,69,70,71,72,73] Tryd.func5 fun hsc=>?_
 refine cl h (K1 n) fun v1 h=>?_
 refine cd h (fun hc h=>?_) fun hc h=>?_
 ·exact rt
 ·refine cl h (jh n _) fun v2 h=>?_
  refine cd h (fun hc h=>?_) fun hc h=>?_
  ·exact rt
  ·refine cl h (X3 n _ _) fun v3 h=>?_
   refine cl h (X3 n _ _) fun v4 h=>?_
   refine cd h (fun hc h=>?_) fun hc h=>?_
   ·exact rt
   ·refine rn ?_
    refine B7 (body:=B9 n v3 v4) (kk:=K0) (n:=n) (s0:=0)
     (fun(gs0:Unit) (s0:Int)=>[(7,.sl false 2 32 (rows x9.cells v3.1)),(8,.sl false 2 32 (rows x9.cells v4.1)),(10,.int .i64 s0)])
     (fun(gs0:Unit) (s0:Int)=>st)
     (fun(gt0:Unit) (t0:Unit)=>[])
     (fun(gt0:Unit) (t0:Unit)=>st)
     () h (bm0 hsc)
     (fun gs0 s0 b0 h hx0=>?_) (fun gt0 t0 fr1 st1 h hb=>?_)
    ·unfold B9 at h
     refine cd h (fun hc h=>?_) fun hc h=>?_
     ·refine rn ?_
      obtain⟨fx,h⟩:=ck fx h
      obtain⟨fx,h⟩:=ck fx h
      refine dw [] 0 ?_
      obtain⟨v11,hv11,h⟩:=Y8 h
      refine ec (fun hG=>(V3 n _ _ _ (pH hv11 (by simpa using hG)))) ?_
      try simp only[go_sem,fx]
      refine cd h (fun hc h=>?_) fun hc h=>?_
      ·refine ra ?_
       cases h
       refine Y9 ?_;have h:=congrArg some (hx0 _ rfl)
       exact rt
      ·refine rn ?_
       cases h
       exact F7 () (fM hsc)
     ·refine rn ?_
      cases h
      exact J1 () (fM hsc)
    ·try simp only[go_sem,fx]
     unfold K0 at h
     refine R8 hb ?_
     exact rt
end Go.Proofs.YtdjnbjnlnjhllaaDoor
