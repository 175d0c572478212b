import Derived.Test.YtdjnbjnlnjhllaaGreatDoorFIWalk10
set_option linter.unusedVariables false
set_option linter.unusedSimpArgs false
set_option maxHeartbeats 2000000
set_option maxRecDepth 100000
namespace Go.Proofs.YtdjnbjnlnjhllaaGreatDoor
open Go Go.Am
theorem x6f(n:Nat)(a0:w3W)(a1:(List w3V))(r:w3T×w4b)(h:w9N n a0 a1=some r):Pure Tryz.prog gl 14 [.agg [.int .i64 a0.form.kind,.str a0.form.name,.sl false 1 16 (rows w3X a0.form.words),.sl false 4 72 (rows w3T.cells a0.form.subs),.sl false 1 16 (rows w3X a0.words),.sl false 1 16 (rows w3X a0.w4a),.sl false 1 16 (rows w3X a0.parts)],.sl false 6 104 (rows w3V.cells a1)] (.tup [.agg [.int .i64 r.1.kind,.str r.1.name,.sl false 1 16 (rows w3X r.1.words),.sl false 4 72 (rows w3T.cells r.1.subs)],.agg [.int .i64 r.2.code,.int .i64 r.2.index]]):=by
 intro st
 unfold w9N at h
 have fx:=trivial
 refine fb 153 [.cell 4 25,.cell 5 31] [0,1,2,3,4,5,6,7,8,9,10,11,12,13,14,15,16,17,18,23,37,47,48,49,50,58,59,60,61,62,63,64,71,72,73,74,77,78,79,80,81,84,85,86,87,88,90,101,104,105,106,111,112,113,114,115,116,117,118,123,130,147] Tryz.func14 fun hsc=>?_
 refine cl h (x1i n _) fun v1 h=>?_
 refine cd h (fun hc h=>?_) fun hc h=>?_
 ·refine rs ?_
  refine dw [1,2] 0 ?_
  try refine⟨by first|omega|(simp<;>omega),?_⟩
  refine rr ?_
  exact fo (.tup [.agg [.int .i64 0,.str [],.sl false 1 16 (rows w3X []),.sl false 4 72 (rows w3T.cells [])],.agg [.int .i64 v1.code,.int .i64 v1.index]]) (.tup _ _ (.cons _ _ _ _ (.agg _ _ (.cons _ _ _ _ .s (.cons _ _ _ _ .s (.cons _ _ _ _ (.w4g _ _ _ (by decide)) (.cons _ _ _ _ (.w4g _ _ _ (by decide)) .nil))))) (.cons _ _ _ _ .s .nil)) rfl) h hsc
 ·refine rn ?_
  refine dw [] 1 ?_
  obtain⟨v2,hv2,h⟩:=w7w h
  refine w7Z (x0N _ _ hv2) ?_
  try simp only[go_sem,fx]
  obtain⟨v3,hv3,h⟩:=w7w h
  refine w7Z (w8u n _ _ hv3) ?_
  try simp only[go_sem,fx]
  obtain⟨v5,hv5,h⟩:=w7w h
  refine w7Z (x7O _ _ hv5) ?_
  try simp only[go_sem,fx]
  refine cd h (fun hc h=>?_) fun hc h=>?_
  ·refine cl h (w4A _ _) fun v6 h=>?_
   refine rr ?_
   exact fo (.tup [.agg [.int .i64 0,.str [],.sl false 1 16 (rows w3X []),.sl false 4 72 (rows w3T.cells [])],.agg [.int .i64 v6.code,.int .i64 v6.index]]) (.tup _ _ (.cons _ _ _ _ (.agg _ _ (.cons _ _ _ _ .s (.cons _ _ _ _ .s (.cons _ _ _ _ (.w4g _ _ _ (by decide)) (.cons _ _ _ _ (.w4g _ _ _ (by decide)) .nil))))) (.cons _ _ _ _ .s .nil)) rfl) h hsc
  ·refine aln 47 fun hl0=>?_
   refine rng (body:=w9G n v5 a1 a0) (kk:=w9H n a0 a1) (n:=a1.length) (s0:=())
    (fun(gs0:Unit) (k0:Nat) (s0:Unit)=>[(2,.ptr st.length 0 0 0),(3,.ptr (st.length+1) 0 0 0),(4,.ptr (st.length+2) 0 0 0),(5,.ptr (st.length+3) 0 0 0),(7,.sl false 1 16 (rows w3X v5)),(8,.ptr (st.length+6) 0 0 0),(47,.sl false 6 104 (rows w3V.cells a1)),(48,.int .i64 (↑a1.length:Int)),(49,.int .i64 (↑k0:Int))])
    (fun(gs0:Unit) (k0:Nat) (s0:Unit)=>st++[some (.arr 0 7 0 [[.int .i64 a0.form.kind,.str a0.form.name,.sl false 1 16 (rows w3X a0.form.words),.sl false 4 72 (rows w3T.cells a0.form.subs),.sl false 1 16 (rows w3X a0.words),.sl false 1 16 (rows w3X a0.w4a),.sl false 1 16 (rows w3X a0.parts)]]),some (.arr 0 1 0 [[.sl false 6 104 (rows w3V.cells a1)]]),some (.arr 0 4 0 [[.int .i64 0,.str [],.w4g,.w4g]]),some (.arr 0 2 0 [[.int .i64 0,.int .i64 0]]),none,none,some (.arr 0 1 0 [[.int .i64 (wr .i64 ((↑a0.words.length:Int)+(↑a0.w4a.length:Int)))]])])
    (fun(gt0:Unit) (t0:Unit)=>[(2,.ptr st.length 0 0 0),(3,.ptr (st.length+1) 0 0 0),(4,.ptr (st.length+2) 0 0 0),(5,.ptr (st.length+3) 0 0 0),(8,.ptr (st.length+6) 0 0 0)])
    (fun(gt0:Unit) (t0:Unit)=>st++[some (.arr 0 7 0 [[.int .i64 a0.form.kind,.str a0.form.name,.sl false 1 16 (rows w3X a0.form.words),.sl false 4 72 (rows w3T.cells a0.form.subs),.sl false 1 16 (rows w3X a0.words),.sl false 1 16 (rows w3X a0.w4a),.sl false 1 16 (rows w3X a0.parts)]]),some (.arr 0 1 0 [[.sl false 6 104 (rows w3V.cells a1)]]),some (.arr 0 4 0 [[.int .i64 0,.str [],.w4g,.w4g]]),some (.arr 0 2 0 [[.int .i64 0,.int .i64 0]]),none,none,some (.arr 0 1 0 [[.int .i64 (wr .i64 ((↑a0.words.length:Int)+(↑a0.w4a.length:Int)))]])])
    () fx hl0 h (bm hsc)
    (fun gs0 k0 s0 b0 fx h hx0=>?_) (fun gs0 s0=>?_) (fun gt0 t0 fr1 st1 h hb=>?_)
   ·unfold w9G at h
    refine ct ?_
    refine rn ?_
    obtain⟨fx,h⟩:=ck fx h
    refine dw [] 0 ?_
    refine cd h (fun hc h=>?_) fun hc h=>?_
    ·refine cl h (w4A _ _) fun v14 h=>?_
     refine ra ?_
     cases h
     refine w8C ?_;have h:=congrArg some (hx0 _ rfl)
     refine rr ?_
     exact fo (.tup [.agg [.int .i64 0,.str [],.sl false 1 16 (rows w3X []),.sl false 4 72 (rows w3T.cells [])],.agg [.int .i64 v14.code,.int .i64 v14.index]]) (.tup _ _ (.cons _ _ _ _ (.agg _ _ (.cons _ _ _ _ .s (.cons _ _ _ _ .s (.cons _ _ _ _ (.w4g _ _ _ (by decide)) (.cons _ _ _ _ (.w4g _ _ _ (by decide)) .nil))))) (.cons _ _ _ _ .s .nil)) rfl) h hsc
    ·refine rn ?_
     refine w9Q (w5s n k0 a0 a1) b0 (fun(gj2:Unit) (j2:Bool)=>[(2,.ptr st.length 0 0 0),(3,.ptr (st.length+1) 0 0 0),(4,.ptr (st.length+2) 0 0 0),(5,.ptr (st.length+3) 0 0 0),(7,.sl false 1 16 (rows w3X v5)),(8,.ptr (st.length+6) 0 0 0),(9,.int .i64 (↑k0:Int)),(10,.ptr (st.length+7) 0 0 0),(11,.bool (bif (decide ((wr .i64 ((↑a0.words.length:Int)+(↑a0.w4a.length:Int)))≤(↑k0:Int)))then(decide ((↑k0:Int)<(wr .i64 ((wr .i64 ((↑a0.words.length:Int)+(↑a0.w4a.length:Int)))+(↑a0.parts.length:Int)))))else false)),(47,.sl false 6 104 (rows w3V.cells a1)),(48,.int .i64 (↑a1.length:Int)),(49,.int .i64 (↑k0:Int)),(101,.bool j2)]) (fun(gj2:Unit) (j2:Bool)=>st++[some (.arr 0 7 0 [[.int .i64 a0.form.kind,.str a0.form.name,.sl false 1 16 (rows w3X a0.form.words),.sl false 4 72 (rows w3T.cells a0.form.subs),.sl false 1 16 (rows w3X a0.words),.sl false 1 16 (rows w3X a0.w4a),.sl false 1 16 (rows w3X a0.parts)]]),some (.arr 0 1 0 [[.sl false 6 104 (rows w3V.cells a1)]]),some (.arr 0 4 0 [[.int .i64 0,.str [],.w4g,.w4g]]),some (.arr 0 2 0 [[.int .i64 0,.int .i64 0]]),none,none,some (.arr 0 1 0 [[.int .i64 (wr .i64 ((↑a0.words.length:Int)+(↑a0.w4a.length:Int)))]]),some (.arr 0 6 0 [[.str ((get a1 k0).name),.str ((get a1 k0).text),.int .i64 ((get a1 k0).form.kind),.str ((get a1 k0).form.name),.sl false 1 16 (rows w3X ((get a1 k0).form.words)),.sl false 4 72 (rows w3T.cells ((get a1 k0).form.subs))]])]) (fun gj2 j2 fr1 st1 h hb=>?_) (fun hj2=>?_)
     ·try simp only[go_sem,fx]
      unfold w5s at h
      refine w5A hb ?_
      refine cd h (fun hc h=>?_) fun hc h=>?_
      ·refine cl h (w4A _ _) fun v16 h=>?_
       refine ra ?_
       cases h
       refine w8C ?_;have h:=congrArg some (hx0 _ rfl)
       refine rr ?_
       exact fo (.tup [.agg [.int .i64 0,.str [],.sl false 1 16 (rows w3X []),.sl false 4 72 (rows w3T.cells [])],.agg [.int .i64 v16.code,.int .i64 v16.index]]) (.tup _ _ (.cons _ _ _ _ (.agg _ _ (.cons _ _ _ _ .s (.cons _ _ _ _ .s (.cons _ _ _ _ (.w4g _ _ _ (by decide)) (.cons _ _ _ _ (.w4g _ _ _ (by decide)) .nil))))) (.cons _ _ _ _ .s .nil)) rfl) h hsc
      ·refine cd h (fun hc h=>?_) fun hc h=>?_
       ·refine cl h (x0w n _) fun v17 h=>?_
        refine cd h (fun hc h=>?_) fun hc h=>?_
        ·refine cl h (w4A _ _) fun v18 h=>?_
         refine ra ?_
         cases h
         refine w8C ?_;have h:=congrArg some (hx0 _ rfl)
         refine rr ?_
         exact fo (.tup [.agg [.int .i64 0,.str [],.sl false 1 16 (rows w3X []),.sl false 4 72 (rows w3T.cells [])],.agg [.int .i64 v18.code,.int .i64 v18.index]]) (.tup _ _ (.cons _ _ _ _ (.agg _ _ (.cons _ _ _ _ .s (.cons _ _ _ _ .s (.cons _ _ _ _ (.w4g _ _ _ (by decide)) (.cons _ _ _ _ (.w4g _ _ _ (by decide)) .nil))))) (.cons _ _ _ _ .s .nil)) rfl) h hsc
        ·refine rn ?_
         cases h
         exact x2D () (bm hsc)
       ·refine rn ?_
        cases h
        exact x2D () (bm hsc)
     ·refine cd h (fun hc h=>?_) fun hc h=>?_
      ·refine r0 ?_
       refine hj2 () _ _ _ h ?_;exact(bm hsc)
      ·refine rn ?_
       obtain⟨v15,hv15,h⟩:=w7w h
       refine x0C (fun hG=>(x5d _ _ (x8s hv15 (by simpa using hG)))) ?_
       try simp only[go_sem,fx]
       refine hj2 () _ _ _ h ?_;exact(bm hsc)
   ·refine cf ?_
    refine x2J ?_;simp only[go_sem,fx]
    exact⟨(),(bm hsc)⟩
   ·try simp only[go_sem,fx]
    unfold w9H at h
    refine w5A hb ?_
    refine rn ?_
    obtain⟨v19,hv19,h⟩:=w7w h
    refine((x5L n _ _ _ _ _ _ _ _ _ _ _ _ _ _ hv19 _ _ _ _ _ _ _ (by simp) (x3w.trans rfl) (x5S.trans rfl) (x5S.trans rfl) (x5S.trans rfl) (x5S.trans rfl) (x5S.trans rfl)).up (.cons _ _ _ _ .s (.cons _ _ _ _ .s (.cons _ _ _ _ (.w4g _ _ _ (by decide)) (.cons _ _ _ _ .s (.cons _ _ _ _ .s (.cons _ _ _ _ .s (.cons _ _ _ _ .s (.cons _ _ _ _ .s (.cons _ _ _ _ .s .nil))))))))) (by simp<;>omega)).mono ?_
    rintro d1 st1 ⟨rfl,rfl⟩
    refine cd h (fun hc h=>?_) fun hc h=>?_
    ·refine cl h (w4A _ _) fun v20 h=>?_
     refine rr ?_
     exact fo (.tup [.agg [.int .i64 0,.str [],.sl false 1 16 (rows w3X []),.sl false 4 72 (rows w3T.cells [])],.agg [.int .i64 v20.code,.int .i64 v20.index]]) (.tup _ _ (.cons _ _ _ _ (.agg _ _ (.cons _ _ _ _ .s (.cons _ _ _ _ .s (.cons _ _ _ _ (.w4g _ _ _ (by decide)) (.cons _ _ _ _ (.w4g _ _ _ (by decide)) .nil))))) (.cons _ _ _ _ .s .nil)) rfl) h hsc
    ·refine cl h (x3N n _) fun v21 h=>?_
     exact rt
theorem w9P(n:Nat)(a0:w3T)(r:Bool)(h:w5c n a0=some r):Pure Tryz.prog gl 15 [.agg [.int .i64 a0.kind,.str a0.name,.sl false 1 16 (rows w3X a0.words),.sl false 4 72 (rows w3T.cells a0.subs)]] (.bool r):=by
 intro st
 unfold w5c at h
 have fx:=trivial
 refine fb 6 [.tmp 2] [0,1,2] Tryz.func15 fun hsc=>?_
 refine cl h (up (w6P n _ _) (fun _=>(.cons _ _ _ _ .s (.cons _ _ _ _ (.agg _ _ (.cons _ _ _ _ .s (.cons _ _ _ _ .s (.cons _ _ _ _ (.w4g _ _ _ (by decide)) (.cons _ _ _ _ (.w4g _ _ _ (by decide)) .nil))))) .nil)))) fun v1 h=>?_
 exact rt
theorem x2p(n:Nat)(a0:w3W)(a1:(List Bs))(a2:(List w3V))(r:w4b)(h:w5t n a0 a1 a2=some r):Pure Tryz.prog gl 17 [.agg [.int .i64 a0.form.kind,.str a0.form.name,.sl false 1 16 (rows w3X a0.form.words),.sl false 4 72 (rows w3T.cells a0.form.subs),.sl false 1 16 (rows w3X a0.words),.sl false 1 16 (rows w3X a0.w4a),.sl false 1 16 (rows w3X a0.parts)],.sl false 1 16 (rows w3X a1),.sl false 6 104 (rows w3V.cells a2)] (.agg [.int .i64 r.code,.int .i64 r.index]):=by
 intro st
 unfold w5t at h
 have fx:=trivial
 refine fb 108 [.cell 6 31] [0,1,2,3,6,7,8,9,10,15,27,39,51,52,53,54,55,56,57,58,64,71,80,81,82,85,86,87,88,91,92,93,94,97,98,99,100,101,102,103,104] Tryz.func17 fun hsc=>?_
 refine cd h (fun hc h=>?_) fun hc h=>?_
 ·exact rt
 ·refine rn ?_
  refine w4m (body:=w4Z n a2 a1 a0) (kk:=w5F) (n:=n) (s0:=0)
   (fun(gs0:Unit) (s0:Int)=>[(1,.sl false 1 16 (rows w3X a1)),(2,.sl false 6 104 (rows w3V.cells a2)),(3,.ptr st.length 0 0 0),(6,.ptr (st.length+1) 0 0 0),(7,.int .i64 (wr .i64 ((↑a0.words.length:Int)+(↑a0.w4a.length:Int)))),(8,.int .i64 s0)])
   (fun(gs0:Unit) (s0:Int)=>st++[some (.arr 0 7 0 [[.int .i64 a0.form.kind,.str a0.form.name,.sl false 1 16 (rows w3X a0.form.words),.sl false 4 72 (rows w3T.cells a0.form.subs),.sl false 1 16 (rows w3X a0.words),.sl false 1 16 (rows w3X a0.w4a),.sl false 1 16 (rows w3X a0.parts)]]),some (.arr 0 2 0 [[.int .i64 0,.int .i64 0]])])
   (fun(gt0:Unit) (t0:Unit)=>[(6,.ptr (st.length+1) 0 0 0)])
   (fun(gt0:Unit) (t0:Unit)=>st++[none,some (.arr 0 2 0 [[.int .i64 0,.int .i64 0]])])
   () h (bm hsc)
   (fun gs0 s0 b0 h hx0=>?_) (fun gt0 t0 fr1 st1 h hb=>?_)
  ·unfold w4Z at h
   refine cd h (fun hc h=>?_) fun hc h=>?_
   ·refine rn ?_
    obtain⟨fx,h⟩:=ck fx h
    obtain⟨fx,h⟩:=ck fx h
    refine dw [] 0 ?_
    refine cd h (fun hc h=>?_) fun hc h=>?_
    ·refine ra ?_
     cases h
     refine w9J ?_;have h:=congrArg some (hx0 _ rfl)
     exact rt
    ·refine cd h (fun hc h=>?_) fun hc h=>?_
     ·refine cd h (fun hc h=>?_) fun hc h=>?_
      ·refine ra ?_
       cases h
       refine w9J ?_;have h:=congrArg some (hx0 _ rfl)
       exact rt
      ·refine cl h (x0O n _) fun v8 h=>?_
       refine cd h (fun hc h=>?_) fun hc h=>?_
       ·refine ra ?_
        cases h
        refine w9J ?_;have h:=congrArg some (hx0 _ rfl)
        exact rt
       ·refine rn ?_
        cases h
        exact w4s () (bm hsc)
     ·refine rn ?_
      obtain⟨v9,hv9,h⟩:=w7w h
      refine x0C (fun hG=>(x2b n _ _ (x8s hv9 (by simpa using hG)))) ?_
      refine cd h (fun hc h=>?_) fun hc h=>?_
      ·refine ra ?_
       cases h
       refine w9J ?_;have h:=congrArg some (hx0 _ rfl)
       exact rt
      ·refine rn ?_
       cases h
       exact w4s () (bm hsc)
   ·refine rn ?_
    cases h
    exact w4H () (bm hsc)
  ·try simp only[go_sem,fx]
   unfold w5F at h
   refine w5A hb ?_
   exact rt
theorem x5e(n:Nat)(l0:(List w3U))(r:(List w3U))(h:w7Y n l0=some r):∀(st:St) (o0 q0:Nat) (hnd: [o0].Nodup) (w8Z:Am.look st o0=some (.arr q0 5 80 (rows w3U.cells l0))),Am.Spec Tryz.prog gl 46 [.ref false o0 q0 0 l0.length] st (fun d st'=>∃zo0:Nat,d= .ref false o0 zo0 0 r.length∧st'=puts st [(o0,(.arr zo0 5 80 (rows w3U.cells r)))]):=by
 intro st o0 q0 hnd w8Z
 unfold w7Y at h
 have ho0:=w5a w8Z
 have fx:=idf ho0
 refine fb 36 [.tmp 2] [0,2,3,4,5,10,22] Tryz.func46 fun hsc=>?_
 refine x1L (s':=(w4O st [(o0,(.arr q0 5 80 (rows w3U.cells l0)))])) (w4w (by simp[w8Z])) ?_
 refine rn ?_
 refine w4m (body:=w6z n) (kk:=w8p) (n:=n) (s0:=(l0,(wr .i64 ((↑l0.length:Int)-1))))
  (fun(gs0:Nat) (s0:(List w3U)×Int)=>[(0,.ref false o0 gs0 0 s0.1.length),(3,.int .i64 s0.2)])
  (fun(gs0:Nat) (s0:(List w3U)×Int)=>(w4O st [(o0,(.arr gs0 5 80 (rows w3U.cells s0.1)))]))
  (fun(gt0:Nat) (t0:(List w3U))=>[(0,.ref false o0 gt0 0 t0.length)])
  (fun(gt0:Nat) (t0:(List w3U))=>(w4O st [(o0,(.arr gt0 5 80 (rows w3U.cells t0)))]))
  q0 h (y1c hsc)
  (fun gs0 s0 b0 h hx0=>?_) (fun gt0 t0 fr1 st1 h hb=>?_)
 ·unfold w6z at h
  refine cd h (fun hc h=>?_) fun hc h=>?_
  ·refine rn ?_
   refine w4m (body:=w6A s0) (kk:=w8o s0) (n:=n) (s0:=((wr .i64 (s0.2+1)),0))
    (fun(gs2:Unit) (s2:Int×Int)=>[(0,.ref false o0 gs0 0 s0.1.length),(3,.int .i64 s0.2),(4,.int .i64 s2.1),(5,.int .i64 s2.2)])
    (fun(gs2:Unit) (s2:Int×Int)=>(w4O st [(o0,(.arr gs0 5 80 (rows w3U.cells s0.1)))]))
    (fun(gt2:Unit) (t2:Int)=>[(0,.ref false o0 gs0 0 s0.1.length),(3,.int .i64 s0.2),(4,.int .i64 t2)])
    (fun(gt2:Unit) (t2:Int)=>(w4O st [(o0,(.arr gs0 5 80 (rows w3U.cells s0.1)))]))
    () h (y1c hsc)
    (fun gs2 s2 b2 h hx2=>?_) (fun gt2 t2 fr1 st1 h hb=>?_)
   ·unfold w6A at h
    obtain⟨fx,h⟩:=ck fx h
    have fy:=(show(rows w3U.cells s0.1).getD s0.2.toNat []=w3U.cells (get s0.1 s0.2.toNat)from y2e (E:=w3U.cells) (l:=s0.1) (k:=s0.2.toNat) (by first|omega|(simp;omega)))
    have fy:=fa fy (show s0.2.toNat<s0.1.length from by first|omega|(simp;omega))
    refine r1 ?_
    refine cl h (x0s _) fun v39 h=>?_
    try simp only[go_sem,fx,fy]
    refine cd h (fun hc h=>?_) fun hc h=>?_
    ·refine r0 ?_
     refine r0 ?_
     obtain⟨fx,h⟩:=ck fx h
     have fy:=(show(rows w3U.cells s0.1).getD s2.1.toNat []=w3U.cells (get s0.1 s2.1.toNat)from y2e (E:=w3U.cells) (l:=s0.1) (k:=s2.1.toNat) (by first|omega|(simp;omega)))
     have fy:=fa fy (show s2.1.toNat<s0.1.length from by first|omega|(simp;omega))
     refine r1 ?_
     refine rn ?_
     cases h
     exact w4s () (y1c hsc)
    ·refine rn ?_
     cases h
     exact w4H () (y1c hsc)
   ·try simp only[go_sem,fx]
    unfold w8o at h
    refine w5A hb ?_
    obtain⟨fx,h⟩:=ck fx h
    have fy:=(show(rows w3U.cells s0.1).getD s0.2.toNat []=w3U.cells (get s0.1 s0.2.toNat)from y2e (E:=w3U.cells) (l:=s0.1) (k:=s0.2.toNat) (by first|omega|(simp;omega)))
    have fy:=fa fy (show s0.2.toNat<s0.1.length from by first|omega|(simp;omega))
    obtain⟨c48,z4w,h⟩:=x1k h
    have fy:=fa fy (show(rows w3U.cells s0.1).set s0.2.toNat [.int .i64 ((get s0.1 s0.2.toNat).kind),.str ((get s0.1 s0.2.toNat).name),.sl false 1 16 (rows w3X ((get s0.1 s0.2.toNat).words)),.sl false 1 1 (rows x1d ((get s0.1 s0.2.toNat).bound)),.int .i64 t2]=rows w3U.cells c48 from by rw[z4w];first|exact z5E (E:=w3U.cells) _ _ _|simp only[go_sem,rows,List.map_set])
    refine r1 ?_
    have e50:D.ref false o0 gs0 0 s0.1.length=D.ref false o0 gs0 0 c48.length:=by simp[z4w]
    try simp only[e50]
    refine rn ?_
    cases h
    exact w4s gs0 (y1c hsc)
  ·refine rn ?_
   cases h
   exact w4H gs0 (y1c hsc)
 ·try simp only[go_sem,fx]
  unfold w8p at h
  refine w5A hb ?_
  refine rr ?_
  exact fus (.ref false o0 gt0 0 t0.length) (.same _) h hsc (hr:=by rintro rfl;exact⟨gt0,rfl,rfl⟩)
theorem x3U(n:Nat)(a0:w3W)(a1:(List Bs))(a2:(List w3V))(r:(List w3U))(h:w6B n a0 a1 a2=some r):Pure Tryz.prog gl 18 [.agg [.int .i64 a0.form.kind,.str a0.form.name,.sl false 1 16 (rows w3X a0.form.words),.sl false 4 72 (rows w3T.cells a0.form.subs),.sl false 1 16 (rows w3X a0.words),.sl false 1 16 (rows w3X a0.w4a),.sl false 1 16 (rows w3X a0.parts)],.sl false 1 16 (rows w3X a1),.sl false 6 104 (rows w3V.cells a2)] (.sl false 5 80 (rows w3U.cells r)):=by
 intro st
 unfold w6B at h
 have fx:=trivial
 refine x3d ?_;refine fb 226 [.tmp 6] [0,1,2,3,6,7,8,9,10,11,12,13,14,15,16,17,34,44,45,46,47,48,49,50,53,54,55,56,57,58,59,60,61,62,83,108,109,110,111,137,138,139,140,141,142,143,163,181,205] Tryz.func18 fun hsc=>?_
 refine rn ?_
 refine dw [] 0 ?_
 refine rn ?_
 obtain⟨v1,hv1,h⟩:=w7w h
 refine(w8a ((w8v n _ _ _ hv1).up (fun _=>(.cons _ _ _ _ .s (.cons _ _ _ _ .s (.cons _ _ _ _ (.w4g _ _ _ (by decide)) .nil)))) (.inr fun n=>by simp))).to ?_
 refine rn ?_
 refine w4m (body:=w4j n v1 a0 a2 a1) (kk:=w6O n) (n:=n) (s0:=([],0))
  (fun(gs0:Nat) (s0:(List w3U)×Int)=>[(1,.sl false 1 16 (rows w3X a1)),(2,.sl false 6 104 (rows w3V.cells a2)),(3,.ptr st.length 0 0 0),(7,.int .i64 (↑a0.words.length:Int)),(8,.int .i64 (↑a0.w4a.length:Int)),(9,.int .i64 (↑a0.parts.length:Int)),(10,.sl false 5 80 (rows w3U.cells v1)),(11,.ref false (st.length+1) gs0 0 s0.1.length),(12,.int .i64 s0.2)])
  (fun(gs0:Nat) (s0:(List w3U)×Int)=>st++[some (.arr 0 7 0 [[.int .i64 a0.form.kind,.str a0.form.name,.sl false 1 16 (rows w3X a0.form.words),.sl false 4 72 (rows w3T.cells a0.form.subs),.sl false 1 16 (rows w3X a0.words),.sl false 1 16 (rows w3X a0.w4a),.sl false 1 16 (rows w3X a0.parts)]]),some (.arr gs0 5 80 (rows w3U.cells s0.1))])
  (fun(gt0:Nat) (t0:(List w3U))=>[(11,.ref false (st.length+1) gt0 0 t0.length)])
  (fun(gt0:Nat) (t0:(List w3U))=>st++[none,some (.arr gt0 5 80 (rows w3U.cells t0))])
  0 h (bm hsc)
  (fun gs0 s0 b0 h hx0=>?_) (fun gt0 t0 fr1 st1 h hb=>?_)
 ·unfold w4j at h
  refine cd h (fun hc h=>?_) fun hc h=>?_
  ·refine rn ?_
   obtain⟨fx,h⟩:=ck fx h
   refine dw [] 0 ?_
   obtain⟨v107,hv107,h⟩:=w7w h
   refine x4T (fun hG=>(w8a (w4u n _ _ _ (x8s hv107 (by simpa using hG))))) ?_
   try simp only[go_sem,fx]
   refine cd h (fun hc h=>?_) fun hc h=>?_
   ·refine rs ?_
    refine dw [] 0 ?_
    obtain⟨v108,hv108,h⟩:=w7w h
    refine w7Z (w8a (w4u n _ _ _ hv108)) ?_
    obtain⟨fx,h⟩:=ck fx h
    try simp only[go_sem,fx]
    obtain⟨v111,hv111,h⟩:=w7w h
    refine w7Z (w8a ((w8v n _ _ _ hv111).up (fun _=>(.cons _ _ _ _ .s (.cons _ _ _ _ .s (.cons _ _ _ _ (.w4g _ _ _ (by decide)) .nil)))) (.inr fun n=>by simp))) ?_
    try simp only[go_sem,fx]
    refine rn ?_
    refine w4m (body:=w5J v111) (kk:=w6N s0) (n:=n) (s0:=(s0.1,0))
     (fun(gs4:Nat) (s4:(List w3U)×Int)=>[(1,.sl false 1 16 (rows w3X a1)),(2,.sl false 6 104 (rows w3V.cells a2)),(3,.ptr st.length 0 0 0),(7,.int .i64 (↑a0.words.length:Int)),(8,.int .i64 (↑a0.w4a.length:Int)),(9,.int .i64 (↑a0.parts.length:Int)),(10,.sl false 5 80 (rows w3U.cells v1)),(11,.ref false (st.length+1) gs4 0 s4.1.length),(12,.int .i64 s0.2),(13,.sl false 5 80 (rows w3U.cells v111)),(14,.int .i64 s4.2)])
     (fun(gs4:Nat) (s4:(List w3U)×Int)=>st++[some (.arr 0 7 0 [[.int .i64 a0.form.kind,.str a0.form.name,.sl false 1 16 (rows w3X a0.form.words),.sl false 4 72 (rows w3T.cells a0.form.subs),.sl false 1 16 (rows w3X a0.words),.sl false 1 16 (rows w3X a0.w4a),.sl false 1 16 (rows w3X a0.parts)]]),some (.arr gs4 5 80 (rows w3U.cells s4.1))])
     (fun(gt4:Nat) (t4:(List w3U))=>[(1,.sl false 1 16 (rows w3X a1)),(2,.sl false 6 104 (rows w3V.cells a2)),(3,.ptr st.length 0 0 0),(7,.int .i64 (↑a0.words.length:Int)),(8,.int .i64 (↑a0.w4a.length:Int)),(9,.int .i64 (↑a0.parts.length:Int)),(10,.sl false 5 80 (rows w3U.cells v1)),(11,.ref false (st.length+1) gt4 0 t4.length),(12,.int .i64 s0.2)])
     (fun(gt4:Nat) (t4:(List w3U))=>st++[some (.arr 0 7 0 [[.int .i64 a0.form.kind,.str a0.form.name,.sl false 1 16 (rows w3X a0.form.words),.sl false 4 72 (rows w3T.cells a0.form.subs),.sl false 1 16 (rows w3X a0.words),.sl false 1 16 (rows w3X a0.w4a),.sl false 1 16 (rows w3X a0.parts)]]),some (.arr gt4 5 80 (rows w3U.cells t4))])
     gs0 h (bm hsc)
     (fun gs4 s4 b4 h hx4=>?_) (fun gt4 t4 fr1 st1 h hb=>?_)
    ·unfold w5J at h
     refine cd h (fun hc h=>?_) fun hc h=>?_
     ·refine r0 ?_
      refine r0 ?_
      obtain⟨fx,h⟩:=ck fx h
      obtain⟨c122,z4x,h⟩:=x1k h
      have fy:=(show rows w3U.cells s4.1++[[.int .i64 ((get v111 s4.2.toNat).kind),.str ((get v111 s4.2.toNat).name),.sl false 1 16 (rows w3X ((get v111 s4.2.toNat).words)),.sl false 1 1 (rows x1d ((get v111 s4.2.toNat).bound)),.int .i64 ((get v111 s4.2.toNat).end_)]]=rows w3U.cells c122 from by rw[z4x];first|exact w4k (E:=w3U.cells) s4.1 [(get v111 s4.2.toNat)]|simp only[go_sem,rows,List.map_append,List.map_cons,List.map_nil])
      have fy:=fa fy (show s4.1.length+1=c122.length from by rw[z4x];simp)
      obtain⟨fx,h⟩:=ck fx h
      refine r1 ?_
      refine rn ?_
      cases h
      exact w4s (gs4+1) (bm hsc)
     ·refine rn ?_
      cases h
      exact w4H gs4 (bm hsc)
    ·try simp only[go_sem,fx]
     unfold w6N at h
     refine w5A hb ?_
     refine rn ?_
     cases h
     exact w4s gt4 (bm hsc)
   ·refine rn ?_
    refine dw [] 1 ?_
    refine rn ?_
    refine w9Q (w4I n v1 s0 a0 a1 a2) b0 (fun(gj5:Unit) (j5:Bs)=>[(1,.sl false 1 16 (rows w3X a1)),(2,.sl false 6 104 (rows w3V.cells a2)),(3,.ptr st.length 0 0 0),(7,.int .i64 (↑a0.words.length:Int)),(8,.int .i64 (↑a0.w4a.length:Int)),(9,.int .i64 (↑a0.parts.length:Int)),(10,.sl false 5 80 (rows w3U.cells v1)),(11,.ref false (st.length+1) gs0 0 s0.1.length),(12,.int .i64 s0.2),(15,.ptr (st.length+2) 0 0 0)]) (fun(gj5:Unit) (j5:Bs)=>st++[some (.arr 0 7 0 [[.int .i64 a0.form.kind,.str a0.form.name,.sl false 1 16 (rows w3X a0.form.words),.sl false 4 72 (rows w3T.cells a0.form.subs),.sl false 1 16 (rows w3X a0.words),.sl false 1 16 (rows w3X a0.w4a),.sl false 1 16 (rows w3X a0.parts)]]),some (.arr gs0 5 80 (rows w3U.cells s0.1)),some (.arr 0 5 0 [[.int .i64 ((get v1 s0.2.toNat).kind),.str j5,.w4g,.w4g,.int .i64 0]])]) (fun gj5 j5 fr1 st1 h hb=>?_) (fun hj5=>?_)
    ·try simp only[go_sem,fx]
     unfold w4I at h
     refine w5A hb ?_
     refine r0 ?_
     (repeat apply sq_)
     refine w9I 1 16 ?_
     try simp only[List.append_assoc,List.cons_append,List.nil_append]
     refine w5A (F:=[(1,.sl false 1 16 (rows w3X a1)),(2,.sl false 6 104 (rows w3V.cells a2)),(3,.ptr st.length 0 0 0),(7,.int .i64 (↑a0.words.length:Int)),(8,.int .i64 (↑a0.w4a.length:Int)),(9,.int .i64 (↑a0.parts.length:Int)),(10,.sl false 5 80 (rows w3U.cells v1)),(11,.ref false (st.length+1) gs0 0 s0.1.length),(12,.int .i64 s0.2),(15,.ptr (st.length+2) 0 0 0),(16,.int .i64 0)]) (T:=st++[some (.arr 0 7 0 [[.int .i64 a0.form.kind,.str a0.form.name,.sl false 1 16 (rows w3X a0.form.words),.sl false 4 72 (rows w3T.cells a0.form.subs),.sl false 1 16 (rows w3X a0.words),.sl false 1 16 (rows w3X a0.w4a),.sl false 1 16 (rows w3X a0.parts)]]),some (.arr gs0 5 80 (rows w3U.cells s0.1)),some (.arr 0 5 0 [[.int .i64 ((get v1 s0.2.toNat).kind),.str j5,.ref false (st.length+3) 0 0 0,.w4g,.int .i64 0]]),some (.arr 0 1 16 (rows w3X []))]) (y1B hsc (.lv (.lv (.live _ _ _ _ (.arr _ _ _ _ _ (.cons _ _ _ _ (.cons _ _ _ _ .s (.cons _ _ _ _ .s (.cons _ _ _ _ (.nref _ _ _ _ _ _ (x6a.trans rfl)) (.cons _ _ _ _ .s (.cons _ _ _ _ .s .nil))))) (.same _))) (.lv (.nil _))))) (by simp) ⟨.s,.s,.s,.s,.s,.s,.s,.s,.s,.s,.s,trivial⟩ (by simp)) ?_
     (repeat apply sq_)
     refine w4m (body:=w5d n v1 s0 a0 a1 a2) (kk:=w6M s0 v1 j5) (n:=n) (s0:=([],0))
      (fun(gs6:Nat) (s6:(List Bs)×Int)=>[(1,.sl false 1 16 (rows w3X a1)),(2,.sl false 6 104 (rows w3V.cells a2)),(3,.ptr st.length 0 0 0),(7,.int .i64 (↑a0.words.length:Int)),(8,.int .i64 (↑a0.w4a.length:Int)),(9,.int .i64 (↑a0.parts.length:Int)),(10,.sl false 5 80 (rows w3U.cells v1)),(11,.ref false (st.length+1) gs0 0 s0.1.length),(12,.int .i64 s0.2),(15,.ptr (st.length+2) 0 0 0),(16,.int .i64 s6.2)])
      (fun(gs6:Nat) (s6:(List Bs)×Int)=>st++[some (.arr 0 7 0 [[.int .i64 a0.form.kind,.str a0.form.name,.sl false 1 16 (rows w3X a0.form.words),.sl false 4 72 (rows w3T.cells a0.form.subs),.sl false 1 16 (rows w3X a0.words),.sl false 1 16 (rows w3X a0.w4a),.sl false 1 16 (rows w3X a0.parts)]]),some (.arr gs0 5 80 (rows w3U.cells s0.1)),some (.arr 0 5 0 [[.int .i64 ((get v1 s0.2.toNat).kind),.str j5,.ref false (st.length+3) gs6 0 s6.1.length,.w4g,.int .i64 0]]),some (.arr gs6 1 16 (rows w3X s6.1))])
      (fun(gt6:Nat) (t6:(List Bs))=>[(1,.sl false 1 16 (rows w3X a1)),(2,.sl false 6 104 (rows w3V.cells a2)),(3,.ptr st.length 0 0 0),(7,.int .i64 (↑a0.words.length:Int)),(8,.int .i64 (↑a0.w4a.length:Int)),(9,.int .i64 (↑a0.parts.length:Int)),(10,.sl false 5 80 (rows w3U.cells v1)),(11,.ref false (st.length+1) gs0 0 s0.1.length),(12,.int .i64 s0.2),(15,.ptr (st.length+2) 0 0 0)])
      (fun(gt6:Nat) (t6:(List Bs))=>st++[some (.arr 0 7 0 [[.int .i64 a0.form.kind,.str a0.form.name,.sl false 1 16 (rows w3X a0.form.words),.sl false 4 72 (rows w3T.cells a0.form.subs),.sl false 1 16 (rows w3X a0.words),.sl false 1 16 (rows w3X a0.w4a),.sl false 1 16 (rows w3X a0.parts)]]),some (.arr gs0 5 80 (rows w3U.cells s0.1)),some (.arr 0 5 0 [[.int .i64 ((get v1 s0.2.toNat).kind),.str j5,.ref false (st.length+3) gt6 0 t6.length,.w4g,.int .i64 0]]),some (.arr gt6 1 16 (rows w3X t6))])
      0 h (bm hsc)
      (fun gs6 s6 b6 h hx6=>?_) (fun gt6 t6 fr1 st1 h hb=>?_)
     ·unfold w5d at h
      refine cd h (fun hc h=>?_) fun hc h=>?_
      ·obtain⟨fx,h⟩:=ck fx h
       obtain⟨fx,h⟩:=ck fx h
       refine cd h (fun hc h=>?_) fun hc h=>?_
       ·obtain⟨fx,h⟩:=ck fx h
        refine rn ?_
        obtain⟨v170,hv170,h⟩:=w7w h
        refine(w8a (w4u n _ _ _ hv170)).to ?_
        obtain⟨fx,h⟩:=ck fx h
        try simp only[go_sem,fx]
        obtain⟨c174,z4y,h⟩:=x1k h
        have fy:=(show rows w3X s6.1++[[.str ((get a2 ((wr .i64 ((wr .i64 ((wr .i64 ((↑a0.words.length:Int)+(↑a0.w4a.length:Int)))+(↑a0.parts.length:Int)))+v170)).toNat)).text)]]=rows w3X c174 from by rw[z4y];first|exact w4k (E:=w3X) s6.1 [(get a2 ((wr .i64 ((wr .i64 ((wr .i64 ((↑a0.words.length:Int)+(↑a0.w4a.length:Int)))+(↑a0.parts.length:Int)))+v170)).toNat)).text]|simp only[go_sem,rows,List.map_append,List.map_cons,List.map_nil])
        have fy:=fa fy (show s6.1.length+1=c174.length from by rw[z4y];simp)
        obtain⟨fx,h⟩:=ck fx h
        refine r1 ?_
        refine rn ?_
        cases h
        exact w4s (gs6+1) (bm hsc)
       ·refine rn ?_
        obtain⟨v179,hv179,h⟩:=w7w h
        refine(w8a (w4u n _ _ _ hv179)).to ?_
        refine cd h (fun hc h=>?_) fun hc h=>?_
        ·refine rn ?_
         obtain⟨v180,hv180,h⟩:=w7w h
         refine(w8a (w4u n _ _ _ hv180)).to ?_
         obtain⟨fx,h⟩:=ck fx h
         try simp only[go_sem,fx]
         obtain⟨c184,z4z,h⟩:=x1k h
         have fy:=(show rows w3X s6.1++[[.str ((get a2 v180.toNat).text)]]=rows w3X c184 from by rw[z4z];first|exact w4k (E:=w3X) s6.1 [(get a2 v180.toNat).text]|simp only[go_sem,rows,List.map_append,List.map_cons,List.map_nil])
         have fy:=fa fy (show s6.1.length+1=c184.length from by rw[z4z];simp)
         obtain⟨fx,h⟩:=ck fx h
         refine r1 ?_
         refine rn ?_
         cases h
         exact w4s (gs6+1) (bm hsc)
        ·refine r0 ?_
         obtain⟨c190,z4A,h⟩:=x1k h
         have fy:=(show rows w3X s6.1++[[.str (get ((get v1 s0.2.toNat).words) s6.2.toNat)]]=rows w3X c190 from by rw[z4A];first|exact w4k (E:=w3X) s6.1 [(get ((get v1 s0.2.toNat).words) s6.2.toNat)]|simp only[go_sem,rows,List.map_append,List.map_cons,List.map_nil])
         have fy:=fa fy (show s6.1.length+1=c190.length from by rw[z4A];simp)
         obtain⟨fx,h⟩:=ck fx h
         refine r1 ?_
         refine rn ?_
         cases h
         exact w4s (gs6+1) (bm hsc)
      ·refine rn ?_
       cases h
       exact w4H gs6 (bm hsc)
     ·try simp only[go_sem,fx]
      unfold w6M at h
      refine w5A hb ?_
      (repeat apply sq_)
      refine w5A (F:=[(1,.sl false 1 16 (rows w3X a1)),(2,.sl false 6 104 (rows w3V.cells a2)),(3,.ptr st.length 0 0 0),(7,.int .i64 (↑a0.words.length:Int)),(8,.int .i64 (↑a0.w4a.length:Int)),(9,.int .i64 (↑a0.parts.length:Int)),(10,.sl false 5 80 (rows w3U.cells v1)),(11,.ref false (st.length+1) gs0 0 s0.1.length),(12,.int .i64 s0.2),(15,.ptr (st.length+2) 0 0 0)]) (T:=st++[some (.arr 0 7 0 [[.int .i64 a0.form.kind,.str a0.form.name,.sl false 1 16 (rows w3X a0.form.words),.sl false 4 72 (rows w3T.cells a0.form.subs),.sl false 1 16 (rows w3X a0.words),.sl false 1 16 (rows w3X a0.w4a),.sl false 1 16 (rows w3X a0.parts)]]),some (.arr gs0 5 80 (rows w3U.cells s0.1)),some (.arr 0 5 0 [[.int .i64 ((get v1 s0.2.toNat).kind),.str j5,.sl false 1 16 (rows w3X t6),.sl false 1 1 (rows x1d []),.int .i64 0]])]) (y1B hsc (.lv (.lv (.live _ _ _ _ (.arr _ _ _ _ _ (.cons _ _ _ _ (.cons _ _ _ _ .s (.cons _ _ _ _ .s (.cons _ _ _ _ (.ref _ _ _ _ _ _ _ _ _ (x6a.trans rfl) (x5C (by first|decide|simp)) (by decide) (x4L _) (by simp only[go_sem])) (.cons _ _ _ _ (.w4g _ _ _ (by decide)) (.cons _ _ _ _ .s .nil))))) (.same _))) (.nil _)))) (by simp) ⟨.s,.s,.s,.s,.s,.s,.s,.s,.s,.s,trivial⟩ (by simp)) ?_
      obtain⟨c196,z4B,h⟩:=x1k h
      have fy:=(show rows w3U.cells s0.1++[[.int .i64 ((get v1 s0.2.toNat).kind),.str j5,.sl false 1 16 (rows w3X t6),.sl false 1 1 (rows x1d []),.int .i64 0]]=rows w3U.cells c196 from by rw[z4B];first|exact w4k (E:=w3U.cells) s0.1 [(w3U.mk ((get v1 s0.2.toNat).kind) j5 t6 [] 0)]|simp only[go_sem,rows,List.map_append,List.map_cons,List.map_nil])
      have fy:=fa fy (show s0.1.length+1=c196.length from by rw[z4B];simp)
      obtain⟨fx,h⟩:=ck fx h
      refine r1 ?_
      refine rn ?_
      cases h
      exact w4s (gs0+1) (bm hsc)
    ·refine cd h (fun hc h=>?_) fun hc h=>?_
     ·refine rs ?_
      obtain⟨fx,h⟩:=ck fx h
      refine dw [] 0 ?_
      obtain⟨v129,hv129,h⟩:=w7w h
      refine w7Z (w8a (w4u n _ _ _ hv129)) ?_
      obtain⟨fx,h⟩:=ck fx h
      try simp only[go_sem,fx]
      refine hj5 () _ _ _ h ?_;exact(bm hsc)
     ·refine rn ?_
      obtain⟨v132,hv132,h⟩:=w7w h
      refine x0C (fun hG=>(w8a (w4u n _ _ _ (x8s hv132 (by simpa using hG))))) ?_
      refine cd h (fun hc h=>?_) fun hc h=>?_
      ·refine rn ?_
       obtain⟨v133,hv133,h⟩:=w7w h
       refine(w8a (w4u n _ _ _ hv133)).to ?_
       obtain⟨fx,h⟩:=ck fx h
       try simp only[go_sem,fx]
       refine hj5 () _ _ _ h ?_;exact(bm hsc)
      ·refine r0 ?_
       refine hj5 () _ _ _ h ?_;exact(bm hsc)
  ·refine rn ?_
   cases h
   exact w4H gs0 (bm hsc)
 ·try simp only[go_sem,fx]
  unfold w6O at h
  refine w5A hb ?_
  refine rn ?_
  obtain⟨v201,hv201,h⟩:=w7w h
  refine(x7h (x5e n _ _ hv201 _ _ gt0 (by simp) (x5S.trans rfl))).mono ?_
  rintro d1 st1 ⟨g202,rfl,rfl⟩
  refine rr ?_
  exact fo (.sl false 5 80 (rows w3U.cells v201)) (.ref _ _ _ _ _ _ _ _ _ (x6a.trans rfl) y4B (by decide) (x4L _) (by simp only[go_sem])) h hsc
end Go.Proofs.YtdjnbjnlnjhllaaGreatDoor
