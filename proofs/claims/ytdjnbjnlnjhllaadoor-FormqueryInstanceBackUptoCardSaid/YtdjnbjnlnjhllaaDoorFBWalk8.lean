import Derived.Test.YtdjnbjnlnjhllaaDoorFBWalk7
set_option linter.unusedVariables false
set_option linter.unusedSimpArgs false
set_option maxHeartbeats 2000000
set_option maxRecDepth 100000
namespace Go.Proofs.YtdjnbjnlnjhllaaDoor
open Go Go.Am
theorem VQ(n:Nat)(a0:Mb)(a1:(List Ma))(r:LZ×Mi)(h:Ov n a0 a1=some r):Pure Tryd.prog gl 14 [.agg [.int .i64 a0.form.kind,.str a0.form.name,.sl false 1 16 (rows Me a0.form.words),.sl false 4 72 (rows LZ.cells a0.form.subs),.sl false 1 16 (rows Me a0.words),.sl false 1 16 (rows Me a0.Mj),.sl false 1 16 (rows Me a0.parts)],.sl false 6 104 (rows Ma.cells a1)] (.tup [.agg [.int .i64 r.1.kind,.str r.1.name,.sl false 1 16 (rows Me r.1.words),.sl false 4 72 (rows LZ.cells r.1.subs)],.agg [.int .i64 r.2.code,.int .i64 r.2.index]]):=by
 intro st
 unfold Ov at h
 have fx:=trivial
 refine fb 153 [.cell 4 25,.cell 5 30] [0,1,2,3,4,5,6,7,8,9,10,11,12,13,14,15,16,17,18,23,37,47,48,49,50,58,59,60,61,62,63,64,71,72,73,74,77,78,79,80,81,84,85,86,87,88,90,101,104,105,106,111,112,113,114,115,116,117,118,123,130,147] Tryd.func14 fun hsc=>?_
 refine cl h (QN n _) fun v1 h=>?_
 refine cd h (fun hc h=>?_) fun hc h=>?_
 ·refine rs ?_
  refine dw [1,2] 0 ?_
  try refine⟨by first|omega|(simp<;>omega),?_⟩
  refine rr ?_
  exact fo (.tup [.agg [.int .i64 0,.str [],.sl false 1 16 (rows Me []),.sl false 4 72 (rows LZ.cells [])],.agg [.int .i64 v1.code,.int .i64 v1.index]]) (.tup _ _ (.cons _ _ _ _ (.agg _ _ (.cons _ _ _ _ .s (.cons _ _ _ _ .s (.cons _ _ _ _ (.Mk _ _ _ (by decide)) (.cons _ _ _ _ (.Mk _ _ _ (by decide)) .nil))))) (.cons _ _ _ _ .s .nil)) rfl) h hsc
 ·refine rn ?_
  refine dw [] 1 ?_
  obtain⟨v2,hv2,h⟩:=QJ h
  refine Pt (Qv _ _ hv2) ?_
  try simp only[go_sem,fx]
  obtain⟨v3,hv3,h⟩:=QJ h
  refine Pt (Oo n _ _ hv3) ?_
  try simp only[go_sem,fx]
  obtain⟨v5,hv5,h⟩:=QJ h
  refine Pt (XD _ _ hv5) ?_
  try simp only[go_sem,fx]
  refine cd h (fun hc h=>?_) fun hc h=>?_
  ·refine cl h (Mv _ _) fun v6 h=>?_
   refine rr ?_
   exact fo (.tup [.agg [.int .i64 0,.str [],.sl false 1 16 (rows Me []),.sl false 4 72 (rows LZ.cells [])],.agg [.int .i64 v6.code,.int .i64 v6.index]]) (.tup _ _ (.cons _ _ _ _ (.agg _ _ (.cons _ _ _ _ .s (.cons _ _ _ _ .s (.cons _ _ _ _ (.Mk _ _ _ (by decide)) (.cons _ _ _ _ (.Mk _ _ _ (by decide)) .nil))))) (.cons _ _ _ _ .s .nil)) rfl) h hsc
  ·refine aln 47 fun hl0=>?_
   refine rng (body:=Pq n v5 a1 a0) (kk:=Pr n a0 a1) (n:=a1.length) (s0:=())
    (fun(gs0:Unit) (k0:Nat) (s0:Unit)=>[(2,.ptr st.length 0 0 0),(3,.ptr (st.length+1) 0 0 0),(4,.ptr (st.length+2) 0 0 0),(5,.ptr (st.length+3) 0 0 0),(7,.sl false 1 16 (rows Me v5)),(8,.ptr (st.length+6) 0 0 0),(47,.sl false 6 104 (rows Ma.cells a1)),(48,.int .i64 (↑a1.length:Int)),(49,.int .i64 (↑k0:Int))])
    (fun(gs0:Unit) (k0:Nat) (s0:Unit)=>st++[some (.arr 0 7 0 [[.int .i64 a0.form.kind,.str a0.form.name,.sl false 1 16 (rows Me a0.form.words),.sl false 4 72 (rows LZ.cells a0.form.subs),.sl false 1 16 (rows Me a0.words),.sl false 1 16 (rows Me a0.Mj),.sl false 1 16 (rows Me a0.parts)]]),some (.arr 0 1 0 [[.sl false 6 104 (rows Ma.cells a1)]]),some (.arr 0 4 0 [[.int .i64 0,.str [],.Mk,.Mk]]),some (.arr 0 2 0 [[.int .i64 0,.int .i64 0]]),none,none,some (.arr 0 1 0 [[.int .i64 (wr .i64 ((↑a0.words.length:Int)+(↑a0.Mj.length:Int)))]])])
    (fun(gt0:Unit) (t0:Unit)=>[(2,.ptr st.length 0 0 0),(3,.ptr (st.length+1) 0 0 0),(4,.ptr (st.length+2) 0 0 0),(5,.ptr (st.length+3) 0 0 0),(8,.ptr (st.length+6) 0 0 0)])
    (fun(gt0:Unit) (t0:Unit)=>st++[some (.arr 0 7 0 [[.int .i64 a0.form.kind,.str a0.form.name,.sl false 1 16 (rows Me a0.form.words),.sl false 4 72 (rows LZ.cells a0.form.subs),.sl false 1 16 (rows Me a0.words),.sl false 1 16 (rows Me a0.Mj),.sl false 1 16 (rows Me a0.parts)]]),some (.arr 0 1 0 [[.sl false 6 104 (rows Ma.cells a1)]]),some (.arr 0 4 0 [[.int .i64 0,.str [],.Mk,.Mk]]),some (.arr 0 2 0 [[.int .i64 0,.int .i64 0]]),none,none,some (.arr 0 1 0 [[.int .i64 (wr .i64 ((↑a0.words.length:Int)+(↑a0.Mj.length:Int)))]])])
    () fx hl0 h (bm hsc)
    (fun gs0 k0 s0 b0 fx h hx0=>?_) (fun gs0 s0=>?_) (fun gt0 t0 fr1 st1 h hb=>?_)
   ·unfold Pq at h
    refine ct ?_
    refine rn ?_
    obtain⟨fx,h⟩:=ck fx h
    refine dw [] 0 ?_
    refine cd h (fun hc h=>?_) fun hc h=>?_
    ·refine cl h (Mv _ _) fun v14 h=>?_
     refine ra ?_
     cases h
     refine OG ?_;have h:=congrArg some (hx0 _ rfl)
     refine rr ?_
     exact fo (.tup [.agg [.int .i64 0,.str [],.sl false 1 16 (rows Me []),.sl false 4 72 (rows LZ.cells [])],.agg [.int .i64 v14.code,.int .i64 v14.index]]) (.tup _ _ (.cons _ _ _ _ (.agg _ _ (.cons _ _ _ _ .s (.cons _ _ _ _ .s (.cons _ _ _ _ (.Mk _ _ _ (by decide)) (.cons _ _ _ _ (.Mk _ _ _ (by decide)) .nil))))) (.cons _ _ _ _ .s .nil)) rfl) h hsc
    ·refine rn ?_
     refine Sw (MQ n k0 a0 a1) b0 (fun(gj2:Unit) (j2:Bool)=>[(2,.ptr st.length 0 0 0),(3,.ptr (st.length+1) 0 0 0),(4,.ptr (st.length+2) 0 0 0),(5,.ptr (st.length+3) 0 0 0),(7,.sl false 1 16 (rows Me v5)),(8,.ptr (st.length+6) 0 0 0),(9,.int .i64 (↑k0:Int)),(10,.ptr (st.length+7) 0 0 0),(11,.bool (bif (decide ((wr .i64 ((↑a0.words.length:Int)+(↑a0.Mj.length:Int)))≤(↑k0:Int)))then(decide ((↑k0:Int)<(wr .i64 ((wr .i64 ((↑a0.words.length:Int)+(↑a0.Mj.length:Int)))+(↑a0.parts.length:Int)))))else false)),(47,.sl false 6 104 (rows Ma.cells a1)),(48,.int .i64 (↑a1.length:Int)),(49,.int .i64 (↑k0:Int)),(101,.bool j2)]) (fun(gj2:Unit) (j2:Bool)=>st++[some (.arr 0 7 0 [[.int .i64 a0.form.kind,.str a0.form.name,.sl false 1 16 (rows Me a0.form.words),.sl false 4 72 (rows LZ.cells a0.form.subs),.sl false 1 16 (rows Me a0.words),.sl false 1 16 (rows Me a0.Mj),.sl false 1 16 (rows Me a0.parts)]]),some (.arr 0 1 0 [[.sl false 6 104 (rows Ma.cells a1)]]),some (.arr 0 4 0 [[.int .i64 0,.str [],.Mk,.Mk]]),some (.arr 0 2 0 [[.int .i64 0,.int .i64 0]]),none,none,some (.arr 0 1 0 [[.int .i64 (wr .i64 ((↑a0.words.length:Int)+(↑a0.Mj.length:Int)))]]),some (.arr 0 6 0 [[.str ((get a1 k0).name),.str ((get a1 k0).text),.int .i64 ((get a1 k0).form.kind),.str ((get a1 k0).form.name),.sl false 1 16 (rows Me ((get a1 k0).form.words)),.sl false 4 72 (rows LZ.cells ((get a1 k0).form.subs))]])]) (fun gj2 j2 fr1 st1 h hb=>?_) (fun hj2=>?_)
     ·try simp only[go_sem,fx]
      unfold MQ at h
      refine Ql hb ?_
      refine cd h (fun hc h=>?_) fun hc h=>?_
      ·refine cl h (Mv _ _) fun v16 h=>?_
       refine ra ?_
       cases h
       refine OG ?_;have h:=congrArg some (hx0 _ rfl)
       refine rr ?_
       exact fo (.tup [.agg [.int .i64 0,.str [],.sl false 1 16 (rows Me []),.sl false 4 72 (rows LZ.cells [])],.agg [.int .i64 v16.code,.int .i64 v16.index]]) (.tup _ _ (.cons _ _ _ _ (.agg _ _ (.cons _ _ _ _ .s (.cons _ _ _ _ .s (.cons _ _ _ _ (.Mk _ _ _ (by decide)) (.cons _ _ _ _ (.Mk _ _ _ (by decide)) .nil))))) (.cons _ _ _ _ .s .nil)) rfl) h hsc
      ·refine cd h (fun hc h=>?_) fun hc h=>?_
       ·refine cl h (OZ n _) fun v17 h=>?_
        refine cd h (fun hc h=>?_) fun hc h=>?_
        ·refine cl h (Mv _ _) fun v18 h=>?_
         refine ra ?_
         cases h
         refine OG ?_;have h:=congrArg some (hx0 _ rfl)
         refine rr ?_
         exact fo (.tup [.agg [.int .i64 0,.str [],.sl false 1 16 (rows Me []),.sl false 4 72 (rows LZ.cells [])],.agg [.int .i64 v18.code,.int .i64 v18.index]]) (.tup _ _ (.cons _ _ _ _ (.agg _ _ (.cons _ _ _ _ .s (.cons _ _ _ _ .s (.cons _ _ _ _ (.Mk _ _ _ (by decide)) (.cons _ _ _ _ (.Mk _ _ _ (by decide)) .nil))))) (.cons _ _ _ _ .s .nil)) rfl) h hsc
        ·refine rn ?_
         cases h
         exact Um () (bm hsc)
       ·refine rn ?_
        cases h
        exact Um () (bm hsc)
     ·refine cd h (fun hc h=>?_) fun hc h=>?_
      ·refine r0 ?_
       refine hj2 () _ _ _ h ?_;exact(bm hsc)
      ·refine rn ?_
       obtain⟨v15,hv15,h⟩:=QJ h
       refine SZ (fun hG=>(UH _ _ (d3Z hv15 (by simpa using hG)))) ?_
       try simp only[go_sem,fx]
       refine hj2 () _ _ _ h ?_;exact(bm hsc)
   ·refine cf ?_
    refine Ud ?_;simp only[go_sem,fx]
    exact⟨(),(bm hsc)⟩
   ·try simp only[go_sem,fx]
    unfold Pr at h
    refine Ql hb ?_
    refine rn ?_
    obtain⟨v19,hv19,h⟩:=QJ h
    refine((VA n _ _ _ _ _ _ _ _ _ _ _ _ _ _ hv19 _ _ _ _ _ _ _ (by simp) (Ta.trans rfl) (Xv.trans rfl) (Xv.trans rfl) (Xv.trans rfl) (Xv.trans rfl) (Xv.trans rfl)).up (.cons _ _ _ _ .s (.cons _ _ _ _ .s (.cons _ _ _ _ (.Mk _ _ _ (by decide)) (.cons _ _ _ _ .s (.cons _ _ _ _ .s (.cons _ _ _ _ .s (.cons _ _ _ _ .s (.cons _ _ _ _ .s (.cons _ _ _ _ .s .nil))))))))) (by simp<;>omega)).mono ?_
    rintro d1 st1 ⟨rfl,rfl⟩
    refine cd h (fun hc h=>?_) fun hc h=>?_
    ·refine cl h (Mv _ _) fun v20 h=>?_
     refine rr ?_
     exact fo (.tup [.agg [.int .i64 0,.str [],.sl false 1 16 (rows Me []),.sl false 4 72 (rows LZ.cells [])],.agg [.int .i64 v20.code,.int .i64 v20.index]]) (.tup _ _ (.cons _ _ _ _ (.agg _ _ (.cons _ _ _ _ .s (.cons _ _ _ _ .s (.cons _ _ _ _ (.Mk _ _ _ (by decide)) (.cons _ _ _ _ (.Mk _ _ _ (by decide)) .nil))))) (.cons _ _ _ _ .s .nil)) rfl) h hsc
    ·refine cl h (RF n _) fun v21 h=>?_
     exact rt
theorem Qn(n:Nat)(a0:Mb)(a1:LZ)(r:Bool)(h:MH n a0 a1=some r):Pure Tryd.prog gl 6 [.agg [.int .i64 a0.form.kind,.str a0.form.name,.sl false 1 16 (rows Me a0.form.words),.sl false 4 72 (rows LZ.cells a0.form.subs),.sl false 1 16 (rows Me a0.words),.sl false 1 16 (rows Me a0.Mj),.sl false 1 16 (rows Me a0.parts)],.agg [.int .i64 a1.kind,.str a1.name,.sl false 1 16 (rows Me a1.words),.sl false 4 72 (rows LZ.cells a1.subs)]] (.bool r):=by
 intro st
 unfold MH at h
 have fx:=trivial
 refine fb 51 [.tmp 4] [0,1,2,3,4,5,6,7,8,9,10,12,24,25,26,42,43,44,47,48,49] Tryd.func6 fun hsc=>?_
 refine cl h (RI n) fun v1 h=>?_
 refine cd h (fun hc h=>?_) fun hc h=>?_
 ·exact rt
 ·refine cl h (Ul n _ _) fun v2 h=>?_
  refine cd h (fun hc h=>?_) fun hc h=>?_
  ·exact rt
  ·refine cl h (VQ n _ _) fun v3 h=>?_
   refine cl h (Wv n _) fun v4 h=>?_
   refine rn ?_
   obtain⟨v5,hv5,h⟩:=QJ h
   refine SZ (fun hG=>(OJ n _ _ _ (d3Z hv5 (by simpa using hG)))) ?_
   exact rt
end Go.Proofs.YtdjnbjnlnjhllaaDoor
