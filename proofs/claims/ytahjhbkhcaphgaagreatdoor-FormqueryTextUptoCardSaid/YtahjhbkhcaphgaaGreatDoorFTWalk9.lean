import Derived.Test.YtahjhbkhcaphgaaGreatDoorFTWalk7
import Derived.Test.YtahjhbkhcaphgaaGreatDoorFTWalk8
set_option linter.unusedVariables false
set_option linter.unusedSimpArgs false
set_option maxHeartbeats 2000000
set_option maxRecDepth 100000
namespace Go.Proofs.YtahjhbkhcaphgaaGreatDoor
open Go Go.Am
theorem oX(n:Nat)(a0:Bs)(r:u6×x6)(h:U7 n a0=some r):Pure Tryz.prog gl 28 [.str a0] (.tup [.agg [.int .i64 r.1.kind,.str r.1.name,.sl false 1 16 (rows w9 r.1.words),.sl false 4 72 (rows u6.cells r.1.subs)],.agg [.int .i64 r.2.code,.int .i64 r.2.index]]):=by
 intro st
 unfold U7 at h
 have fx:=trivial
 refine fb 58 [.cell 2 25,.cell 3 30] [0,2,3,4,5,8,25,26,27,28,29,30,31,32,33,49] Tryz.func28 fun hsc=>?_
 refine cd h (fun hc h=>?_) fun hc h=>?_
 ·refine rr ?_
  exact fo (.tup [.agg [.int .i64 0,.str [],.sl false 1 16 (rows w9 []),.sl false 4 72 (rows u6.cells [])],.agg [.int .i64 1,.int .i64 0]]) (.tup _ _ (.cons _ _ _ _ (.agg _ _ (.cons _ _ _ _ .s (.cons _ _ _ _ .s (.cons _ _ _ _ (.y5 _ _ _ (by decide)) (.cons _ _ _ _ (.y5 _ _ _ (by decide)) .nil))))) (.cons _ _ _ _ .s .nil)) rfl) h hsc
 ·refine rn ?_
  obtain⟨v1,hv1,h⟩:=M1 h
  refine(jw n _ _ _ _ _ _ _ hv1 _ _ (by simp) (lC.trans rfl)).mono ?_
  rintro d1 st1 ⟨rfl,rfl⟩
  refine rn ?_
  refine aF (S9 v1) r (fun(gj0:Unit) (j0:Int×Int)=>[(2,.ptr st.length 0 0 0),(3,.ptr (st.length+1) 0 0 0),(4,.ptr (st.length+2) 0 0 0),(5,.ptr (st.length+3) 0 0 0)]) (fun(gj0:Unit) (j0:Int×Int)=>st++[some (.arr 0 4 0 [[.int .i64 0,.str [],.y5,.y5]]),some (.arr 0 2 0 [[.int .i64 0,.int .i64 0]]),some (.arr 0 5 0 [[.str a0,.int .i64 v1.2.1,.int .i64 j0.1,.int .i64 j0.2,.int .i64 v1.2.2.2.2]]),some (.arr 0 4 0 [[.int .i64 v1.1.kind,.str v1.1.name,.sl false 1 16 (rows w9 v1.1.words),.sl false 4 72 (rows u6.cells v1.1.subs)]])]) (fun gj0 j0 fr1 st1 h hb=>?_) (fun hj0=>?_)
  ·try simp only[go_sem,fx]
   unfold S9 at h
   refine R6 hb ?_
   refine cd h (fun hc h=>?_) fun hc h=>?_
   ·refine rs ?_
    refine dw [5,6] 0 ?_
    try refine⟨by first|omega|(simp<;>omega),?_⟩
    refine rr ?_
    exact fo (.tup [.agg [.int .i64 0,.str [],.sl false 1 16 (rows w9 []),.sl false 4 72 (rows u6.cells [])],.agg [.int .i64 j0.1,.int .i64 j0.2]]) (.tup _ _ (.cons _ _ _ _ (.agg _ _ (.cons _ _ _ _ .s (.cons _ _ _ _ .s (.cons _ _ _ _ (.y5 _ _ _ (by decide)) (.cons _ _ _ _ (.y5 _ _ _ (by decide)) .nil))))) (.cons _ _ _ _ .s .nil)) rfl) h hsc
   ·exact rt
  ·refine cd h (fun hc h=>?_) fun hc h=>?_
   ·refine rs ?_
    refine dw [8] 0 ?_
    obtain⟨v2,hv2,h⟩:=M1 h
    refine gn [(st.length+2)] (fun st2 h2=>(F6 _ _ _ _ _ _ _ _ hv2 st2 _ (by simp) ((h2 _ (by simp)).trans (lC.trans rfl)))) (by simp) (by simp only[List.mem_cons,List.not_mem_nil,or_false,forall_eq_or_imp,forall_eq];exact⟨by first|omega|(simp<;>omega),_,(lC.trans rfl),Ob.noConfusion⟩) (by simp) ?_
    try simp only[go_sem,fx]
    try refine⟨by first|omega|(simp<;>omega),?_⟩
    refine hj0 () _ _ _ h ?_;exact(bm hsc)
   ·refine r0 ?_
    refine hj0 () _ _ _ h ?_;exact(bm hsc)
theorem gE(n:Nat)(a0:Bs)(r:w8×x6)(h:V0 n a0=some r):Pure Tryz.prog gl 7 [.str a0] (.tup [.agg [.int .i64 r.1.form.kind,.str r.1.form.name,.sl false 1 16 (rows w9 r.1.form.words),.sl false 4 72 (rows u6.cells r.1.form.subs),.sl false 1 16 (rows w9 r.1.words),.sl false 1 16 (rows w9 r.1.B1),.sl false 1 16 (rows w9 r.1.parts)],.agg [.int .i64 r.2.code,.int .i64 r.2.index]]):=by
 intro st
 unfold V0 at h
 have fx:=trivial
 refine fb 108 [.cell 2 27,.cell 3 30] [0,2,3,4,5,6,7,8,9,10,12,13,14,15,16,19,34,35,36,39,40,41,42,45,46,47,48,53,60,61,62,63,68,80,103] Tryz.func7 fun hsc=>?_
 refine cd h (fun hc h=>?_) fun hc h=>?_
 ·refine cl h (C7 _ _) fun v1 h=>?_
  refine rr ?_
  exact fo (.tup [.agg [.int .i64 0,.str [],.sl false 1 16 (rows w9 []),.sl false 4 72 (rows u6.cells []),.sl false 1 16 (rows w9 []),.sl false 1 16 (rows w9 []),.sl false 1 16 (rows w9 [])],.agg [.int .i64 v1.code,.int .i64 v1.index]]) (.tup _ _ (.cons _ _ _ _ (.agg _ _ (.cons _ _ _ _ .s (.cons _ _ _ _ .s (.cons _ _ _ _ (.y5 _ _ _ (by decide)) (.cons _ _ _ _ (.y5 _ _ _ (by decide)) (.cons _ _ _ _ (.y5 _ _ _ (by decide)) (.cons _ _ _ _ (.y5 _ _ _ (by decide)) (.cons _ _ _ _ (.y5 _ _ _ (by decide)) .nil)))))))) (.cons _ _ _ _ .s .nil)) rfl) h hsc
 ·refine cl h (FN _ _) fun v2 h=>?_
  refine cl h (ju _ _) fun v3 h=>?_
  refine cl h (tL _ _) fun v4 h=>?_
  refine rn ?_
  obtain⟨v5,hv5,h⟩:=M1 h
  refine bp (fun hG=>(kc _ _ _ (pE hv5 (by simpa using hG)))) ?_
  refine cd h (fun hc h=>?_) fun hc h=>?_
  ·refine cl h (C7 _ _) fun v6 h=>?_
   refine rr ?_
   exact fo (.tup [.agg [.int .i64 0,.str [],.sl false 1 16 (rows w9 []),.sl false 4 72 (rows u6.cells []),.sl false 1 16 (rows w9 []),.sl false 1 16 (rows w9 []),.sl false 1 16 (rows w9 [])],.agg [.int .i64 v6.code,.int .i64 v6.index]]) (.tup _ _ (.cons _ _ _ _ (.agg _ _ (.cons _ _ _ _ .s (.cons _ _ _ _ .s (.cons _ _ _ _ (.y5 _ _ _ (by decide)) (.cons _ _ _ _ (.y5 _ _ _ (by decide)) (.cons _ _ _ _ (.y5 _ _ _ (by decide)) (.cons _ _ _ _ (.y5 _ _ _ (by decide)) (.cons _ _ _ _ (.y5 _ _ _ (by decide)) .nil)))))))) (.cons _ _ _ _ .s .nil)) rfl) h hsc
  ·refine aln 45 fun hl0=>?_
   refine rng (body:=S1 v4) (kk:=aJ n v2) (n:=v4.length) (s0:=([],[],[]))
    (fun(gs0:Unit) (k0:Nat) (s0:(List Bs)×(List Bs)×(List Bs))=>[(2,.ptr st.length 0 0 0),(3,.ptr (st.length+1) 0 0 0),(4,.str v2.1),(5,.str v2.2.1),(8,.ptr (st.length+2) 0 0 0),(45,.sl false 1 16 (rows w9 v4)),(46,.int .i64 (↑v4.length:Int)),(47,.int .i64 (↑k0:Int))])
    (fun(gs0:Unit) (k0:Nat) (s0:(List Bs)×(List Bs)×(List Bs))=>st++[some (.arr 0 7 0 [[.int .i64 0,.str [],.y5,.y5,.y5,.y5,.y5]]),some (.arr 0 2 0 [[.int .i64 0,.int .i64 0]]),some (.arr 0 3 0 [[.sl false 1 16 (rows w9 s0.1),.sl false 1 16 (rows w9 s0.2.1),.sl false 1 16 (rows w9 s0.2.2)]])])
    (fun(gt0:Unit) (t0:(List Bs)×(List Bs)×(List Bs))=>[(2,.ptr st.length 0 0 0),(3,.ptr (st.length+1) 0 0 0),(4,.str v2.1),(5,.str v2.2.1),(8,.ptr (st.length+2) 0 0 0)])
    (fun(gt0:Unit) (t0:(List Bs)×(List Bs)×(List Bs))=>st++[some (.arr 0 7 0 [[.int .i64 0,.str [],.y5,.y5,.y5,.y5,.y5]]),some (.arr 0 2 0 [[.int .i64 0,.int .i64 0]]),some (.arr 0 3 0 [[.sl false 1 16 (rows w9 t0.1),.sl false 1 16 (rows w9 t0.2.1),.sl false 1 16 (rows w9 t0.2.2)]])])
    () fx hl0 h (bm hsc (hu:=(.lv (.lv (.live _ _ _ _ (.arr _ _ _ _ _ (.cons _ _ _ _ (.cons _ _ _ _ (.y5 _ _ _ (by decide)) (.cons _ _ _ _ (.y5 _ _ _ (by decide)) (.cons _ _ _ _ (.y5 _ _ _ (by decide)) .nil))) (.same _))) (.nil _))))))
    (fun gs0 k0 s0 b0 fx h hx0=>?_) (fun gs0 s0=>?_) (fun gt0 t0 fr1 st1 h hb=>?_)
   ·unfold S1 at h
    refine ct ?_
    refine cd h (fun hc h=>?_) fun hc h=>?_
    ·refine rn ?_
     cases h
     exact ig () (bm hsc)
    ·refine r0 ?_
     refine cl h (tL _ _) fun v18 h=>?_
     obtain⟨fx,h⟩:=ck fx h
     have fy:=(show k0*1=k0 from Nat.mul_one _)
     have fy:=fa fy (show k0≤2 from by omega)
     obtain⟨c22,OB,h⟩:=gG h
     have fy:=fa fy (show List.take k0 ([.sl false 1 16 (rows w9 s0.1),.sl false 1 16 (rows w9 s0.2.1),.sl false 1 16 (rows w9 s0.2.2)]:List D)++ .sl false 1 16 (rows w9 v18)::List.drop k0 ([.sl false 1 16 (rows w9 s0.2.1),.sl false 1 16 (rows w9 s0.2.2)]:List D)=[.sl false 1 16 (rows w9 (get c22 0)),.sl false 1 16 (rows w9 (get c22 1)),.sl false 1 16 (rows w9 (get c22 2))]from Cx (fun x=>D.sl false 1 16 (rows w9 x)) _ _ _ _ _ _ OB (by omega))
     try simp only[go_sem,fx,fy]
     have fy:=(show k0*1=k0 from Nat.mul_one _)
     have fy:=fa fy (show k0≤2 from by omega)
     have fy:=fa fy (show List.take 1 (List.drop k0 ([.sl false 1 16 (rows w9 (get c22 0)),.sl false 1 16 (rows w9 (get c22 1)),.sl false 1 16 (rows w9 (get c22 2))]:List D))=[.sl false 1 16 (rows w9 (get [(get c22 0),(get c22 1),(get c22 2)] k0))]from Cw (fun x=>D.sl false 1 16 (rows w9 x)) _ _ _ (by omega))
     refine r1 ?_
     refine aln 60 fun hl2=>?_
     refine rng (body:=X9 c22 k0) (kk:=aI c22) (n:=(get [(get c22 0),(get c22 1),(get c22 2)] k0).length) (s0:=())
      (fun(gs2:Unit) (k2:Nat) (s2:Unit)=>[(2,.ptr st.length 0 0 0),(3,.ptr (st.length+1) 0 0 0),(4,.str v2.1),(5,.str v2.2.1),(8,.ptr (st.length+2) 0 0 0),(45,.sl false 1 16 (rows w9 v4)),(46,.int .i64 (↑v4.length:Int)),(47,.int .i64 (↑k0:Int)),(60,.sl false 1 16 (rows w9 (get [(get c22 0),(get c22 1),(get c22 2)] k0))),(61,.int .i64 (↑((get [(get c22 0),(get c22 1),(get c22 2)] k0).length):Int)),(62,.int .i64 (↑k2:Int))])
      (fun(gs2:Unit) (k2:Nat) (s2:Unit)=>st++[some (.arr 0 7 0 [[.int .i64 0,.str [],.y5,.y5,.y5,.y5,.y5]]),some (.arr 0 2 0 [[.int .i64 0,.int .i64 0]]),some (.arr 0 3 0 [[.sl false 1 16 (rows w9 (get c22 0)),.sl false 1 16 (rows w9 (get c22 1)),.sl false 1 16 (rows w9 (get c22 2))]])])
      (fun(gt2:Unit) (t2:Unit)=>[(2,.ptr st.length 0 0 0),(3,.ptr (st.length+1) 0 0 0),(4,.str v2.1),(5,.str v2.2.1),(8,.ptr (st.length+2) 0 0 0),(45,.sl false 1 16 (rows w9 v4)),(46,.int .i64 (↑v4.length:Int)),(47,.int .i64 (↑k0:Int))])
      (fun(gt2:Unit) (t2:Unit)=>st++[some (.arr 0 7 0 [[.int .i64 0,.str [],.y5,.y5,.y5,.y5,.y5]]),some (.arr 0 2 0 [[.int .i64 0,.int .i64 0]]),some (.arr 0 3 0 [[.sl false 1 16 (rows w9 (get c22 0)),.sl false 1 16 (rows w9 (get c22 1)),.sl false 1 16 (rows w9 (get c22 2))]])])
      () fx hl2 h (bm hsc)
      (fun gs2 k2 s2 b2 fx h hx2=>?_) (fun gs2 s2=>?_) (fun gt2 t2 fr1 st1 h hb=>?_)
     ·unfold X9 at h
      refine ct ?_
      refine cl h (eW _) fun v27 h=>?_
      refine cd h (fun hc h=>?_) fun hc h=>?_
      ·refine cl h (C7 _ _) fun v28 h=>?_
       refine ra ?_
       cases h
       refine X8 ?_;obtain rfl:=hx2 _ rfl;try simp only[go_sem,fx]
       refine X8 ?_;have h:=congrArg some (hx0 _ rfl)
       refine rr ?_
       exact fo (.tup [.agg [.int .i64 0,.str [],.sl false 1 16 (rows w9 []),.sl false 4 72 (rows u6.cells []),.sl false 1 16 (rows w9 []),.sl false 1 16 (rows w9 []),.sl false 1 16 (rows w9 [])],.agg [.int .i64 v28.code,.int .i64 v28.index]]) (.tup _ _ (.cons _ _ _ _ (.agg _ _ (.cons _ _ _ _ .s (.cons _ _ _ _ .s (.cons _ _ _ _ (.y5 _ _ _ (by decide)) (.cons _ _ _ _ (.y5 _ _ _ (by decide)) (.cons _ _ _ _ (.y5 _ _ _ (by decide)) (.cons _ _ _ _ (.y5 _ _ _ (by decide)) (.cons _ _ _ _ (.y5 _ _ _ (by decide)) .nil)))))))) (.cons _ _ _ _ .s .nil)) rfl) h hsc
      ·refine rn ?_
       cases h
       exact ig () (bm hsc)
     ·refine cf ?_
      refine gO ?_;simp only[go_sem,fx]
      exact⟨(),(bm hsc)⟩
     ·try simp only[go_sem,fx]
      unfold aI at h
      refine R6 hb ?_
      refine rn ?_
      cases h
      exact ig () (bm hsc)
   ·refine cf ?_
    refine gO ?_;simp only[go_sem,fx]
    exact⟨(),(bm hsc)⟩
   ·try simp only[go_sem,fx]
    unfold aJ at h
    refine R6 hb ?_
    refine cl h (oX n _) fun v29 h=>?_
    refine cd h (fun hc h=>?_) fun hc h=>?_
    ·refine cl h (C7 _ _) fun v30 h=>?_
     refine rr ?_
     exact fo (.tup [.agg [.int .i64 0,.str [],.sl false 1 16 (rows w9 []),.sl false 4 72 (rows u6.cells []),.sl false 1 16 (rows w9 []),.sl false 1 16 (rows w9 []),.sl false 1 16 (rows w9 [])],.agg [.int .i64 v30.code,.int .i64 v30.index]]) (.tup _ _ (.cons _ _ _ _ (.agg _ _ (.cons _ _ _ _ .s (.cons _ _ _ _ .s (.cons _ _ _ _ (.y5 _ _ _ (by decide)) (.cons _ _ _ _ (.y5 _ _ _ (by decide)) (.cons _ _ _ _ (.y5 _ _ _ (by decide)) (.cons _ _ _ _ (.y5 _ _ _ (by decide)) (.cons _ _ _ _ (.y5 _ _ _ (by decide)) .nil)))))))) (.cons _ _ _ _ .s .nil)) rfl) h hsc
    ·refine cl h (X7 n _) fun v31 h=>?_
     refine cd h (fun hc h=>?_) fun hc h=>?_
     ·refine rs ?_
      refine dw [1,2] 0 ?_
      try refine⟨by first|omega|(simp<;>omega),?_⟩
      refine rr ?_
      exact fo (.tup [.agg [.int .i64 0,.str [],.sl false 1 16 (rows w9 []),.sl false 4 72 (rows u6.cells []),.sl false 1 16 (rows w9 []),.sl false 1 16 (rows w9 []),.sl false 1 16 (rows w9 [])],.agg [.int .i64 v31.code,.int .i64 v31.index]]) (.tup _ _ (.cons _ _ _ _ (.agg _ _ (.cons _ _ _ _ .s (.cons _ _ _ _ .s (.cons _ _ _ _ (.y5 _ _ _ (by decide)) (.cons _ _ _ _ (.y5 _ _ _ (by decide)) (.cons _ _ _ _ (.y5 _ _ _ (by decide)) (.cons _ _ _ _ (.y5 _ _ _ (by decide)) (.cons _ _ _ _ (.y5 _ _ _ (by decide)) .nil)))))))) (.cons _ _ _ _ .s .nil)) rfl) h hsc
     ·exact rt
theorem gF(n:Nat)(a0:u6)(r:Bool)(h:J2 n a0=some r):Pure Tryz.prog gl 10 [.agg [.int .i64 a0.kind,.str a0.name,.sl false 1 16 (rows w9 a0.words),.sl false 4 72 (rows u6.cells a0.subs)]] (.bool r):=by
 intro st
 unfold J2 at h
 have fx:=trivial
 refine fb 6 [.tmp 2] [0,1,2] Tryz.func10 fun hsc=>?_
 refine cl h (up (L2 n _ _) (fun _=>(.cons _ _ _ _ .s (.cons _ _ _ _ (.agg _ _ (.cons _ _ _ _ .s (.cons _ _ _ _ .s (.cons _ _ _ _ (.y5 _ _ _ (by decide)) (.cons _ _ _ _ (.y5 _ _ _ (by decide)) .nil))))) .nil)))) fun v1 h=>?_
 exact rt
theorem cB(n:Nat)(a0:w8)(a1:Bs)(r:Bool)(h:J7 n a0 a1=some r):Pure Tryz.prog gl 3 [.agg [.int .i64 a0.form.kind,.str a0.form.name,.sl false 1 16 (rows w9 a0.form.words),.sl false 4 72 (rows u6.cells a0.form.subs),.sl false 1 16 (rows w9 a0.words),.sl false 1 16 (rows w9 a0.B1),.sl false 1 16 (rows w9 a0.parts)],.str a1] (.bool r):=by
 intro st
 unfold J7 at h
 have fx:=trivial
 refine fb 118 [.tmp 4] [0,1,2,4,5,6,7,8,9,10,12,22,27,28,29,32,42,43,44,45,46,47,50,51,52,53,54,55,58,59,60,61,62,63,66,67,68,69,70,71,72,75,83,88,89,90,91,94,95,96,97,100,101,102,103,114,115,116] Tryz.func3 fun hsc=>?_
 refine cl h (bY n) fun v1 h=>?_
 refine cd h (fun hc h=>?_) fun hc h=>?_
 ·exact rt
 ·refine cl h (gC n _) fun v2 h=>?_
  refine cl h (dJ n _) fun v3 h=>?_
  refine rn ?_
  refine aF (B6 n a1) r (fun(gj0:Unit) (j0:Unit)=>[(1,.str a1),(6,.ptr (st.length+1) 0 0 0)]) (fun(gj0:Unit) (j0:Unit)=>st++[none,some (.arr 0 2 0 [[.int .i64 v2.2.code,.int .i64 v2.2.index]])]) (fun gj0 j0 fr1 st1 h hb=>?_) (fun hj0=>?_)
  ·try simp only[go_sem,fx]
   unfold B6 at h
   refine R6 hb ?_
   refine cl h (gE n _) fun v9 h=>?_
   refine cd h (fun hc h=>?_) fun hc h=>?_
   ·refine cl h (gF n _) fun v10 h=>?_
    exact rt
   ·refine cl h (gC n _) fun v11 h=>?_
    exact rt
  ·refine cd h (fun hc h=>?_) fun hc h=>?_
   ·refine cd h (fun hc h=>?_) fun hc h=>?_
    ·exact rt
    ·refine r0 ?_
     refine hj0 () _ _ _ h ?_;exact(bm hsc)
   ·refine cd h (fun hc h=>?_) fun hc h=>?_
    ·refine cl h (gE n _) fun v4 h=>?_
     refine rn ?_
     obtain⟨v5,hv5,h⟩:=M1 h
     refine bp (fun hG=>(L2 n _ _ _ (pE hv5 (by simpa using hG)))) ?_
     refine rn ?_
     obtain⟨v6,hv6,h⟩:=M1 h
     refine bp (fun hG=>(K3 n _ _ _ (pE hv6 (by simpa using hG)))) ?_
     refine rn ?_
     obtain⟨v7,hv7,h⟩:=M1 h
     refine bp (fun hG=>(K3 n _ _ _ (pE hv7 (by simpa using hG)))) ?_
     refine rn ?_
     obtain⟨v8,hv8,h⟩:=M1 h
     refine bp (fun hG=>(K3 n _ _ _ (pE hv8 (by simpa using hG)))) ?_
     refine cd h (fun hc h=>?_) fun hc h=>?_
     ·exact rt
     ·refine r0 ?_
      refine hj0 () _ _ _ h ?_;exact(bm hsc)
    ·refine cd h (fun hc h=>?_) fun hc h=>?_
     ·exact rt
     ·refine r0 ?_
      refine hj0 () _ _ _ h ?_;exact(bm hsc)
end Go.Proofs.YtahjhbkhcaphgaaGreatDoor
