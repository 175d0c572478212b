import Derived.Test.YtfacbpehlibilaaGreatDoorTZWalk9
set_option linter.unusedVariables false
set_option linter.unusedSimpArgs false
set_option maxHeartbeats 2000000
set_option maxRecDepth 100000
namespace Go.Proofs.YtfacbpehlibilaaGreatDoor
open Go Go.Am
theorem fj:∀(n:Nat) (a0:u5) (a1:Bs) (a2:Int) (r:Bool) (h:H6 n a0 a1 a2=some r),Pure Tryz.prog gl 25 [.agg [.int .i64 a0.kind,.str a0.name,.sl false 1 16 (rows w7 a0.words),.sl false 4 72 (rows u5.cells a0.subs)],.str a1,.int .i64 a2] (.bool r):=by
 intro n
 induction n with
 |zero=>intro a0 a1 a2 r h;cases h
 |succ n ih=>
  intro a0 a1 a2 r h st
  unfold H6 at h
  have fx:=trivial
  refine fb 39 [.tmp 6] [0,1,2,3,6,7,12,13,14,15,18,19,20,21,22,23,28,38] Tryz.func25 fun hsc=>?_
  refine cd h (fun hc h=>?_) fun hc h=>?_
  ·exact rt
  ·refine rn ?_
   refine eD (body:=N4 (H6 n) a0 a1 a2) (kk:=T5) (n:=n) (s0:=0)
    (fun(gs0:Unit) (s0:Int)=>[(1,.str a1),(2,.int .i64 a2),(3,.ptr st.length 0 0 0),(7,.int .i64 s0)])
    (fun(gs0:Unit) (s0:Int)=>st++[some (.arr 0 4 0 [[.int .i64 a0.kind,.str a0.name,.sl false 1 16 (rows w7 a0.words),.sl false 4 72 (rows u5.cells a0.subs)]])])
    (fun(gt0:Unit) (t0:Unit)=>[])
    (fun(gt0:Unit) (t0:Unit)=>st)
    () h (bm hsc)
    (fun gs0 s0 b0 h hx0=>?_) (fun gt0 t0 fr1 st1 h hb=>?_)
   ·unfold N4 at h
    refine cd h (fun hc h=>?_) fun hc h=>?_
    ·obtain⟨fx,h⟩:=ck fx h
     refine cl h (ih _ _ _) fun v5 h=>?_
     refine cd h (fun hc h=>?_) fun hc h=>?_
     ·refine ra ?_
      cases h
      refine oS ?_;have h:=congrArg some (hx0 _ rfl)
      exact rt
     ·refine rn ?_
      cases h
      exact jT () (bm hsc)
    ·refine rn ?_
     cases h
     exact jU () (bm0 hsc)
   ·try simp only[go_sem,fx]
    unfold T5 at h
    refine Q9 hb ?_
    exact rt
theorem cD(n:Nat)(a0:Bs)(a1:Bs)(a2:Int)(a3:u5)(r:Bool)(h:G3 n a0 a1 a2 a3=some r):Pure Tryz.prog gl 9 [.str a0,.str a1,.int .i64 a2,.agg [.int .i64 a3.kind,.str a3.name,.sl false 1 16 (rows w7 a3.words),.sl false 4 72 (rows u5.cells a3.subs)]] (.bool r):=by
 intro st
 unfold G3 at h
 have fx:=trivial
 refine fb 94 [.tmp 8] [0,1,2,3,7,8,9,10,11,12,13,14,15,16,17,19,43,44,45,48,49,50,53,54,55,56,57,69,70,71,72,73,74,75,76,77,78,90,91,92] Tryz.func9 fun hsc=>?_
 refine cl h (P4 n) fun v1 h=>?_
 refine cd h (fun hc h=>?_) fun hc h=>?_
 ·exact rt
 ·refine cl h (fq n _ _ _) fun v2 h=>?_
  refine cl h (fq n _ _ _) fun v3 h=>?_
  refine cl h (iK n _) fun v4 h=>?_
  refine rn ?_
  obtain⟨v5,hv5,h⟩:=P8 h
  refine aV (fun hG=>(fj n _ _ _ _ (qj hv5 (by simpa using hG)))) ?_
  refine cd h (fun hc h=>?_) fun hc h=>?_
  ·exact rt
  ·refine rn ?_
   obtain⟨v7,hv7,h⟩:=P8 h
   refine((W4 n _ _ _ hv7).freeze (st:=st++[some (.arr 0 4 0 [[.int .i64 a3.kind,.str a3.name,.sl false 1 16 (rows w7 a3.words),.sl false 4 72 (rows u5.cells a3.subs)]]),some (.arr 0 11 0 [[.int .i64 v2.1.from_.form.kind,.str v2.1.from_.form.name,.sl false 1 16 (rows w7 v2.1.from_.form.words),.sl false 4 72 (rows u5.cells v2.1.from_.form.subs),.sl false 1 16 (rows w7 v2.1.from_.words),.sl false 1 16 (rows w7 v2.1.from_.C4),.sl false 1 16 (rows w7 v2.1.from_.parts),.int .i64 v2.1.to_.kind,.str v2.1.to_.name,.sl false 1 16 (rows w7 v2.1.to_.words),.sl false 4 72 (rows u5.cells v2.1.to_.subs)]]),some (.arr 0 2 0 [[.int .i64 v2.2.code,.int .i64 v2.2.index]]),some (.arr 0 11 0 [[.int .i64 v3.1.from_.form.kind,.str v3.1.from_.form.name,.sl false 1 16 (rows w7 v3.1.from_.form.words),.sl false 4 72 (rows u5.cells v3.1.from_.form.subs),.sl false 1 16 (rows w7 v3.1.from_.words),.sl false 1 16 (rows w7 v3.1.from_.C4),.sl false 1 16 (rows w7 v3.1.from_.parts),.int .i64 v3.1.to_.kind,.str v3.1.to_.name,.sl false 1 16 (rows w7 v3.1.to_.words),.sl false 4 72 (rows u5.cells v3.1.to_.subs)]]),some (.arr 0 2 0 [[.int .i64 v3.2.code,.int .i64 v3.2.index]]),some (.arr 0 4 0 [[.int .i64 v4.1.kind,.str v4.1.name,.sl false 1 16 (rows w7 v4.1.words),.sl false 4 72 (rows u5.cells v4.1.subs)]]),some (.arr 0 2 0 [[.int .i64 v4.2.code,.int .i64 v4.2.index]]),some (.arr 0 11 216 [[.int .i64 v2.1.from_.form.kind,.str v2.1.from_.form.name,.sl false 1 16 (rows w7 v2.1.from_.form.words),.sl false 4 72 (rows u5.cells v2.1.from_.form.subs),.sl false 1 16 (rows w7 v2.1.from_.words),.sl false 1 16 (rows w7 v2.1.from_.C4),.sl false 1 16 (rows w7 v2.1.from_.parts),.int .i64 v2.1.to_.kind,.str v2.1.to_.name,.sl false 1 16 (rows w7 v2.1.to_.words),.sl false 4 72 (rows u5.cells v2.1.to_.subs)]])]) (args:=[.ref true (st.length+7) 0 0 1,.agg [.int .i64 a3.kind,.str a3.name,.sl false 1 16 (rows w7 a3.words),.sl false 4 72 (rows u5.cells a3.subs)]]) (T:=st++[some (.arr 0 4 0 [[.int .i64 a3.kind,.str a3.name,.sl false 1 16 (rows w7 a3.words),.sl false 4 72 (rows u5.cells a3.subs)]]),some (.arr 0 11 0 [[.int .i64 v2.1.from_.form.kind,.str v2.1.from_.form.name,.sl false 1 16 (rows w7 v2.1.from_.form.words),.sl false 4 72 (rows u5.cells v2.1.from_.form.subs),.sl false 1 16 (rows w7 v2.1.from_.words),.sl false 1 16 (rows w7 v2.1.from_.C4),.sl false 1 16 (rows w7 v2.1.from_.parts),.int .i64 v2.1.to_.kind,.str v2.1.to_.name,.sl false 1 16 (rows w7 v2.1.to_.words),.sl false 4 72 (rows u5.cells v2.1.to_.subs)]]),some (.arr 0 2 0 [[.int .i64 v2.2.code,.int .i64 v2.2.index]]),some (.arr 0 11 0 [[.int .i64 v3.1.from_.form.kind,.str v3.1.from_.form.name,.sl false 1 16 (rows w7 v3.1.from_.form.words),.sl false 4 72 (rows u5.cells v3.1.from_.form.subs),.sl false 1 16 (rows w7 v3.1.from_.words),.sl false 1 16 (rows w7 v3.1.from_.C4),.sl false 1 16 (rows w7 v3.1.from_.parts),.int .i64 v3.1.to_.kind,.str v3.1.to_.name,.sl false 1 16 (rows w7 v3.1.to_.words),.sl false 4 72 (rows u5.cells v3.1.to_.subs)]]),some (.arr 0 2 0 [[.int .i64 v3.2.code,.int .i64 v3.2.index]]),some (.arr 0 4 0 [[.int .i64 v4.1.kind,.str v4.1.name,.sl false 1 16 (rows w7 v4.1.words),.sl false 4 72 (rows u5.cells v4.1.subs)]]),some (.arr 0 2 0 [[.int .i64 v4.2.code,.int .i64 v4.2.index]]),none]) (sj hsc (.lv (.lv (.lv (.lv (.lv (.lv (.lv (.dead _ _ _ (.nil _))))))))) (by simp)) (by simp) (.cons _ _ _ _ (.ref _ _ _ _ _ _ _ _ _ (oD.trans rfl) (jm.trans rfl) (by decide) (by simp[Imm,D.imm]) (by simp only[go_sem,rows,List.map_cons,List.map_nil])) (.cons _ _ _ _ .s .nil)) (by simp) ?_)
   refine rn ?_
   obtain⟨v8,hv8,h⟩:=P8 h
   refine aV (fun hG=>(fj n _ _ _ _ (qj hv8 (by simpa using hG)))) ?_
   refine cd h (fun hc h=>?_) fun hc h=>?_
   ·exact rt
   ·refine rn ?_
    obtain⟨v10,hv10,h⟩:=P8 h
    refine((W4 n _ _ _ hv10).freeze (st:=st++[some (.arr 0 4 0 [[.int .i64 a3.kind,.str a3.name,.sl false 1 16 (rows w7 a3.words),.sl false 4 72 (rows u5.cells a3.subs)]]),some (.arr 0 11 0 [[.int .i64 v2.1.from_.form.kind,.str v2.1.from_.form.name,.sl false 1 16 (rows w7 v2.1.from_.form.words),.sl false 4 72 (rows u5.cells v2.1.from_.form.subs),.sl false 1 16 (rows w7 v2.1.from_.words),.sl false 1 16 (rows w7 v2.1.from_.C4),.sl false 1 16 (rows w7 v2.1.from_.parts),.int .i64 v2.1.to_.kind,.str v2.1.to_.name,.sl false 1 16 (rows w7 v2.1.to_.words),.sl false 4 72 (rows u5.cells v2.1.to_.subs)]]),some (.arr 0 2 0 [[.int .i64 v2.2.code,.int .i64 v2.2.index]]),some (.arr 0 11 0 [[.int .i64 v3.1.from_.form.kind,.str v3.1.from_.form.name,.sl false 1 16 (rows w7 v3.1.from_.form.words),.sl false 4 72 (rows u5.cells v3.1.from_.form.subs),.sl false 1 16 (rows w7 v3.1.from_.words),.sl false 1 16 (rows w7 v3.1.from_.C4),.sl false 1 16 (rows w7 v3.1.from_.parts),.int .i64 v3.1.to_.kind,.str v3.1.to_.name,.sl false 1 16 (rows w7 v3.1.to_.words),.sl false 4 72 (rows u5.cells v3.1.to_.subs)]]),some (.arr 0 2 0 [[.int .i64 v3.2.code,.int .i64 v3.2.index]]),some (.arr 0 4 0 [[.int .i64 v4.1.kind,.str v4.1.name,.sl false 1 16 (rows w7 v4.1.words),.sl false 4 72 (rows u5.cells v4.1.subs)]]),some (.arr 0 2 0 [[.int .i64 v4.2.code,.int .i64 v4.2.index]]),none,some (.arr 0 4 0 [[.int .i64 v7.1.kind,.str v7.1.name,.sl false 1 16 (rows w7 v7.1.words),.sl false 4 72 (rows u5.cells v7.1.subs)]]),some (.arr 0 2 0 [[.int .i64 v7.2.code,.int .i64 v7.2.index]]),some (.arr 0 11 216 [[.int .i64 v3.1.from_.form.kind,.str v3.1.from_.form.name,.sl false 1 16 (rows w7 v3.1.from_.form.words),.sl false 4 72 (rows u5.cells v3.1.from_.form.subs),.sl false 1 16 (rows w7 v3.1.from_.words),.sl false 1 16 (rows w7 v3.1.from_.C4),.sl false 1 16 (rows w7 v3.1.from_.parts),.int .i64 v3.1.to_.kind,.str v3.1.to_.name,.sl false 1 16 (rows w7 v3.1.to_.words),.sl false 4 72 (rows u5.cells v3.1.to_.subs)]])]) (args:=[.ref true (st.length+10) 0 0 1,.agg [.int .i64 v7.1.kind,.str v7.1.name,.sl false 1 16 (rows w7 v7.1.words),.sl false 4 72 (rows u5.cells v7.1.subs)]]) (T:=st++[some (.arr 0 4 0 [[.int .i64 a3.kind,.str a3.name,.sl false 1 16 (rows w7 a3.words),.sl false 4 72 (rows u5.cells a3.subs)]]),some (.arr 0 11 0 [[.int .i64 v2.1.from_.form.kind,.str v2.1.from_.form.name,.sl false 1 16 (rows w7 v2.1.from_.form.words),.sl false 4 72 (rows u5.cells v2.1.from_.form.subs),.sl false 1 16 (rows w7 v2.1.from_.words),.sl false 1 16 (rows w7 v2.1.from_.C4),.sl false 1 16 (rows w7 v2.1.from_.parts),.int .i64 v2.1.to_.kind,.str v2.1.to_.name,.sl false 1 16 (rows w7 v2.1.to_.words),.sl false 4 72 (rows u5.cells v2.1.to_.subs)]]),some (.arr 0 2 0 [[.int .i64 v2.2.code,.int .i64 v2.2.index]]),some (.arr 0 11 0 [[.int .i64 v3.1.from_.form.kind,.str v3.1.from_.form.name,.sl false 1 16 (rows w7 v3.1.from_.form.words),.sl false 4 72 (rows u5.cells v3.1.from_.form.subs),.sl false 1 16 (rows w7 v3.1.from_.words),.sl false 1 16 (rows w7 v3.1.from_.C4),.sl false 1 16 (rows w7 v3.1.from_.parts),.int .i64 v3.1.to_.kind,.str v3.1.to_.name,.sl false 1 16 (rows w7 v3.1.to_.words),.sl false 4 72 (rows u5.cells v3.1.to_.subs)]]),some (.arr 0 2 0 [[.int .i64 v3.2.code,.int .i64 v3.2.index]]),some (.arr 0 4 0 [[.int .i64 v4.1.kind,.str v4.1.name,.sl false 1 16 (rows w7 v4.1.words),.sl false 4 72 (rows u5.cells v4.1.subs)]]),some (.arr 0 2 0 [[.int .i64 v4.2.code,.int .i64 v4.2.index]]),none,some (.arr 0 4 0 [[.int .i64 v7.1.kind,.str v7.1.name,.sl false 1 16 (rows w7 v7.1.words),.sl false 4 72 (rows u5.cells v7.1.subs)]]),some (.arr 0 2 0 [[.int .i64 v7.2.code,.int .i64 v7.2.index]]),none]) (sj hsc (.lv (.lv (.lv (.lv (.lv (.lv (.lv (.dead _ _ _ (.lv (.lv (.dead _ _ _ (.nil _)))))))))))) (by simp)) (by simp) (.cons _ _ _ _ (.ref _ _ _ _ _ _ _ _ _ (oD.trans rfl) (jm.trans rfl) (by decide) (by simp[Imm,D.imm]) (by simp only[go_sem,rows,List.map_cons,List.map_nil])) (.cons _ _ _ _ .s .nil)) (by simp) ?_)
    refine rn ?_
    obtain⟨v11,hv11,h⟩:=P8 h
    refine aV (fun hG=>(G2 n _ _ _ (qj hv11 (by simpa using hG)))) ?_
    exact rt
theorem cV(n:Nat)(a0:(List u6))(a1:Int)(a2:u5)(a3:u5)(r:Bool)(h:I0 n a0 a1 a2 a3=some r):Pure Tryz.prog gl 7 [.sl false 11 216 (rows u6.cells a0),.int .i64 a1,.agg [.int .i64 a2.kind,.str a2.name,.sl false 1 16 (rows w7 a2.words),.sl false 4 72 (rows u5.cells a2.subs)],.agg [.int .i64 a3.kind,.str a3.name,.sl false 1 16 (rows w7 a3.words),.sl false 4 72 (rows u5.cells a3.subs)]] (.bool r):=by
 intro st
 unfold I0 at h
 have fx:=trivial
 refine fb 94 [.tmp 8] [0,1,2,3,6,7,8,9,10,11,12,13,14,15,16,17,19,23,33,37,38,41,42,43,69,70,71,74,75,76,77,90,91,92] Tryz.func7 fun hsc=>?_
 refine cl h (P4 n) fun v1 h=>?_
 refine cd h (fun hc h=>?_) fun hc h=>?_
 ·exact rt
 ·refine rn ?_
  refine eD (body:=E6 a0) (kk:=G1 n a1 a0 a2 a3) (n:=n) (s0:=0)
   (fun(gs0:Unit) (s0:Int)=>[(0,.sl false 11 216 (rows u6.cells a0)),(1,.int .i64 a1),(6,.ptr st.length 0 0 0),(7,.ptr (st.length+1) 0 0 0),(9,.int .i64 s0)])
   (fun(gs0:Unit) (s0:Int)=>st++[some (.arr 0 4 0 [[.int .i64 a2.kind,.str a2.name,.sl false 1 16 (rows w7 a2.words),.sl false 4 72 (rows u5.cells a2.subs)]]),some (.arr 0 4 0 [[.int .i64 a3.kind,.str a3.name,.sl false 1 16 (rows w7 a3.words),.sl false 4 72 (rows u5.cells a3.subs)]])])
   (fun(gt0:Unit) (t0:Unit)=>[(0,.sl false 11 216 (rows u6.cells a0)),(1,.int .i64 a1),(6,.ptr st.length 0 0 0),(7,.ptr (st.length+1) 0 0 0)])
   (fun(gt0:Unit) (t0:Unit)=>st++[some (.arr 0 4 0 [[.int .i64 a2.kind,.str a2.name,.sl false 1 16 (rows w7 a2.words),.sl false 4 72 (rows u5.cells a2.subs)]]),some (.arr 0 4 0 [[.int .i64 a3.kind,.str a3.name,.sl false 1 16 (rows w7 a3.words),.sl false 4 72 (rows u5.cells a3.subs)]])])
   () h (bm hsc)
   (fun gs0 s0 b0 h hx0=>?_) (fun gt0 t0 fr1 st1 h hb=>?_)
  ·unfold E6 at h
   refine cd h (fun hc h=>?_) fun hc h=>?_
   ·obtain⟨fx,h⟩:=ck fx h
    refine cd h (fun hc h=>?_) fun hc h=>?_
    ·refine ra ?_
     cases h
     refine oS ?_;have h:=congrArg some (hx0 _ rfl)
     exact rt
    ·refine rn ?_
     cases h
     exact jT () (bm hsc)
   ·refine rn ?_
    cases h
    exact jU () (bm hsc)
  ·try simp only[go_sem,fx]
   unfold G1 at h
   refine Q9 hb ?_
   refine cd h (fun hc h=>?_) fun hc h=>?_
   ·exact rt
   ·refine cl h (W4 n _ _) fun v5 h=>?_
    refine cl h (W4 n _ _) fun v6 h=>?_
    refine cl h (V5 _ _ _) fun v7 h=>?_
    refine cl h (W4 n _ _) fun v8 h=>?_
    refine cd h (fun hc h=>?_) fun hc h=>?_
    ·exact rt
    ·refine cl h (V5 _ _ _) fun v9 h=>?_
     refine cl h (iK n _) fun v10 h=>?_
     refine rn ?_
     obtain⟨v11,hv11,h⟩:=P8 h
     refine aV (fun hG=>(G2 n _ _ _ (qj hv11 (by simpa using hG)))) ?_
     exact rt
theorem ft(n:Nat)(a0:Bs)(r:Bool)(h:N6 n a0=some r):Pure Tryz.prog gl 22 [.str a0] (.bool r):=by
 intro st
 unfold N6 at h
 have fx:=trivial
 refine fb 51 [.tmp 2] [0,2,3,4,5,9,18,19,22,23,24,25,26,27,28,29,30,31,32,33,34,35,36,37,38,39,42,47,48,49] Tryz.func22 fun hsc=>?_
 refine rn ?_
 refine eD (body:=N2 a0) (kk:=T3 a0) (n:=n) (s0:=0)
  (fun(gs0:Unit) (s0:Int)=>[(0,.str a0),(3,.int .i64 s0)])
  (fun(gs0:Unit) (s0:Int)=>st)
  (fun(gt0:Unit) (t0:Unit)=>[(0,.str a0)])
  (fun(gt0:Unit) (t0:Unit)=>st)
  () h (nM hsc)
  (fun gs0 s0 b0 h hx0=>?_) (fun gt0 t0 fr1 st1 h hb=>?_)
 ·unfold N2 at h
  refine cd h (fun hc h=>?_) fun hc h=>?_
  ·obtain⟨fx,h⟩:=ck fx h
   refine cd h (fun hc h=>?_) fun hc h=>?_
   ·refine ra ?_
    cases h
    refine oS ?_;have h:=congrArg some (hx0 _ rfl)
    exact rt
   ·refine rn ?_
    cases h
    exact jT () (nM hsc)
  ·refine rn ?_
   cases h
   exact jU () (nM hsc)
 ·try simp only[go_sem,fx]
  unfold T3 at h
  refine Q9 hb ?_
  exact rt
theorem dW(n:Nat)(a0:u5)(r:Bool)(h:L7 n a0=some r):Pure Tryz.prog gl 16 [.agg [.int .i64 a0.kind,.str a0.name,.sl false 1 16 (rows w7 a0.words),.sl false 4 72 (rows u5.cells a0.subs)]] (.bool r):=by
 intro st
 unfold L7 at h
 have fx:=trivial
 refine fb 6 [.tmp 2] [0,1,2] Tryz.func16 fun hsc=>?_
 refine cl h (up (G2 n _ _) (fun _=>(.cons _ _ _ _ .s (.cons _ _ _ _ (.agg _ _ (.cons _ _ _ _ .s (.cons _ _ _ _ .s (.cons _ _ _ _ (.A9 _ _ _ (by decide)) (.cons _ _ _ _ (.A9 _ _ _ (by decide)) .nil))))) .nil)))) fun v1 h=>?_
 exact rt
theorem aR(n:Nat)(a0:Bs)(a1:Bs)(a2:Int)(r:Bool)(h:F1 n a0 a1 a2=some r):Pure Tryz.prog gl 8 [.str a0,.str a1,.int .i64 a2] (.bool r):=by
 intro st
 unfold F1 at h
 have fx:=trivial
 refine Ik ?_;refine fb 116 [.tmp 6] [0,1,2,6,7,8,9,10,11,13,24,28,33,34,35,39,44,45,46,49,50,51,52,55,56,57,58,59,64,79,80,81,82,83,84,85,88,89,90,91,92,93,96,97,98,99,100,103,104,105,106,107,110,111,112,113,114] Tryz.func8 fun hsc=>?_
 refine rn ?_
 obtain⟨v1,hv1,h⟩:=P8 h
 refine(eI (P4 n _ hv1)).to ?_
 refine cd h (fun hc h=>?_) fun hc h=>?_
 ·exact rt
 ·refine rn ?_
  obtain⟨v2,hv2,h⟩:=P8 h
  refine(eI (fq n _ _ _ _ hv2)).to ?_
  refine rn ?_
  obtain⟨v3,hv3,h⟩:=P8 h
  refine(eI (ft n _ _ hv3)).to ?_
  refine rn ?_
  refine eC (B2 n v2 a2 a0 a1) r (fun(gj0:Unit) (j0:Int×Int)=>[(0,.str a0),(1,.str a1),(2,.int .i64 a2),(7,.ptr st.length 0 0 0),(8,.ptr (st.length+1) 0 0 0),(9,.ptr (st.length+2) 0 0 0)]) (fun(gj0:Unit) (j0:Int×Int)=>st++[some (.arr 0 11 0 [[.int .i64 v2.1.from_.form.kind,.str v2.1.from_.form.name,.sl false 1 16 (rows w7 v2.1.from_.form.words),.sl false 4 72 (rows u5.cells v2.1.from_.form.subs),.sl false 1 16 (rows w7 v2.1.from_.words),.sl false 1 16 (rows w7 v2.1.from_.C4),.sl false 1 16 (rows w7 v2.1.from_.parts),.int .i64 v2.1.to_.kind,.str v2.1.to_.name,.sl false 1 16 (rows w7 v2.1.to_.words),.sl false 4 72 (rows u5.cells v2.1.to_.subs)]]),some (.arr 0 2 0 [[.int .i64 v2.2.code,.int .i64 v2.2.index]]),some (.arr 0 2 0 [[.int .i64 j0.1,.int .i64 j0.2]])]) (fun gj0 j0 fr1 st1 h hb=>?_) (fun hj0=>?_)
  ·try simp only[go_sem,fx]
   unfold B2 at h
   refine Q9 hb ?_
   refine cd h (fun hc h=>?_) fun hc h=>?_
   ·refine rn ?_
    obtain⟨v5,hv5,h⟩:=P8 h
    refine aV (fun hG=>(eI (dW n _ _ (qj hv5 (by simpa using hG))))) ?_
    refine rn ?_
    obtain⟨v6,hv6,h⟩:=P8 h
    refine aV (fun hG=>(eI (dW n _ _ (qj hv6 (by simpa using hG))))) ?_
    exact rt
   ·refine rn ?_
    refine eD (body:=D1 a2) (kk:=D9 n v2 a0 a1) (n:=n) (s0:=([],0))
     (fun(gs1:Nat) (s1:(List Bs)×Int)=>[(0,.str a0),(1,.str a1),(2,.int .i64 a2),(7,.ptr st.length 0 0 0),(8,.ptr (st.length+1) 0 0 0),(10,.ref false (st.length+3) gs1 0 s1.1.length),(11,.int .i64 s1.2)])
     (fun(gs1:Nat) (s1:(List Bs)×Int)=>st++[some (.arr 0 11 0 [[.int .i64 v2.1.from_.form.kind,.str v2.1.from_.form.name,.sl false 1 16 (rows w7 v2.1.from_.form.words),.sl false 4 72 (rows u5.cells v2.1.from_.form.subs),.sl false 1 16 (rows w7 v2.1.from_.words),.sl false 1 16 (rows w7 v2.1.from_.C4),.sl false 1 16 (rows w7 v2.1.from_.parts),.int .i64 v2.1.to_.kind,.str v2.1.to_.name,.sl false 1 16 (rows w7 v2.1.to_.words),.sl false 4 72 (rows u5.cells v2.1.to_.subs)]]),some (.arr 0 2 0 [[.int .i64 v2.2.code,.int .i64 v2.2.index]]),none,some (.arr gs1 1 16 (rows w7 s1.1))])
     (fun(gt1:Nat) (t1:(List Bs))=>[(0,.str a0),(1,.str a1),(7,.ptr st.length 0 0 0),(8,.ptr (st.length+1) 0 0 0),(10,.ref false (st.length+3) gt1 0 t1.length)])
     (fun(gt1:Nat) (t1:(List Bs))=>st++[some (.arr 0 11 0 [[.int .i64 v2.1.from_.form.kind,.str v2.1.from_.form.name,.sl false 1 16 (rows w7 v2.1.from_.form.words),.sl false 4 72 (rows u5.cells v2.1.from_.form.subs),.sl false 1 16 (rows w7 v2.1.from_.words),.sl false 1 16 (rows w7 v2.1.from_.C4),.sl false 1 16 (rows w7 v2.1.from_.parts),.int .i64 v2.1.to_.kind,.str v2.1.to_.name,.sl false 1 16 (rows w7 v2.1.to_.words),.sl false 4 72 (rows u5.cells v2.1.to_.subs)]]),some (.arr 0 2 0 [[.int .i64 v2.2.code,.int .i64 v2.2.index]]),none,some (.arr gt1 1 16 (rows w7 t1))])
     0 h (bm hsc (hu:=(.lv (.lv (.dead _ _ _ (.live _ _ _ _ (by simp only[go_sem,rows,List.map_cons,List.map_nil];exact .same _) (.nil _)))))))
     (fun gs1 s1 b1 h hx1=>?_) (fun gt1 t1 fr1 st1 h hb=>?_)
    ·unfold D1 at h
     refine cd h (fun hc h=>?_) fun hc h=>?_
     ·refine r0 ?_
      refine r0 ?_
      obtain⟨c23,Sc,h⟩:=gX h
      have fy:=(show rows w7 s1.1++[[.str [UInt8.ofNat 120,UInt8.ofNat (wr .u8 (wr .i64 (48+s1.2))).toNat]]]=rows w7 c23 from by rw[Sc];first|exact E1 (E:=w7) s1.1 [[UInt8.ofNat 120,UInt8.ofNat (wr .u8 (wr .i64 (48+s1.2))).toNat]]|simp only[go_sem,rows,List.map_append,List.map_cons,List.map_nil])
      have fy:=fa fy (show s1.1.length+1=c23.length from by rw[Sc];simp)
      obtain⟨fx,h⟩:=ck fx h
      refine r1 ?_
      refine rn ?_
      cases h
      exact jT (gs1+1) (bm hsc)
     ·refine rn ?_
      cases h
      exact jU gs1 (bm hsc)
    ·try simp only[go_sem,fx]
     unfold D9 at h
     refine Q9 hb ?_
     (repeat apply sq_)
     refine Q9 (F:=[(0,.str a0),(1,.str a1),(7,.ptr st.length 0 0 0),(8,.ptr (st.length+1) 0 0 0),(10,.sl false 1 16 (rows w7 t1))]) (T:=st++[some (.arr 0 11 0 [[.int .i64 v2.1.from_.form.kind,.str v2.1.from_.form.name,.sl false 1 16 (rows w7 v2.1.from_.form.words),.sl false 4 72 (rows u5.cells v2.1.from_.form.subs),.sl false 1 16 (rows w7 v2.1.from_.words),.sl false 1 16 (rows w7 v2.1.from_.C4),.sl false 1 16 (rows w7 v2.1.from_.parts),.int .i64 v2.1.to_.kind,.str v2.1.to_.name,.sl false 1 16 (rows w7 v2.1.to_.words),.sl false 4 72 (rows u5.cells v2.1.to_.subs)]]),some (.arr 0 2 0 [[.int .i64 v2.2.code,.int .i64 v2.2.index]])]) (BL hsc (.lv (.lv (.nil _))) (by simp) ⟨.s,.s,.s,.s,.ref _ _ _ _ _ _ _ _ _ (oD.trans rfl) (xV (by first|decide|simp)) (by decide) (jS _) (by simp only[go_sem]),trivial⟩ (by simp)) ?_
     refine rs ?_
     refine dw [] 0 ?_
     obtain⟨v28,hv28,h⟩:=P8 h
     refine nJ (fun hG=>(eI (G0 _ _ _ (qj hv28 (by simpa using hG))))) ?_
     try simp only[go_sem,fx]
     obtain⟨v29,hv29,h⟩:=P8 h
     refine nJ (fun hG=>(eI (G2 n _ _ _ (qj hv29 (by simpa using hG))))) ?_
     try simp only[go_sem,fx]
     obtain⟨v30,hv30,h⟩:=P8 h
     refine nJ (fun hG=>(eI (G0 _ _ _ (qj hv30 (by simpa using hG))))) ?_
     try simp only[go_sem,fx]
     obtain⟨v31,hv31,h⟩:=P8 h
     refine nJ (fun hG=>(eI (G2 n _ _ _ (qj hv31 (by simpa using hG))))) ?_
     try simp only[go_sem,fx]
     obtain⟨v32,hv32,h⟩:=P8 h
     refine nJ (fun hG=>(eI (cA n _ _ _ (qj hv32 (by simpa using hG))))) ?_
     try simp only[go_sem,fx]
     exact rt
  ·refine cd h (fun hc h=>?_) fun hc h=>?_
   ·refine r0 ?_
    refine hj0 () _ _ _ h ?_;exact(bm hsc)
   ·refine rn ?_
    obtain⟨v4,hv4,h⟩:=P8 h
    refine(eI (ft n _ _ hv4)).to ?_
    refine cd h (fun hc h=>?_) fun hc h=>?_
    ·refine r0 ?_
     refine hj0 () _ _ _ h ?_;exact(bm hsc)
    ·refine cd h (fun hc h=>?_) fun hc h=>?_
     ·refine r0 ?_
      refine hj0 () _ _ _ h ?_;exact(bm hsc)
     ·refine r0 ?_
      refine hj0 () _ _ _ h ?_;exact(bm hsc)
end Go.Proofs.YtfacbpehlibilaaGreatDoor
