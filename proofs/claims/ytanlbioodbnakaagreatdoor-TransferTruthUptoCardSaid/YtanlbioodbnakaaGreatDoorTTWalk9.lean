import Derived.Test.YtanlbioodbnakaaGreatDoorTTWalk8
set_option linter.unusedVariables false
set_option linter.unusedSimpArgs false
set_option maxHeartbeats 2000000
set_option maxRecDepth 100000
namespace Go.Proofs.YtanlbioodbnakaaGreatDoor
open Go Go.Am
theorem iZ(n:Nat)(a0:(List Bs))(a1:(List Bs))(r:Bool)(h:au n a0 a1=some r):Pure Tryz.prog gl 25 [.sl false 1 16 (rows w8 a0),.sl false 1 16 (rows w8 a1)] (.bool r):=by
 intro st
 unfold au at h
 have fx:=trivial
 refine fb 26 [.tmp 4] [0,1,4,5,10,14,25] Tryz.func25 fun hsc=>?_
 refine cd h (fun hc h=>?_) fun hc h=>?_
 ·exact rt
 ·refine rn ?_
  refine Z7 (body:=U3 a0 a1) (kk:=U4) (n:=n) (s0:=0)
   (fun(gs0:Unit) (s0:Int)=>[(0,.sl false 1 16 (rows w8 a0)),(1,.sl false 1 16 (rows w8 a1)),(5,.int .i64 s0)])
   (fun(gs0:Unit) (s0:Int)=>st)
   (fun(gt0:Unit) (t0:Unit)=>[])
   (fun(gt0:Unit) (t0:Unit)=>st)
   () h (ke hsc)
   (fun gs0 s0 b0 h hx0=>?_) (fun gt0 t0 fr1 st1 h hb=>?_)
  ·unfold U3 at h
   refine cd h (fun hc h=>?_) fun hc h=>?_
   ·refine rn ?_
    obtain⟨fx,h⟩:=ck fx h
    obtain⟨fx,h⟩:=ck fx h
    refine dw [] 0 ?_
    refine cd h (fun hc h=>?_) fun hc h=>?_
    ·refine ra ?_
     cases h
     refine lF ?_;have h:=congrArg some (hx0 _ rfl)
     exact rt
    ·refine rn ?_
     cases h
     exact bS () (ke hsc)
   ·refine rn ?_
    cases h
    exact fP () (ke hsc)
  ·try simp only[go_sem,fx]
   unfold U4 at h
   refine L6 hb ?_
   exact rt
theorem ji:∀(n:Nat) (a0:u5) (a1:u5) (r:Bool) (h:M8 n a0 a1=some r),Pure Tryz.prog gl 12 [.agg [.int .i64 a0.kind,.str a0.name,.sl false 1 16 (rows w8 a0.words),.sl false 4 72 (rows u5.cells a0.subs)],.agg [.int .i64 a1.kind,.str a1.name,.sl false 1 16 (rows w8 a1.words),.sl false 4 72 (rows u5.cells a1.subs)]] (.bool r):=by
 intro n
 induction n with
 |zero=>intro a0 a1 r h;cases h
 |succ n ih=>
  intro a0 a1 r h st
  unfold M8 at h
  have fx:=trivial
  refine fb 54 [.tmp 4] [0,1,2,3,4,5,12,13,14,15,16,19,20,21,22,23,24,27,28,29,30,31,32,33,34,39,53] Tryz.func12 fun hsc=>?_
  refine rn ?_
  obtain⟨v1,hv1,h⟩:=J5 h
  refine bR (fun hG=>(iZ n _ _ _ (qh hv1 (by simpa using hG)))) ?_
  refine cd h (fun hc h=>?_) fun hc h=>?_
  ·exact rt
  ·refine rn ?_
   refine Z7 (body:=V0 (M8 n) a0 a1) (kk:=V1) (n:=n) (s0:=0)
    (fun(gs0:Unit) (s0:Int)=>[(2,.ptr st.length 0 0 0),(3,.ptr (st.length+1) 0 0 0),(5,.int .i64 s0)])
    (fun(gs0:Unit) (s0:Int)=>st++[some (.arr 0 4 0 [[.int .i64 a0.kind,.str a0.name,.sl false 1 16 (rows w8 a0.words),.sl false 4 72 (rows u5.cells a0.subs)]]),some (.arr 0 4 0 [[.int .i64 a1.kind,.str a1.name,.sl false 1 16 (rows w8 a1.words),.sl false 4 72 (rows u5.cells a1.subs)]])])
    (fun(gt0:Unit) (t0:Unit)=>[])
    (fun(gt0:Unit) (t0:Unit)=>st)
    () h (bm hsc)
    (fun gs0 s0 b0 h hx0=>?_) (fun gt0 t0 fr1 st1 h hb=>?_)
   ·unfold V0 at h
    refine cd h (fun hc h=>?_) fun hc h=>?_
    ·refine rn ?_
     obtain⟨fx,h⟩:=ck fx h
     obtain⟨fx,h⟩:=ck fx h
     refine dw [] 0 ?_
     obtain⟨v8,hv8,h⟩:=J5 h
     refine Q0 (ih _ _ _ hv8) ?_
     try simp only[go_sem,fx]
     refine cd h (fun hc h=>?_) fun hc h=>?_
     ·refine ra ?_
      cases h
      refine lF ?_;have h:=congrArg some (hx0 _ rfl)
      exact rt
     ·refine rn ?_
      cases h
      exact bS () (bm hsc)
    ·refine rn ?_
     cases h
     exact fP () (bm0 hsc)
   ·try simp only[go_sem,fx]
    unfold V1 at h
    refine L6 hb ?_
    exact rt
theorem gi(n:Nat)(r:Bool)(h:H7 n=some r):Pure Tryz.prog gl 4 [] (.bool r):=by
 intro st
 unfold H7 at h
 have fx:=trivial
 refine fb 68 [.tmp 0] [0,1,2,3,4,5,6,7,47,48,49,52,53,54,57,58,59,62,63,64,65,66] Tryz.func4 fun hsc=>?_
 refine cl h (K1 _ _) fun v2 h=>?_
 refine cl h (K1 _ _) fun v5 h=>?_
 refine cl h (K1 _ _) fun v7 h=>?_
 refine cl h (fM _ _ _) fun v8 h=>?_
 refine cl h (K1 _ _) fun v10 h=>?_
 try simp only[go_sem,fx]
 (repeat apply sq_)
 refine L6 (F:=[(1,.ptr st.length 0 0 0),(2,.ptr (st.length+2) 0 0 0)]) (T:=st++[some (.arr 0 11 0 [[.int .i64 v2.kind,.str v2.name,.sl false 1 16 (rows w8 v2.words),.sl false 4 72 (rows u5.cells v2.subs),.sl false 1 16 [[.str [120]]],.B2,.B2,.int .i64 v8.kind,.str v8.name,.sl false 1 16 (rows w8 v8.words),.sl false 4 72 (rows u5.cells v8.subs)]]),some (.arr 0 4 72 (rows u5.cells [v10])),some (.arr 0 4 0 [[.int .i64 9,.str [121],.B2,.ref true (st.length+1) 0 0 1]])]) (zF hsc (.lv (.live _ _ _ _ (by simp only[go_sem,rows,List.map_cons,List.map_nil];exact .same _) (.lv (.nil _)))) (by simp) ⟨.s,.s,trivial⟩ (by simp)) ?_
 (repeat apply sq_)
 refine L6 (F:=[(1,.ptr st.length 0 0 0),(2,.ptr (st.length+2) 0 0 0)]) (T:=st++[some (.arr 0 11 0 [[.int .i64 v2.kind,.str v2.name,.sl false 1 16 (rows w8 v2.words),.sl false 4 72 (rows u5.cells v2.subs),.sl false 1 16 [[.str [120]]],.B2,.B2,.int .i64 v8.kind,.str v8.name,.sl false 1 16 (rows w8 v8.words),.sl false 4 72 (rows u5.cells v8.subs)]]),none,some (.arr 0 4 0 [[.int .i64 9,.str [121],.B2,.sl false 4 72 (rows u5.cells [v10])]])]) (zF hsc (.lv (.dead _ _ _ (.live _ _ _ _ (.arr _ _ _ _ _ (.cons _ _ _ _ (.cons _ _ _ _ .s (.cons _ _ _ _ .s (.cons _ _ _ _ .s (.cons _ _ _ _ (.ref _ _ _ _ _ _ _ _ _ (nR.trans rfl) (eM.trans rfl) (by decide) (jS _) (by simp only[go_sem])) .nil)))) (.same _))) (.nil _)))) (by simp) ⟨.s,.s,trivial⟩ (by simp)) ?_
 refine cl h (K1 _ _) fun v13 h=>?_
 refine cl h (K1 _ _) fun v15 h=>?_
 refine cl h (fM _ _ _) fun v16 h=>?_
 try simp only[go_sem,fx]
 (repeat apply sq_)
 refine L6 (F:=[(1,.ptr st.length 0 0 0),(2,.ptr (st.length+2) 0 0 0),(3,.ptr (st.length+4) 0 0 0)]) (T:=st++[some (.arr 0 11 0 [[.int .i64 v2.kind,.str v2.name,.sl false 1 16 (rows w8 v2.words),.sl false 4 72 (rows u5.cells v2.subs),.sl false 1 16 [[.str [120]]],.B2,.B2,.int .i64 v8.kind,.str v8.name,.sl false 1 16 (rows w8 v8.words),.sl false 4 72 (rows u5.cells v8.subs)]]),none,some (.arr 0 4 0 [[.int .i64 9,.str [121],.B2,.sl false 4 72 (rows u5.cells [v10])]]),some (.arr 0 4 72 (rows u5.cells [v16])),some (.arr 0 4 0 [[.int .i64 9,.str [118,48],.B2,.ref true (st.length+3) 0 0 1]])]) (zF hsc (.lv (.dead _ _ _ (.lv (.live _ _ _ _ (by simp only[go_sem,rows,List.map_cons,List.map_nil];exact .same _) (.lv (.nil _)))))) (by simp) ⟨.s,.s,.s,trivial⟩ (by simp)) ?_
 (repeat apply sq_)
 refine L6 (F:=[(1,.ptr st.length 0 0 0),(2,.ptr (st.length+2) 0 0 0),(3,.ptr (st.length+4) 0 0 0)]) (T:=st++[some (.arr 0 11 0 [[.int .i64 v2.kind,.str v2.name,.sl false 1 16 (rows w8 v2.words),.sl false 4 72 (rows u5.cells v2.subs),.sl false 1 16 [[.str [120]]],.B2,.B2,.int .i64 v8.kind,.str v8.name,.sl false 1 16 (rows w8 v8.words),.sl false 4 72 (rows u5.cells v8.subs)]]),none,some (.arr 0 4 0 [[.int .i64 9,.str [121],.B2,.sl false 4 72 (rows u5.cells [v10])]]),none,some (.arr 0 4 0 [[.int .i64 9,.str [118,48],.B2,.sl false 4 72 (rows u5.cells [v16])]])]) (zF hsc (.lv (.dead _ _ _ (.lv (.dead _ _ _ (.live _ _ _ _ (.arr _ _ _ _ _ (.cons _ _ _ _ (.cons _ _ _ _ .s (.cons _ _ _ _ .s (.cons _ _ _ _ .s (.cons _ _ _ _ (.ref _ _ _ _ _ _ _ _ _ (nR.trans rfl) (eM.trans rfl) (by decide) (jS _) (by simp only[go_sem])) .nil)))) (.same _))) (.nil _)))))) (by simp) ⟨.s,.s,.s,trivial⟩ (by simp)) ?_
 refine rn ?_
 obtain⟨v19,hv19,h⟩:=J5 h
 refine EN (st:=st++[some (.arr 0 11 0 [[.int .i64 v2.kind,.str v2.name,.sl false 1 16 (rows w8 v2.words),.sl false 4 72 (rows u5.cells v2.subs),.sl false 1 16 [[.str [120]]],.B2,.B2,.int .i64 v8.kind,.str v8.name,.sl false 1 16 (rows w8 v8.words),.sl false 4 72 (rows u5.cells v8.subs)]]),none,some (.arr 0 4 0 [[.int .i64 9,.str [121],.B2,.sl false 4 72 (rows u5.cells [v10])]]),none,some (.arr 0 4 0 [[.int .i64 9,.str [118,48],.B2,.sl false 4 72 (rows u5.cells [v16])]]),some (.arr 0 11 216 [[.int .i64 v2.kind,.str v2.name,.sl false 1 16 (rows w8 v2.words),.sl false 4 72 (rows u5.cells v2.subs),.sl false 1 16 [[.str [120]]],.B2,.B2,.int .i64 v8.kind,.str v8.name,.sl false 1 16 (rows w8 v8.words),.sl false 4 72 (rows u5.cells v8.subs)]])]) (args:=[.ref true (st.length+5) 0 0 1,.agg [.int .i64 9,.str [121],.B2,.sl false 4 72 (rows u5.cells [v10])]]) (T:=st++[some (.arr 0 11 0 [[.int .i64 v2.kind,.str v2.name,.sl false 1 16 (rows w8 v2.words),.sl false 4 72 (rows u5.cells v2.subs),.sl false 1 16 [[.str [120]]],.B2,.B2,.int .i64 v8.kind,.str v8.name,.sl false 1 16 (rows w8 v8.words),.sl false 4 72 (rows u5.cells v8.subs)]]),none,some (.arr 0 4 0 [[.int .i64 9,.str [121],.B2,.sl false 4 72 (rows u5.cells [v10])]]),none,some (.arr 0 4 0 [[.int .i64 9,.str [118,48],.B2,.sl false 4 72 (rows u5.cells [v16])]]),some (.arr 0 11 216 [[.int .i64 v2.kind,.str v2.name,.sl false 1 16 (rows w8 v2.words),.sl false 4 72 (rows u5.cells v2.subs),.sl false 1 16 [[.str [120]]],.sl false 1 16 [],.sl false 1 16 [],.int .i64 v8.kind,.str v8.name,.sl false 1 16 (rows w8 v8.words),.sl false 4 72 (rows u5.cells v8.subs)]])]) (tZ hsc (.lv (.dead _ _ _ (.lv (.dead _ _ _ (.lv (.live _ _ _ _ (.arr _ _ _ _ _ (.cons _ _ _ _ (.cons _ _ _ _ .s (.cons _ _ _ _ .s (.cons _ _ _ _ .s (.cons _ _ _ _ .s (.cons _ _ _ _ .s (.cons _ _ _ _ (.B2 _ _ _ (by decide)) (.cons _ _ _ _ (.B2 _ _ _ (by decide)) (.cons _ _ _ _ .s (.cons _ _ _ _ .s (.cons _ _ _ _ .s (.cons _ _ _ _ .s .nil))))))))))) .nil)) (.nil _))))))) (by simp)) (by simp) (by simp) ((kS n _ _ _ hv19).freeze (st:=st++[some (.arr 0 11 0 [[.int .i64 v2.kind,.str v2.name,.sl false 1 16 (rows w8 v2.words),.sl false 4 72 (rows u5.cells v2.subs),.sl false 1 16 [[.str [120]]],.B2,.B2,.int .i64 v8.kind,.str v8.name,.sl false 1 16 (rows w8 v8.words),.sl false 4 72 (rows u5.cells v8.subs)]]),none,some (.arr 0 4 0 [[.int .i64 9,.str [121],.B2,.sl false 4 72 (rows u5.cells [v10])]]),none,some (.arr 0 4 0 [[.int .i64 9,.str [118,48],.B2,.sl false 4 72 (rows u5.cells [v16])]]),some (.arr 0 11 216 [[.int .i64 v2.kind,.str v2.name,.sl false 1 16 (rows w8 v2.words),.sl false 4 72 (rows u5.cells v2.subs),.sl false 1 16 [[.str [120]]],.sl false 1 16 [],.sl false 1 16 [],.int .i64 v8.kind,.str v8.name,.sl false 1 16 (rows w8 v8.words),.sl false 4 72 (rows u5.cells v8.subs)]])]) (args:=[.ref true (st.length+5) 0 0 1,.agg [.int .i64 9,.str [121],.B2,.sl false 4 72 (rows u5.cells [v10])]]) (T:=st++[some (.arr 0 11 0 [[.int .i64 v2.kind,.str v2.name,.sl false 1 16 (rows w8 v2.words),.sl false 4 72 (rows u5.cells v2.subs),.sl false 1 16 [[.str [120]]],.B2,.B2,.int .i64 v8.kind,.str v8.name,.sl false 1 16 (rows w8 v8.words),.sl false 4 72 (rows u5.cells v8.subs)]]),none,some (.arr 0 4 0 [[.int .i64 9,.str [121],.B2,.sl false 4 72 (rows u5.cells [v10])]]),none,some (.arr 0 4 0 [[.int .i64 9,.str [118,48],.B2,.sl false 4 72 (rows u5.cells [v16])]]),none]) (tZ hsc (.lv (.dead _ _ _ (.lv (.dead _ _ _ (.lv (.dead _ _ _ (.nil _))))))) (by simp)) (by simp) (.cons _ _ _ _ (.ref _ _ _ _ _ _ _ _ _ (nR.trans rfl) (eM.trans rfl) (by decide) (by simp[Imm,D.imm]) (by simp only[go_sem,rows,List.map_cons,List.map_nil])) (.cons _ _ _ _ (.agg _ _ (.cons _ _ _ _ .s (.cons _ _ _ _ .s (.cons _ _ _ _ (.B2 _ _ _ (by decide)) (.cons _ _ _ _ .s .nil))))) .nil)) (by simp) ?_)
 refine rn ?_
 obtain⟨v21,hv21,h⟩:=J5 h
 refine EN (st:=st++[some (.arr 0 11 0 [[.int .i64 v2.kind,.str v2.name,.sl false 1 16 (rows w8 v2.words),.sl false 4 72 (rows u5.cells v2.subs),.sl false 1 16 [[.str [120]]],.B2,.B2,.int .i64 v8.kind,.str v8.name,.sl false 1 16 (rows w8 v8.words),.sl false 4 72 (rows u5.cells v8.subs)]]),none,some (.arr 0 4 0 [[.int .i64 9,.str [121],.B2,.sl false 4 72 (rows u5.cells [v10])]]),none,some (.arr 0 4 0 [[.int .i64 9,.str [118,48],.B2,.sl false 4 72 (rows u5.cells [v16])]]),none,some (.arr 0 4 0 [[.int .i64 v19.1.kind,.str v19.1.name,.sl false 1 16 (rows w8 v19.1.words),.sl false 4 72 (rows u5.cells v19.1.subs)]]),some (.arr 0 2 0 [[.int .i64 v19.2.code,.int .i64 v19.2.index]]),some (.arr 0 11 216 [[.int .i64 v2.kind,.str v2.name,.sl false 1 16 (rows w8 v2.words),.sl false 4 72 (rows u5.cells v2.subs),.sl false 1 16 [[.str [120]]],.B2,.B2,.int .i64 v8.kind,.str v8.name,.sl false 1 16 (rows w8 v8.words),.sl false 4 72 (rows u5.cells v8.subs)]])]) (args:=[.ref true (st.length+8) 0 0 1,.agg [.int .i64 9,.str [121],.B2,.sl false 4 72 (rows u5.cells [v10])]]) (T:=st++[some (.arr 0 11 0 [[.int .i64 v2.kind,.str v2.name,.sl false 1 16 (rows w8 v2.words),.sl false 4 72 (rows u5.cells v2.subs),.sl false 1 16 [[.str [120]]],.B2,.B2,.int .i64 v8.kind,.str v8.name,.sl false 1 16 (rows w8 v8.words),.sl false 4 72 (rows u5.cells v8.subs)]]),none,some (.arr 0 4 0 [[.int .i64 9,.str [121],.B2,.sl false 4 72 (rows u5.cells [v10])]]),none,some (.arr 0 4 0 [[.int .i64 9,.str [118,48],.B2,.sl false 4 72 (rows u5.cells [v16])]]),none,some (.arr 0 4 0 [[.int .i64 v19.1.kind,.str v19.1.name,.sl false 1 16 (rows w8 v19.1.words),.sl false 4 72 (rows u5.cells v19.1.subs)]]),some (.arr 0 2 0 [[.int .i64 v19.2.code,.int .i64 v19.2.index]]),some (.arr 0 11 216 [[.int .i64 v2.kind,.str v2.name,.sl false 1 16 (rows w8 v2.words),.sl false 4 72 (rows u5.cells v2.subs),.sl false 1 16 [[.str [120]]],.sl false 1 16 [],.sl false 1 16 [],.int .i64 v8.kind,.str v8.name,.sl false 1 16 (rows w8 v8.words),.sl false 4 72 (rows u5.cells v8.subs)]])]) (tZ hsc (.lv (.dead _ _ _ (.lv (.dead _ _ _ (.lv (.dead _ _ _ (.lv (.lv (.live _ _ _ _ (.arr _ _ _ _ _ (.cons _ _ _ _ (.cons _ _ _ _ .s (.cons _ _ _ _ .s (.cons _ _ _ _ .s (.cons _ _ _ _ .s (.cons _ _ _ _ .s (.cons _ _ _ _ (.B2 _ _ _ (by decide)) (.cons _ _ _ _ (.B2 _ _ _ (by decide)) (.cons _ _ _ _ .s (.cons _ _ _ _ .s (.cons _ _ _ _ .s (.cons _ _ _ _ .s .nil))))))))))) .nil)) (.nil _)))))))))) (by simp)) (by simp) (by simp) ((qC n _ _ _ hv21).freeze (st:=st++[some (.arr 0 11 0 [[.int .i64 v2.kind,.str v2.name,.sl false 1 16 (rows w8 v2.words),.sl false 4 72 (rows u5.cells v2.subs),.sl false 1 16 [[.str [120]]],.B2,.B2,.int .i64 v8.kind,.str v8.name,.sl false 1 16 (rows w8 v8.words),.sl false 4 72 (rows u5.cells v8.subs)]]),none,some (.arr 0 4 0 [[.int .i64 9,.str [121],.B2,.sl false 4 72 (rows u5.cells [v10])]]),none,some (.arr 0 4 0 [[.int .i64 9,.str [118,48],.B2,.sl false 4 72 (rows u5.cells [v16])]]),none,some (.arr 0 4 0 [[.int .i64 v19.1.kind,.str v19.1.name,.sl false 1 16 (rows w8 v19.1.words),.sl false 4 72 (rows u5.cells v19.1.subs)]]),some (.arr 0 2 0 [[.int .i64 v19.2.code,.int .i64 v19.2.index]]),some (.arr 0 11 216 [[.int .i64 v2.kind,.str v2.name,.sl false 1 16 (rows w8 v2.words),.sl false 4 72 (rows u5.cells v2.subs),.sl false 1 16 [[.str [120]]],.sl false 1 16 [],.sl false 1 16 [],.int .i64 v8.kind,.str v8.name,.sl false 1 16 (rows w8 v8.words),.sl false 4 72 (rows u5.cells v8.subs)]])]) (args:=[.ref true (st.length+8) 0 0 1,.agg [.int .i64 9,.str [121],.B2,.sl false 4 72 (rows u5.cells [v10])]]) (T:=st++[some (.arr 0 11 0 [[.int .i64 v2.kind,.str v2.name,.sl false 1 16 (rows w8 v2.words),.sl false 4 72 (rows u5.cells v2.subs),.sl false 1 16 [[.str [120]]],.B2,.B2,.int .i64 v8.kind,.str v8.name,.sl false 1 16 (rows w8 v8.words),.sl false 4 72 (rows u5.cells v8.subs)]]),none,some (.arr 0 4 0 [[.int .i64 9,.str [121],.B2,.sl false 4 72 (rows u5.cells [v10])]]),none,some (.arr 0 4 0 [[.int .i64 9,.str [118,48],.B2,.sl false 4 72 (rows u5.cells [v16])]]),none,some (.arr 0 4 0 [[.int .i64 v19.1.kind,.str v19.1.name,.sl false 1 16 (rows w8 v19.1.words),.sl false 4 72 (rows u5.cells v19.1.subs)]]),some (.arr 0 2 0 [[.int .i64 v19.2.code,.int .i64 v19.2.index]]),none]) (tZ hsc (.lv (.dead _ _ _ (.lv (.dead _ _ _ (.lv (.dead _ _ _ (.lv (.lv (.dead _ _ _ (.nil _)))))))))) (by simp)) (by simp) (.cons _ _ _ _ (.ref _ _ _ _ _ _ _ _ _ (nR.trans rfl) (eM.trans rfl) (by decide) (by simp[Imm,D.imm]) (by simp only[go_sem,rows,List.map_cons,List.map_nil])) (.cons _ _ _ _ (.agg _ _ (.cons _ _ _ _ .s (.cons _ _ _ _ .s (.cons _ _ _ _ (.B2 _ _ _ (by decide)) (.cons _ _ _ _ .s .nil))))) .nil)) (by simp) ?_)
 refine rn ?_
 obtain⟨v22,hv22,h⟩:=J5 h
 refine bR (fun hG=>((ji n _ _ _ (qh hv22 (by simpa using hG))).up (fun _=>(.cons _ _ _ _ .s (.cons _ _ _ _ (.agg _ _ (.cons _ _ _ _ .s (.cons _ _ _ _ .s (.cons _ _ _ _ (.B2 _ _ _ (by decide)) (.cons _ _ _ _ .s .nil))))) .nil))) (.inr fun n=>by simp))) ?_
 obtain⟨fx,h⟩:=ck fx h
 exact rt
theorem gn(a0:Int)(B7:Int)(r:B0)(h:bA a0 B7=some r):∀(st:St) (o0:Nat) (hnd: [o0].Nodup) (G2:Am.look st o0=some (.arr 0 1 0 [[.int .i64 B7]])),Am.Spec Tryz.prog gl 13 [.int .i64 a0,.ptr o0 0 0 0] st (fun d st'=>d= .agg [.int .i64 r.code,.int .i64 r.index]∧st'=puts st []):=by
 intro st o0 hnd G2
 unfold bA at h
 have ho0:=B5 G2
 have fx:=idf ho0
 refine fb 7 [.cell 3 32] [0,1,3] Tryz.func13 fun hsc=>?_
 refine T6 (s':=(C0 st [(o0,(.arr 0 1 0 [[.int .i64 B7]]))])) (B6 (by simp[G2])) ?_
 refine rr ?_
 exact fuo (.agg [.int .i64 a0,.int .i64 B7]) (.same _) h hsc (hr:=by rintro rfl;exact⟨rfl,B6 (by simp[G2])⟩)
theorem T3(a0:Int)(B7:Int)(r:B0)(h:I7 a0 B7=some r):∀(st:St) (o0:Nat) (hnd: [o0].Nodup) (G2:Am.look st o0=some (.arr 0 1 0 [[.int .i64 B7]])),Am.Spec Tryz.prog gl 15 [.int .i64 a0,.ptr o0 0 0 0] st (fun d st'=>d= .agg [.int .i64 r.code,.int .i64 r.index]∧st'=puts st []):=by
 intro st o0 hnd G2
 unfold I7 at h
 have ho0:=B5 G2
 have fx:=idf ho0
 refine fb 7 [.cell 3 32] [0,1,3] Tryz.func15 fun hsc=>?_
 refine T6 (s':=(C0 st [(o0,(.arr 0 1 0 [[.int .i64 B7]]))])) (B6 (by simp[G2])) ?_
 refine rr ?_
 exact fuo (.agg [.int .i64 a0,.int .i64 B7]) (.same _) h hsc (hr:=by rintro rfl;exact⟨rfl,B6 (by simp[G2])⟩)
theorem kd(a0:Bs)(r:Bool)(h:cU a0=some r):Pure Tryz.prog gl 45 [.str a0] (.bool r):=by
 intro st
 unfold cU at h
 have fx:=trivial
 refine fb 6 [.tmp 2] [0,2] Tryz.func45 fun hsc=>?_
 exact rt
theorem iX(a0:Bs)(a1:Bs)(r:Int)(h:V5 a0 a1=some r):Pure Tryz.prog gl 27 [.str a0,.str a1] (.int .i64 r):=by
 intro st
 unfold V5 at h
 have fx:=trivial
 refine fb 20 [.tmp 4] [0,1,4,5,6,11,12,13,16,19] Tryz.func27 fun hsc=>?_
 refine cl h (kd _) fun v1 h=>?_
 refine cl h (kd _) fun v2 h=>?_
 refine cd h (fun hc h=>?_) fun hc h=>?_
 ·refine cd h (fun hc h=>?_) fun hc h=>?_
  ·exact rt
  ·exact rt
 ·refine cd h (fun hc h=>?_) fun hc h=>?_
  ·exact rt
  ·refine cd h (fun hc h=>?_) fun hc h=>?_
   ·exact rt
   ·refine cd h (fun hc h=>?_) fun hc h=>?_
    ·exact rt
    ·exact rt
theorem ni(a0:Int)(r:Bool)(h:kL a0=some r):Pure Tryz.prog gl 46 [.int .i64 a0] (.bool r):=by
 intro st
 unfold kL at h
 have fx:=trivial
 refine fb 6 [.tmp 2] [0,2] Tryz.func46 fun hsc=>?_
 exact rt
theorem kU(a0:Int)(a1:Int)(r:Int)(h:aD a0 a1=some r):Pure Tryz.prog gl 28 [.int .i64 a0,.int .i64 a1] (.int .i64 r):=by
 intro st
 unfold aD at h
 have fx:=trivial
 refine fb 20 [.tmp 4] [0,1,4,5,6,11,12,13,16,19] Tryz.func28 fun hsc=>?_
 refine cl h (ni _) fun v1 h=>?_
 refine cl h (ni _) fun v2 h=>?_
 refine cd h (fun hc h=>?_) fun hc h=>?_
 ·refine cd h (fun hc h=>?_) fun hc h=>?_
  ·exact rt
  ·exact rt
 ·refine cd h (fun hc h=>?_) fun hc h=>?_
  ·exact rt
  ·refine cd h (fun hc h=>?_) fun hc h=>?_
   ·exact rt
   ·refine cd h (fun hc h=>?_) fun hc h=>?_
    ·exact rt
    ·exact rt
theorem Aj(a0:(List Int))(r:Int)(h:oK a0=some r):Pure Tryz.prog gl 26 [.sl false 1 8 (rows K7 a0)] (.int .i64 r):=by
 intro st
 unfold oK at h
 have fx:=trivial
 refine fb 18 [.tmp 2] [0,2,3,5,6,7,8,9,14] Tryz.func26 fun hsc=>?_
 refine aln 6 fun hl0=>?_
 refine rng (body:=kH a0) (kk:=kI) (n:=a0.length) (s0:=())
  (fun(gs0:Unit) (k0:Nat) (s0:Unit)=>[(3,.int .i64 0),(6,.sl false 1 8 (rows K7 a0)),(7,.int .i64 (↑a0.length:Int)),(8,.int .i64 (↑k0:Int))])
  (fun(gs0:Unit) (k0:Nat) (s0:Unit)=>st)
  (fun(gt0:Unit) (t0:Unit)=>[(3,.int .i64 0)])
  (fun(gt0:Unit) (t0:Unit)=>st)
  () fx hl0 h (ke hsc)
  (fun gs0 k0 s0 b0 fx h hx0=>?_) (fun gs0 s0=>?_) (fun gt0 t0 fr1 st1 h hb=>?_)
 ·unfold kH at h
  refine ct ?_
  refine cd h (fun hc h=>?_) fun hc h=>?_
  ·refine ra ?_
   cases h
   refine E3 ?_;have h:=congrArg some (hx0 _ rfl)
   exact rt
  ·refine rn ?_
   cases h
   exact cj () (ke hsc)
 ·refine cf ?_
  refine cM ?_;simp only[go_sem,fx]
  exact⟨(),(ke hsc)⟩
 ·try simp only[go_sem,fx]
  unfold kI at h
  refine L6 hb ?_
  exact rt
theorem iY(a0:w7)(a1:w7)(r:Int)(h:aA a0 a1=some r):Pure Tryz.prog gl 16 [.agg [.str a0.name,.int .i64 a0.arity,.sl false 1 24 (rows (slc 1 8 K7) a0.tuples)],.agg [.str a1.name,.int .i64 a1.arity,.sl false 1 24 (rows (slc 1 8 K7) a1.tuples)]] (.int .i64 r):=by
 intro st
 unfold aA at h
 have fx:=trivial
 refine fb 17 [.tmp 4] [0,1,2,3,4] Tryz.func16 fun hsc=>?_
 refine rn ?_
 refine dw [] 1 ?_
 obtain⟨v1,hv1,h⟩:=J5 h
 refine Q0 (iX _ _ _ hv1) ?_
 try simp only[go_sem,fx]
 obtain⟨v2,hv2,h⟩:=J5 h
 refine Q0 (kU _ _ _ hv2) ?_
 try simp only[go_sem,fx]
 obtain⟨v4,hv4,h⟩:=J5 h
 refine Q0 (Aj _ _ hv4) ?_
 try simp only[go_sem,fx]
 exact rt
theorem bE(a0:(List Int))(a1:(List Int))(r:Int)(h:E2 a0 a1=some r):Pure Tryz.prog gl 17 [.sl false 1 8 (rows K7 a0),.sl false 1 8 (rows K7 a1)] (.int .i64 r):=by
 intro st
 unfold E2 at h
 have fx:=trivial
 refine fb 36 [.tmp 4] [0,1,4,5,6,7,8,9,10,11,12,19,28,35] Tryz.func17 fun hsc=>?_
 refine aln 0 fun hl0=>?_
 refine rng (body:=U6 a1 a0) (kk:=U7 a0 a1) (n:=a0.length) (s0:=())
  (fun(gs0:Unit) (k0:Nat) (s0:Unit)=>[(0,.sl false 1 8 (rows K7 a0)),(1,.sl false 1 8 (rows K7 a1)),(9,.sl false 1 8 (rows K7 a0)),(10,.int .i64 (↑a0.length:Int)),(11,.int .i64 (↑k0:Int))])
  (fun(gs0:Unit) (k0:Nat) (s0:Unit)=>st)
  (fun(gt0:Unit) (t0:Unit)=>[(0,.sl false 1 8 (rows K7 a0)),(1,.sl false 1 8 (rows K7 a1))])
  (fun(gt0:Unit) (t0:Unit)=>st)
  () fx hl0 h (ke hsc)
  (fun gs0 k0 s0 b0 fx h hx0=>?_) (fun gs0 s0=>?_) (fun gt0 t0 fr1 st1 h hb=>?_)
 ·unfold U6 at h
  refine ct ?_
  refine cd h (fun hc h=>?_) fun hc h=>?_
  ·refine ra ?_
   cases h
   refine E3 ?_;have h:=congrArg some (hx0 _ rfl)
   exact rt
  ·obtain⟨fx,h⟩:=ck fx h
   refine cl h (kU _ _) fun v2 h=>?_
   refine cd h (fun hc h=>?_) fun hc h=>?_
   ·refine ra ?_
    cases h
    refine E3 ?_;have h:=congrArg some (hx0 _ rfl)
    exact rt
   ·refine rn ?_
    cases h
    exact cj () (ke hsc)
 ·refine cf ?_
  refine cM ?_;simp only[go_sem,fx]
  exact⟨(),(ke hsc)⟩
 ·try simp only[go_sem,fx]
  unfold U7 at h
  refine L6 hb ?_
  refine cd h (fun hc h=>?_) fun hc h=>?_
  ·exact rt
  ·exact rt
theorem kR(a0:B4)(r:B0)(h:cF a0=some r):Pure Tryz.prog gl 5 [.agg [.int .i64 a0.size,.sl false 2 24 (rows A0.cells a0.constants),.sl false 3 48 (rows w7.cells a0.relations)]] (.agg [.int .i64 r.code,.int .i64 r.index]):=by
 intro st
 unfold cF at h
 have fx:=trivial
 refine fb 167 [.cell 2 32] [0,1,2,3,4,5,6,7,8,9,10,12,17,18,19,20,27,28,29,30,31,34,35,36,37,45,51,52,53,54,55,56,57,58,59,60,61,68,69,70,71,72,73,78,79,80,81,89,96,97,98,99,105,106,107,108,109,110,111,112,113,114,118,119,120,121,129,132,133,134,135,141,142,143,144,145,152,153,154,155,156,157,158,159,160,161] Tryz.func5 fun hsc=>?_
 refine cd h (fun hc h=>?_) fun hc h=>?_
 ·exact rt
 ·refine cd h (fun hc h=>?_) fun hc h=>?_
  ·exact rt
  ·refine aln 34 fun hl0=>?_
   refine rng (body:=K4 a0) (kk:=bg a0) (n:=a0.constants.length) (s0:=())
    (fun(gs0:Unit) (k0:Nat) (s0:Unit)=>[(1,.ptr st.length 0 0 0),(2,.ptr (st.length+1) 0 0 0),(34,.sl false 2 24 (rows A0.cells a0.constants)),(35,.int .i64 (↑a0.constants.length:Int)),(36,.int .i64 (↑k0:Int))])
    (fun(gs0:Unit) (k0:Nat) (s0:Unit)=>st++[some (.arr 0 3 0 [[.int .i64 a0.size,.sl false 2 24 (rows A0.cells a0.constants),.sl false 3 48 (rows w7.cells a0.relations)]]),some (.arr 0 2 0 [[.int .i64 0,.int .i64 0]])])
    (fun(gt0:Unit) (t0:Unit)=>[(1,.ptr st.length 0 0 0),(2,.ptr (st.length+1) 0 0 0)])
    (fun(gt0:Unit) (t0:Unit)=>st++[some (.arr 0 3 0 [[.int .i64 a0.size,.sl false 2 24 (rows A0.cells a0.constants),.sl false 3 48 (rows w7.cells a0.relations)]]),some (.arr 0 2 0 [[.int .i64 0,.int .i64 0]])])
    () fx hl0 h (bm hsc)
    (fun gs0 k0 s0 b0 fx h hx0=>?_) (fun gs0 s0=>?_) (fun gt0 t0 fr1 st1 h hb=>?_)
   ·unfold K4 at h
    refine ct ?_
    refine cl h (dU _) fun v8 h=>?_
    refine cd h (fun hc h=>?_) fun hc h=>?_
    ·refine rn ?_
     obtain⟨v9,hv9,h⟩:=J5 h
     refine(gn _ _ _ hv9 _ _ (by simp) (eM.trans rfl)).mono ?_
     rintro d1 st1 ⟨rfl,rfl⟩
     refine ra ?_
     cases h
     refine E3 ?_;have h:=congrArg some (hx0 _ rfl)
     exact rt
    ·refine rn ?_
     obtain⟨fx,h⟩:=ck fx h
     refine dw [] 0 ?_
     refine cd h (fun hc h=>?_) fun hc h=>?_
     ·refine rn ?_
      obtain⟨v13,hv13,h⟩:=J5 h
      refine(gn _ _ _ hv13 _ _ (by simp) (eM.trans rfl)).mono ?_
      rintro d1 st1 ⟨rfl,rfl⟩
      refine ra ?_
      cases h
      refine E3 ?_;have h:=congrArg some (hx0 _ rfl)
      exact rt
     ·refine cd h (fun hc h=>?_) fun hc h=>?_
      ·refine rn ?_
       obtain⟨v14,hv14,h⟩:=J5 h
       refine(gn _ _ _ hv14 _ _ (by simp) (eM.trans rfl)).mono ?_
       rintro d1 st1 ⟨rfl,rfl⟩
       refine ra ?_
       cases h
       refine E3 ?_;have h:=congrArg some (hx0 _ rfl)
       exact rt
      ·refine rn ?_
       cases h
       exact cj () (bm hsc)
   ·refine cf ?_
    refine cM ?_;simp only[go_sem,fx]
    exact⟨(),(bm hsc)⟩
   ·try simp only[go_sem,fx]
    unfold bg at h
    refine L6 hb ?_
    refine aln 78 fun hl1=>?_
    refine rng (body:=V7 a0) (kk:=dK) (n:=a0.relations.length) (s0:=())
     (fun(gs1:Unit) (k1:Nat) (s1:Unit)=>[(1,.ptr st.length 0 0 0),(2,.ptr (st.length+1) 0 0 0),(78,.sl false 3 48 (rows w7.cells a0.relations)),(79,.int .i64 (↑a0.relations.length:Int)),(80,.int .i64 (↑k1:Int))])
     (fun(gs1:Unit) (k1:Nat) (s1:Unit)=>st++[some (.arr 0 3 0 [[.int .i64 a0.size,.sl false 2 24 (rows A0.cells a0.constants),.sl false 3 48 (rows w7.cells a0.relations)]]),some (.arr 0 2 0 [[.int .i64 0,.int .i64 0]])])
     (fun(gt1:Unit) (t1:Unit)=>[(2,.ptr (st.length+1) 0 0 0)])
     (fun(gt1:Unit) (t1:Unit)=>st++[none,some (.arr 0 2 0 [[.int .i64 0,.int .i64 0]])])
     () fx hl1 h (bm hsc)
     (fun gs1 k1 s1 b1 fx h hx1=>?_) (fun gs1 s1=>?_) (fun gt1 t1 fr1 st1 h hb=>?_)
    ·unfold V7 at h
     refine ct ?_
     refine cl h (dU _) fun v39 h=>?_
     refine cd h (fun hc h=>?_) fun hc h=>?_
     ·refine rn ?_
      obtain⟨v40,hv40,h⟩:=J5 h
      refine(T3 _ _ _ hv40 _ _ (by simp) (eM.trans rfl)).mono ?_
      rintro d1 st1 ⟨rfl,rfl⟩
      refine ra ?_
      cases h
      refine E3 ?_;have h:=congrArg some (hx1 _ rfl)
      exact rt
     ·refine cd h (fun hc h=>?_) fun hc h=>?_
      ·refine rn ?_
       obtain⟨v41,hv41,h⟩:=J5 h
       refine(T3 _ _ _ hv41 _ _ (by simp) (eM.trans rfl)).mono ?_
       rintro d1 st1 ⟨rfl,rfl⟩
       refine ra ?_
       cases h
       refine E3 ?_;have h:=congrArg some (hx1 _ rfl)
       exact rt
      ·refine rn ?_
       obtain⟨fx,h⟩:=ck fx h
       refine dw [] 0 ?_
       obtain⟨v45,hv45,h⟩:=J5 h
       refine oC (fun hG=>(iY _ _ _ (qh hv45 (by simpa using hG)))) ?_
       try simp only[go_sem,fx]
       refine cd h (fun hc h=>?_) fun hc h=>?_
       ·refine rn ?_
        obtain⟨v46,hv46,h⟩:=J5 h
        refine(T3 _ _ _ hv46 _ _ (by simp) (eM.trans rfl)).mono ?_
        rintro d1 st1 ⟨rfl,rfl⟩
        refine ra ?_
        cases h
        refine E3 ?_;have h:=congrArg some (hx1 _ rfl)
        exact rt
       ·refine aln 118 fun hl5=>?_
        refine rng (body:=Q8 a0 k1) (kk:=bf) (n:=((get a0.relations k1).tuples).length) (s0:=())
         (fun(gs5:Unit) (k5:Nat) (s5:Unit)=>[(1,.ptr st.length 0 0 0),(2,.ptr (st.length+1) 0 0 0),(7,.ptr (st.length+3) 0 0 0),(8,.fn 15 [] [.ptr (st.length+2) 0 0 0]),(78,.sl false 3 48 (rows w7.cells a0.relations)),(79,.int .i64 (↑a0.relations.length:Int)),(80,.int .i64 (↑k1:Int)),(118,.sl false 1 24 (rows (slc 1 8 K7) ((get a0.relations k1).tuples))),(119,.int .i64 (↑(((get a0.relations k1).tuples).length):Int)),(120,.int .i64 (↑k5:Int))])
         (fun(gs5:Unit) (k5:Nat) (s5:Unit)=>st++[some (.arr 0 3 0 [[.int .i64 a0.size,.sl false 2 24 (rows A0.cells a0.constants),.sl false 3 48 (rows w7.cells a0.relations)]]),some (.arr 0 2 0 [[.int .i64 0,.int .i64 0]]),some (.arr 0 1 0 [[.int .i64 (↑k1:Int)]]),some (.arr 0 3 0 [[.str ((get a0.relations k1).name),.int .i64 ((get a0.relations k1).arity),.sl false 1 24 (rows (slc 1 8 K7) ((get a0.relations k1).tuples))]])])
         (fun(gt5:Unit) (t5:Unit)=>[(1,.ptr st.length 0 0 0),(2,.ptr (st.length+1) 0 0 0),(78,.sl false 3 48 (rows w7.cells a0.relations)),(79,.int .i64 (↑a0.relations.length:Int)),(80,.int .i64 (↑k1:Int))])
         (fun(gt5:Unit) (t5:Unit)=>st++[some (.arr 0 3 0 [[.int .i64 a0.size,.sl false 2 24 (rows A0.cells a0.constants),.sl false 3 48 (rows w7.cells a0.relations)]]),some (.arr 0 2 0 [[.int .i64 0,.int .i64 0]])])
         () fx hl5 h (bm hsc)
         (fun gs5 k5 s5 b5 fx h hx5=>?_) (fun gs5 s5=>?_) (fun gt5 t5 fr1 st1 h hb=>?_)
        ·unfold Q8 at h
         refine ct ?_
         refine cd h (fun hc h=>?_) fun hc h=>?_
         ·refine rn ?_
          obtain⟨v55,hv55,h⟩:=J5 h
          refine(T3 _ _ _ hv55 _ _ (by simp) (eM.trans rfl)).mono ?_
          rintro d1 st1 ⟨rfl,rfl⟩
          refine ra ?_
          cases h
          refine E3 ?_;obtain rfl:=hx5 _ rfl;try simp only[go_sem,fx]
          refine E3 ?_;have h:=congrArg some (hx1 _ rfl)
          exact rt
         ·refine aln 10 fun hl7=>?_
          refine rng (body:=V6 a0 k1 k5) (kk:=dJ k5 a0 k1) (n:=(get ((get a0.relations k1).tuples) k5).length) (s0:=())
           (fun(gs7:Unit) (k7:Nat) (s7:Unit)=>[(1,.ptr st.length 0 0 0),(2,.ptr (st.length+1) 0 0 0),(7,.ptr (st.length+3) 0 0 0),(8,.fn 15 [] [.ptr (st.length+2) 0 0 0]),(9,.int .i64 (↑k5:Int)),(10,.sl false 1 8 (rows K7 (get ((get a0.relations k1).tuples) k5))),(78,.sl false 3 48 (rows w7.cells a0.relations)),(79,.int .i64 (↑a0.relations.length:Int)),(80,.int .i64 (↑k1:Int)),(118,.sl false 1 24 (rows (slc 1 8 K7) ((get a0.relations k1).tuples))),(119,.int .i64 (↑(((get a0.relations k1).tuples).length):Int)),(120,.int .i64 (↑k5:Int)),(132,.sl false 1 8 (rows K7 (get ((get a0.relations k1).tuples) k5))),(133,.int .i64 (↑((get ((get a0.relations k1).tuples) k5).length):Int)),(134,.int .i64 (↑k7:Int))])
           (fun(gs7:Unit) (k7:Nat) (s7:Unit)=>st++[some (.arr 0 3 0 [[.int .i64 a0.size,.sl false 2 24 (rows A0.cells a0.constants),.sl false 3 48 (rows w7.cells a0.relations)]]),some (.arr 0 2 0 [[.int .i64 0,.int .i64 0]]),some (.arr 0 1 0 [[.int .i64 (↑k1:Int)]]),some (.arr 0 3 0 [[.str ((get a0.relations k1).name),.int .i64 ((get a0.relations k1).arity),.sl false 1 24 (rows (slc 1 8 K7) ((get a0.relations k1).tuples))]])])
           (fun(gt7:Unit) (t7:Unit)=>[(1,.ptr st.length 0 0 0),(2,.ptr (st.length+1) 0 0 0),(7,.ptr (st.length+3) 0 0 0),(8,.fn 15 [] [.ptr (st.length+2) 0 0 0]),(9,.int .i64 (↑k5:Int)),(10,.sl false 1 8 (rows K7 (get ((get a0.relations k1).tuples) k5))),(78,.sl false 3 48 (rows w7.cells a0.relations)),(79,.int .i64 (↑a0.relations.length:Int)),(80,.int .i64 (↑k1:Int)),(118,.sl false 1 24 (rows (slc 1 8 K7) ((get a0.relations k1).tuples))),(119,.int .i64 (↑(((get a0.relations k1).tuples).length):Int)),(120,.int .i64 (↑k5:Int))])
           (fun(gt7:Unit) (t7:Unit)=>st++[some (.arr 0 3 0 [[.int .i64 a0.size,.sl false 2 24 (rows A0.cells a0.constants),.sl false 3 48 (rows w7.cells a0.relations)]]),some (.arr 0 2 0 [[.int .i64 0,.int .i64 0]]),some (.arr 0 1 0 [[.int .i64 (↑k1:Int)]]),some (.arr 0 3 0 [[.str ((get a0.relations k1).name),.int .i64 ((get a0.relations k1).arity),.sl false 1 24 (rows (slc 1 8 K7) ((get a0.relations k1).tuples))]])])
           () fx hl7 h (bm hsc)
           (fun gs7 k7 s7 b7 fx h hx7=>?_) (fun gs7 s7=>?_) (fun gt7 t7 fr1 st1 h hb=>?_)
          ·unfold V6 at h
           refine ct ?_
           refine cd h (fun hc h=>?_) fun hc h=>?_
           ·refine rn ?_
            obtain⟨v57,hv57,h⟩:=J5 h
            refine(T3 _ _ _ hv57 _ _ (by simp) (eM.trans rfl)).mono ?_
            rintro d1 st1 ⟨rfl,rfl⟩
            refine ra ?_
            cases h
            refine E3 ?_;obtain rfl:=hx7 _ rfl;try simp only[go_sem,fx]
            refine E3 ?_;obtain rfl:=hx5 _ rfl;try simp only[go_sem,fx]
            refine E3 ?_;have h:=congrArg some (hx1 _ rfl)
            exact rt
           ·refine rn ?_
            cases h
            exact cj () (bm hsc)
          ·refine cf ?_
           refine cM ?_;simp only[go_sem,fx]
           exact⟨(),(bm hsc)⟩
          ·try simp only[go_sem,fx]
           unfold dJ at h
           refine L6 hb ?_
           obtain⟨fx,h⟩:=ck fx h
           refine rn ?_
           obtain⟨v61,hv61,h⟩:=J5 h
           refine bR (fun hG=>(bE _ _ _ (qh hv61 (by simpa using hG)))) ?_
           refine cd h (fun hc h=>?_) fun hc h=>?_
           ·refine rn ?_
            obtain⟨v62,hv62,h⟩:=J5 h
            refine(T3 _ _ _ hv62 _ _ (by simp) (eM.trans rfl)).mono ?_
            rintro d1 st1 ⟨rfl,rfl⟩
            refine ra ?_
            cases h
            refine E3 ?_;obtain rfl:=hx5 _ rfl;try simp only[go_sem,fx]
            refine E3 ?_;have h:=congrArg some (hx1 _ rfl)
            exact rt
           ·refine rn ?_
            cases h
            exact cj () (bm hsc)
        ·refine cf ?_
         refine cM ?_;simp only[go_sem,fx]
         exact⟨(),(bm hsc)⟩
        ·try simp only[go_sem,fx]
         unfold bf at h
         refine L6 hb ?_
         refine rn ?_
         cases h
         exact cj () (bm hsc)
    ·refine cf ?_
     refine cM ?_;simp only[go_sem,fx]
     exact⟨(),(bm hsc)⟩
    ·try simp only[go_sem,fx]
     unfold dK at h
     refine L6 hb ?_
     exact rt
end Go.Proofs.YtanlbioodbnakaaGreatDoor
