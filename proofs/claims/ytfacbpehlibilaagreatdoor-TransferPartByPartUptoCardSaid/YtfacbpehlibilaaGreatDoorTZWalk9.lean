import Derived.Test.YtfacbpehlibilaaGreatDoorTZWalk8
set_option linter.unusedVariables false
set_option linter.unusedSimpArgs false
set_option maxHeartbeats 2000000
set_option maxRecDepth 100000
namespace Go.Proofs.YtfacbpehlibilaaGreatDoor
open Go Go.Am
theorem cA(n:Nat)(a0:(List Bs))(a1:(List Bs))(r:Bool)(h:I3 n a0 a1=some r):Pure Tryz.prog gl 24 [.sl false 1 16 (rows w7 a0),.sl false 1 16 (rows w7 a1)] (.bool r):=by
 intro st
 unfold I3 at h
 have fx:=trivial
 refine fb 26 [.tmp 4] [0,1,4,5,10,14,25] Tryz.func24 fun hsc=>?_
 refine cd h (fun hc h=>?_) fun hc h=>?_
 ·exact rt
 ·refine rn ?_
  refine eD (body:=I9 a0 a1) (kk:=V3) (n:=n) (s0:=0)
   (fun(gs0:Unit) (s0:Int)=>[(0,.sl false 1 16 (rows w7 a0)),(1,.sl false 1 16 (rows w7 a1)),(5,.int .i64 s0)])
   (fun(gs0:Unit) (s0:Int)=>st)
   (fun(gt0:Unit) (t0:Unit)=>[])
   (fun(gt0:Unit) (t0:Unit)=>st)
   () h (nM hsc)
   (fun gs0 s0 b0 h hx0=>?_) (fun gt0 t0 fr1 st1 h hb=>?_)
  ·unfold I9 at h
   refine cd h (fun hc h=>?_) fun hc h=>?_
   ·refine rn ?_
    obtain⟨fx,h⟩:=ck fx h
    obtain⟨fx,h⟩:=ck fx h
    refine dw [] 0 ?_
    refine cd h (fun hc h=>?_) fun hc h=>?_
    ·refine ra ?_
     cases h
     refine oS ?_;have h:=congrArg some (hx0 _ rfl)
     exact rt
    ·refine rn ?_
     cases h
     exact jT () (nM hsc)
   ·refine rn ?_
    cases h
    exact jU () (nM hsc)
  ·try simp only[go_sem,fx]
   unfold V3 at h
   refine Q9 hb ?_
   exact rt
theorem G2:∀(n:Nat) (a0:u5) (a1:u5) (r:Bool) (h:C6 n a0 a1=some r),Pure Tryz.prog gl 18 [.agg [.int .i64 a0.kind,.str a0.name,.sl false 1 16 (rows w7 a0.words),.sl false 4 72 (rows u5.cells a0.subs)],.agg [.int .i64 a1.kind,.str a1.name,.sl false 1 16 (rows w7 a1.words),.sl false 4 72 (rows u5.cells a1.subs)]] (.bool r):=by
 intro n
 induction n with
 |zero=>intro a0 a1 r h;cases h
 |succ n ih=>
  intro a0 a1 r h st
  unfold C6 at h
  have fx:=trivial
  refine fb 54 [.tmp 4] [0,1,2,3,4,5,12,13,14,15,16,19,20,21,22,23,24,27,28,29,30,31,32,33,34,39,53] Tryz.func18 fun hsc=>?_
  refine rn ?_
  obtain⟨v1,hv1,h⟩:=P8 h
  refine aV (fun hG=>(cA n _ _ _ (qj hv1 (by simpa using hG)))) ?_
  refine cd h (fun hc h=>?_) fun hc h=>?_
  ·exact rt
  ·refine rn ?_
   refine eD (body:=J9 (C6 n) a0 a1) (kk:=V8) (n:=n) (s0:=0)
    (fun(gs0:Unit) (s0:Int)=>[(2,.ptr st.length 0 0 0),(3,.ptr (st.length+1) 0 0 0),(5,.int .i64 s0)])
    (fun(gs0:Unit) (s0:Int)=>st++[some (.arr 0 4 0 [[.int .i64 a0.kind,.str a0.name,.sl false 1 16 (rows w7 a0.words),.sl false 4 72 (rows u5.cells a0.subs)]]),some (.arr 0 4 0 [[.int .i64 a1.kind,.str a1.name,.sl false 1 16 (rows w7 a1.words),.sl false 4 72 (rows u5.cells a1.subs)]])])
    (fun(gt0:Unit) (t0:Unit)=>[])
    (fun(gt0:Unit) (t0:Unit)=>st)
    () h (bm hsc)
    (fun gs0 s0 b0 h hx0=>?_) (fun gt0 t0 fr1 st1 h hb=>?_)
   ·unfold J9 at h
    refine cd h (fun hc h=>?_) fun hc h=>?_
    ·refine rn ?_
     obtain⟨fx,h⟩:=ck fx h
     obtain⟨fx,h⟩:=ck fx h
     refine dw [] 0 ?_
     obtain⟨v8,hv8,h⟩:=P8 h
     refine cj (ih _ _ _ hv8) ?_
     try simp only[go_sem,fx]
     refine cd h (fun hc h=>?_) fun hc h=>?_
     ·refine ra ?_
      cases h
      refine oS ?_;have h:=congrArg some (hx0 _ rfl)
      exact rt
     ·refine rn ?_
      cases h
      exact jT () (bm hsc)
    ·refine rn ?_
     cases h
     exact jU () (bm0 hsc)
   ·try simp only[go_sem,fx]
    unfold V8 at h
    refine Q9 hb ?_
    exact rt
theorem P4(n:Nat)(r:Bool)(h:E4 n=some r):Pure Tryz.prog gl 10 [] (.bool r):=by
 intro st
 unfold E4 at h
 have fx:=trivial
 refine fb 68 [.tmp 0] [0,1,2,3,4,5,6,7,47,48,49,52,53,54,57,58,59,62,63,64,65,66] Tryz.func10 fun hsc=>?_
 refine cl h (G0 _ _) fun v2 h=>?_
 refine cl h (G0 _ _) fun v5 h=>?_
 refine cl h (G0 _ _) fun v7 h=>?_
 refine cl h (V5 _ _ _) fun v8 h=>?_
 refine cl h (G0 _ _) fun v10 h=>?_
 try simp only[go_sem,fx]
 (repeat apply sq_)
 refine Q9 (F:=[(1,.ptr st.length 0 0 0),(2,.ptr (st.length+2) 0 0 0)]) (T:=st++[some (.arr 0 11 0 [[.int .i64 v2.kind,.str v2.name,.sl false 1 16 (rows w7 v2.words),.sl false 4 72 (rows u5.cells v2.subs),.sl false 1 16 [[.str [120]]],.A9,.A9,.int .i64 v8.kind,.str v8.name,.sl false 1 16 (rows w7 v8.words),.sl false 4 72 (rows u5.cells v8.subs)]]),some (.arr 0 4 72 (rows u5.cells [v10])),some (.arr 0 4 0 [[.int .i64 9,.str [121],.A9,.ref true (st.length+1) 0 0 1]])]) (BL hsc (.lv (.live _ _ _ _ (by simp only[go_sem,rows,List.map_cons,List.map_nil];exact .same _) (.lv (.nil _)))) (by simp) ⟨.s,.s,trivial⟩ (by simp)) ?_
 (repeat apply sq_)
 refine Q9 (F:=[(1,.ptr st.length 0 0 0),(2,.ptr (st.length+2) 0 0 0)]) (T:=st++[some (.arr 0 11 0 [[.int .i64 v2.kind,.str v2.name,.sl false 1 16 (rows w7 v2.words),.sl false 4 72 (rows u5.cells v2.subs),.sl false 1 16 [[.str [120]]],.A9,.A9,.int .i64 v8.kind,.str v8.name,.sl false 1 16 (rows w7 v8.words),.sl false 4 72 (rows u5.cells v8.subs)]]),none,some (.arr 0 4 0 [[.int .i64 9,.str [121],.A9,.sl false 4 72 (rows u5.cells [v10])]])]) (BL hsc (.lv (.dead _ _ _ (.live _ _ _ _ (.arr _ _ _ _ _ (.cons _ _ _ _ (.cons _ _ _ _ .s (.cons _ _ _ _ .s (.cons _ _ _ _ .s (.cons _ _ _ _ (.ref _ _ _ _ _ _ _ _ _ (oD.trans rfl) (jm.trans rfl) (by decide) (jS _) (by simp only[go_sem])) .nil)))) (.same _))) (.nil _)))) (by simp) ⟨.s,.s,trivial⟩ (by simp)) ?_
 refine cl h (G0 _ _) fun v13 h=>?_
 refine cl h (G0 _ _) fun v15 h=>?_
 refine cl h (V5 _ _ _) fun v16 h=>?_
 try simp only[go_sem,fx]
 (repeat apply sq_)
 refine Q9 (F:=[(1,.ptr st.length 0 0 0),(2,.ptr (st.length+2) 0 0 0),(3,.ptr (st.length+4) 0 0 0)]) (T:=st++[some (.arr 0 11 0 [[.int .i64 v2.kind,.str v2.name,.sl false 1 16 (rows w7 v2.words),.sl false 4 72 (rows u5.cells v2.subs),.sl false 1 16 [[.str [120]]],.A9,.A9,.int .i64 v8.kind,.str v8.name,.sl false 1 16 (rows w7 v8.words),.sl false 4 72 (rows u5.cells v8.subs)]]),none,some (.arr 0 4 0 [[.int .i64 9,.str [121],.A9,.sl false 4 72 (rows u5.cells [v10])]]),some (.arr 0 4 72 (rows u5.cells [v16])),some (.arr 0 4 0 [[.int .i64 9,.str [118,48],.A9,.ref true (st.length+3) 0 0 1]])]) (BL hsc (.lv (.dead _ _ _ (.lv (.live _ _ _ _ (by simp only[go_sem,rows,List.map_cons,List.map_nil];exact .same _) (.lv (.nil _)))))) (by simp) ⟨.s,.s,.s,trivial⟩ (by simp)) ?_
 (repeat apply sq_)
 refine Q9 (F:=[(1,.ptr st.length 0 0 0),(2,.ptr (st.length+2) 0 0 0),(3,.ptr (st.length+4) 0 0 0)]) (T:=st++[some (.arr 0 11 0 [[.int .i64 v2.kind,.str v2.name,.sl false 1 16 (rows w7 v2.words),.sl false 4 72 (rows u5.cells v2.subs),.sl false 1 16 [[.str [120]]],.A9,.A9,.int .i64 v8.kind,.str v8.name,.sl false 1 16 (rows w7 v8.words),.sl false 4 72 (rows u5.cells v8.subs)]]),none,some (.arr 0 4 0 [[.int .i64 9,.str [121],.A9,.sl false 4 72 (rows u5.cells [v10])]]),none,some (.arr 0 4 0 [[.int .i64 9,.str [118,48],.A9,.sl false 4 72 (rows u5.cells [v16])]])]) (BL hsc (.lv (.dead _ _ _ (.lv (.dead _ _ _ (.live _ _ _ _ (.arr _ _ _ _ _ (.cons _ _ _ _ (.cons _ _ _ _ .s (.cons _ _ _ _ .s (.cons _ _ _ _ .s (.cons _ _ _ _ (.ref _ _ _ _ _ _ _ _ _ (oD.trans rfl) (jm.trans rfl) (by decide) (jS _) (by simp only[go_sem])) .nil)))) (.same _))) (.nil _)))))) (by simp) ⟨.s,.s,.s,trivial⟩ (by simp)) ?_
 refine rn ?_
 obtain⟨v19,hv19,h⟩:=P8 h
 refine Fu (st:=st++[some (.arr 0 11 0 [[.int .i64 v2.kind,.str v2.name,.sl false 1 16 (rows w7 v2.words),.sl false 4 72 (rows u5.cells v2.subs),.sl false 1 16 [[.str [120]]],.A9,.A9,.int .i64 v8.kind,.str v8.name,.sl false 1 16 (rows w7 v8.words),.sl false 4 72 (rows u5.cells v8.subs)]]),none,some (.arr 0 4 0 [[.int .i64 9,.str [121],.A9,.sl false 4 72 (rows u5.cells [v10])]]),none,some (.arr 0 4 0 [[.int .i64 9,.str [118,48],.A9,.sl false 4 72 (rows u5.cells [v16])]]),some (.arr 0 11 216 [[.int .i64 v2.kind,.str v2.name,.sl false 1 16 (rows w7 v2.words),.sl false 4 72 (rows u5.cells v2.subs),.sl false 1 16 [[.str [120]]],.A9,.A9,.int .i64 v8.kind,.str v8.name,.sl false 1 16 (rows w7 v8.words),.sl false 4 72 (rows u5.cells v8.subs)]])]) (args:=[.ref true (st.length+5) 0 0 1,.agg [.int .i64 9,.str [121],.A9,.sl false 4 72 (rows u5.cells [v10])]]) (T:=st++[some (.arr 0 11 0 [[.int .i64 v2.kind,.str v2.name,.sl false 1 16 (rows w7 v2.words),.sl false 4 72 (rows u5.cells v2.subs),.sl false 1 16 [[.str [120]]],.A9,.A9,.int .i64 v8.kind,.str v8.name,.sl false 1 16 (rows w7 v8.words),.sl false 4 72 (rows u5.cells v8.subs)]]),none,some (.arr 0 4 0 [[.int .i64 9,.str [121],.A9,.sl false 4 72 (rows u5.cells [v10])]]),none,some (.arr 0 4 0 [[.int .i64 9,.str [118,48],.A9,.sl false 4 72 (rows u5.cells [v16])]]),some (.arr 0 11 216 [[.int .i64 v2.kind,.str v2.name,.sl false 1 16 (rows w7 v2.words),.sl false 4 72 (rows u5.cells v2.subs),.sl false 1 16 [[.str [120]]],.sl false 1 16 [],.sl false 1 16 [],.int .i64 v8.kind,.str v8.name,.sl false 1 16 (rows w7 v8.words),.sl false 4 72 (rows u5.cells v8.subs)]])]) (sj hsc (.lv (.dead _ _ _ (.lv (.dead _ _ _ (.lv (.live _ _ _ _ (.arr _ _ _ _ _ (.cons _ _ _ _ (.cons _ _ _ _ .s (.cons _ _ _ _ .s (.cons _ _ _ _ .s (.cons _ _ _ _ .s (.cons _ _ _ _ .s (.cons _ _ _ _ (.A9 _ _ _ (by decide)) (.cons _ _ _ _ (.A9 _ _ _ (by decide)) (.cons _ _ _ _ .s (.cons _ _ _ _ .s (.cons _ _ _ _ .s (.cons _ _ _ _ .s .nil))))))))))) .nil)) (.nil _))))))) (by simp)) (by simp) (by simp) ((W4 n _ _ _ hv19).freeze (st:=st++[some (.arr 0 11 0 [[.int .i64 v2.kind,.str v2.name,.sl false 1 16 (rows w7 v2.words),.sl false 4 72 (rows u5.cells v2.subs),.sl false 1 16 [[.str [120]]],.A9,.A9,.int .i64 v8.kind,.str v8.name,.sl false 1 16 (rows w7 v8.words),.sl false 4 72 (rows u5.cells v8.subs)]]),none,some (.arr 0 4 0 [[.int .i64 9,.str [121],.A9,.sl false 4 72 (rows u5.cells [v10])]]),none,some (.arr 0 4 0 [[.int .i64 9,.str [118,48],.A9,.sl false 4 72 (rows u5.cells [v16])]]),some (.arr 0 11 216 [[.int .i64 v2.kind,.str v2.name,.sl false 1 16 (rows w7 v2.words),.sl false 4 72 (rows u5.cells v2.subs),.sl false 1 16 [[.str [120]]],.sl false 1 16 [],.sl false 1 16 [],.int .i64 v8.kind,.str v8.name,.sl false 1 16 (rows w7 v8.words),.sl false 4 72 (rows u5.cells v8.subs)]])]) (args:=[.ref true (st.length+5) 0 0 1,.agg [.int .i64 9,.str [121],.A9,.sl false 4 72 (rows u5.cells [v10])]]) (T:=st++[some (.arr 0 11 0 [[.int .i64 v2.kind,.str v2.name,.sl false 1 16 (rows w7 v2.words),.sl false 4 72 (rows u5.cells v2.subs),.sl false 1 16 [[.str [120]]],.A9,.A9,.int .i64 v8.kind,.str v8.name,.sl false 1 16 (rows w7 v8.words),.sl false 4 72 (rows u5.cells v8.subs)]]),none,some (.arr 0 4 0 [[.int .i64 9,.str [121],.A9,.sl false 4 72 (rows u5.cells [v10])]]),none,some (.arr 0 4 0 [[.int .i64 9,.str [118,48],.A9,.sl false 4 72 (rows u5.cells [v16])]]),none]) (sj hsc (.lv (.dead _ _ _ (.lv (.dead _ _ _ (.lv (.dead _ _ _ (.nil _))))))) (by simp)) (by simp) (.cons _ _ _ _ (.ref _ _ _ _ _ _ _ _ _ (oD.trans rfl) (jm.trans rfl) (by decide) (by simp[Imm,D.imm]) (by simp only[go_sem,rows,List.map_cons,List.map_nil])) (.cons _ _ _ _ (.agg _ _ (.cons _ _ _ _ .s (.cons _ _ _ _ .s (.cons _ _ _ _ (.A9 _ _ _ (by decide)) (.cons _ _ _ _ .s .nil))))) .nil)) (by simp) ?_)
 refine rn ?_
 obtain⟨v21,hv21,h⟩:=P8 h
 refine Fu (st:=st++[some (.arr 0 11 0 [[.int .i64 v2.kind,.str v2.name,.sl false 1 16 (rows w7 v2.words),.sl false 4 72 (rows u5.cells v2.subs),.sl false 1 16 [[.str [120]]],.A9,.A9,.int .i64 v8.kind,.str v8.name,.sl false 1 16 (rows w7 v8.words),.sl false 4 72 (rows u5.cells v8.subs)]]),none,some (.arr 0 4 0 [[.int .i64 9,.str [121],.A9,.sl false 4 72 (rows u5.cells [v10])]]),none,some (.arr 0 4 0 [[.int .i64 9,.str [118,48],.A9,.sl false 4 72 (rows u5.cells [v16])]]),none,some (.arr 0 4 0 [[.int .i64 v19.1.kind,.str v19.1.name,.sl false 1 16 (rows w7 v19.1.words),.sl false 4 72 (rows u5.cells v19.1.subs)]]),some (.arr 0 2 0 [[.int .i64 v19.2.code,.int .i64 v19.2.index]]),some (.arr 0 11 216 [[.int .i64 v2.kind,.str v2.name,.sl false 1 16 (rows w7 v2.words),.sl false 4 72 (rows u5.cells v2.subs),.sl false 1 16 [[.str [120]]],.A9,.A9,.int .i64 v8.kind,.str v8.name,.sl false 1 16 (rows w7 v8.words),.sl false 4 72 (rows u5.cells v8.subs)]])]) (args:=[.ref true (st.length+8) 0 0 1,.agg [.int .i64 9,.str [121],.A9,.sl false 4 72 (rows u5.cells [v10])]]) (T:=st++[some (.arr 0 11 0 [[.int .i64 v2.kind,.str v2.name,.sl false 1 16 (rows w7 v2.words),.sl false 4 72 (rows u5.cells v2.subs),.sl false 1 16 [[.str [120]]],.A9,.A9,.int .i64 v8.kind,.str v8.name,.sl false 1 16 (rows w7 v8.words),.sl false 4 72 (rows u5.cells v8.subs)]]),none,some (.arr 0 4 0 [[.int .i64 9,.str [121],.A9,.sl false 4 72 (rows u5.cells [v10])]]),none,some (.arr 0 4 0 [[.int .i64 9,.str [118,48],.A9,.sl false 4 72 (rows u5.cells [v16])]]),none,some (.arr 0 4 0 [[.int .i64 v19.1.kind,.str v19.1.name,.sl false 1 16 (rows w7 v19.1.words),.sl false 4 72 (rows u5.cells v19.1.subs)]]),some (.arr 0 2 0 [[.int .i64 v19.2.code,.int .i64 v19.2.index]]),some (.arr 0 11 216 [[.int .i64 v2.kind,.str v2.name,.sl false 1 16 (rows w7 v2.words),.sl false 4 72 (rows u5.cells v2.subs),.sl false 1 16 [[.str [120]]],.sl false 1 16 [],.sl false 1 16 [],.int .i64 v8.kind,.str v8.name,.sl false 1 16 (rows w7 v8.words),.sl false 4 72 (rows u5.cells v8.subs)]])]) (sj hsc (.lv (.dead _ _ _ (.lv (.dead _ _ _ (.lv (.dead _ _ _ (.lv (.lv (.live _ _ _ _ (.arr _ _ _ _ _ (.cons _ _ _ _ (.cons _ _ _ _ .s (.cons _ _ _ _ .s (.cons _ _ _ _ .s (.cons _ _ _ _ .s (.cons _ _ _ _ .s (.cons _ _ _ _ (.A9 _ _ _ (by decide)) (.cons _ _ _ _ (.A9 _ _ _ (by decide)) (.cons _ _ _ _ .s (.cons _ _ _ _ .s (.cons _ _ _ _ .s (.cons _ _ _ _ .s .nil))))))))))) .nil)) (.nil _)))))))))) (by simp)) (by simp) (by simp) ((qu n _ _ _ hv21).freeze (st:=st++[some (.arr 0 11 0 [[.int .i64 v2.kind,.str v2.name,.sl false 1 16 (rows w7 v2.words),.sl false 4 72 (rows u5.cells v2.subs),.sl false 1 16 [[.str [120]]],.A9,.A9,.int .i64 v8.kind,.str v8.name,.sl false 1 16 (rows w7 v8.words),.sl false 4 72 (rows u5.cells v8.subs)]]),none,some (.arr 0 4 0 [[.int .i64 9,.str [121],.A9,.sl false 4 72 (rows u5.cells [v10])]]),none,some (.arr 0 4 0 [[.int .i64 9,.str [118,48],.A9,.sl false 4 72 (rows u5.cells [v16])]]),none,some (.arr 0 4 0 [[.int .i64 v19.1.kind,.str v19.1.name,.sl false 1 16 (rows w7 v19.1.words),.sl false 4 72 (rows u5.cells v19.1.subs)]]),some (.arr 0 2 0 [[.int .i64 v19.2.code,.int .i64 v19.2.index]]),some (.arr 0 11 216 [[.int .i64 v2.kind,.str v2.name,.sl false 1 16 (rows w7 v2.words),.sl false 4 72 (rows u5.cells v2.subs),.sl false 1 16 [[.str [120]]],.sl false 1 16 [],.sl false 1 16 [],.int .i64 v8.kind,.str v8.name,.sl false 1 16 (rows w7 v8.words),.sl false 4 72 (rows u5.cells v8.subs)]])]) (args:=[.ref true (st.length+8) 0 0 1,.agg [.int .i64 9,.str [121],.A9,.sl false 4 72 (rows u5.cells [v10])]]) (T:=st++[some (.arr 0 11 0 [[.int .i64 v2.kind,.str v2.name,.sl false 1 16 (rows w7 v2.words),.sl false 4 72 (rows u5.cells v2.subs),.sl false 1 16 [[.str [120]]],.A9,.A9,.int .i64 v8.kind,.str v8.name,.sl false 1 16 (rows w7 v8.words),.sl false 4 72 (rows u5.cells v8.subs)]]),none,some (.arr 0 4 0 [[.int .i64 9,.str [121],.A9,.sl false 4 72 (rows u5.cells [v10])]]),none,some (.arr 0 4 0 [[.int .i64 9,.str [118,48],.A9,.sl false 4 72 (rows u5.cells [v16])]]),none,some (.arr 0 4 0 [[.int .i64 v19.1.kind,.str v19.1.name,.sl false 1 16 (rows w7 v19.1.words),.sl false 4 72 (rows u5.cells v19.1.subs)]]),some (.arr 0 2 0 [[.int .i64 v19.2.code,.int .i64 v19.2.index]]),none]) (sj hsc (.lv (.dead _ _ _ (.lv (.dead _ _ _ (.lv (.dead _ _ _ (.lv (.lv (.dead _ _ _ (.nil _)))))))))) (by simp)) (by simp) (.cons _ _ _ _ (.ref _ _ _ _ _ _ _ _ _ (oD.trans rfl) (jm.trans rfl) (by decide) (by simp[Imm,D.imm]) (by simp only[go_sem,rows,List.map_cons,List.map_nil])) (.cons _ _ _ _ (.agg _ _ (.cons _ _ _ _ .s (.cons _ _ _ _ .s (.cons _ _ _ _ (.A9 _ _ _ (by decide)) (.cons _ _ _ _ .s .nil))))) .nil)) (by simp) ?_)
 refine rn ?_
 obtain⟨v22,hv22,h⟩:=P8 h
 refine aV (fun hG=>((G2 n _ _ _ (qj hv22 (by simpa using hG))).up (fun _=>(.cons _ _ _ _ .s (.cons _ _ _ _ (.agg _ _ (.cons _ _ _ _ .s (.cons _ _ _ _ .s (.cons _ _ _ _ (.A9 _ _ _ (by decide)) (.cons _ _ _ _ .s .nil))))) .nil))) (.inr fun n=>by simp))) ?_
 obtain⟨fx,h⟩:=ck fx h
 exact rt
theorem iK(n:Nat)(a0:u5)(r:u5×B1)(h:W3 n a0=some r):Pure Tryz.prog gl 19 [.agg [.int .i64 a0.kind,.str a0.name,.sl false 1 16 (rows w7 a0.words),.sl false 4 72 (rows u5.cells a0.subs)]] (.tup [.agg [.int .i64 r.1.kind,.str r.1.name,.sl false 1 16 (rows w7 r.1.words),.sl false 4 72 (rows u5.cells r.1.subs)],.agg [.int .i64 r.2.code,.int .i64 r.2.index]]):=by
 intro st
 unfold W3 at h
 have fx:=trivial
 refine fb 15 [.cell 2 31,.cell 3 25] [0,1,2,3,4,9] Tryz.func19 fun hsc=>?_
 refine cl h (bU n _) fun v1 h=>?_
 refine cd h (fun hc h=>?_) fun hc h=>?_
 ·refine rs ?_
  refine dw [1,2] 0 ?_
  try refine⟨by first|omega|(simp<;>omega),?_⟩
  refine rr ?_
  exact fo (.tup [.agg [.int .i64 0,.str [],.sl false 1 16 (rows w7 []),.sl false 4 72 (rows u5.cells [])],.agg [.int .i64 v1.code,.int .i64 v1.index]]) (.tup _ _ (.cons _ _ _ _ (.agg _ _ (.cons _ _ _ _ .s (.cons _ _ _ _ .s (.cons _ _ _ _ (.A9 _ _ _ (by decide)) (.cons _ _ _ _ (.A9 _ _ _ (by decide)) .nil))))) (.cons _ _ _ _ .s .nil)) rfl) h hsc
 ·refine cl h (ly n _) fun v2 h=>?_
  exact rt
theorem fq(n:Nat)(a0:Bs)(a1:Bs)(a2:Int)(r:u6×B1)(h:J0 n a0 a1 a2=some r):Pure Tryz.prog gl 21 [.str a0,.str a1,.int .i64 a2] (.tup [.agg [.int .i64 r.1.from_.form.kind,.str r.1.from_.form.name,.sl false 1 16 (rows w7 r.1.from_.form.words),.sl false 4 72 (rows u5.cells r.1.from_.form.subs),.sl false 1 16 (rows w7 r.1.from_.words),.sl false 1 16 (rows w7 r.1.from_.C4),.sl false 1 16 (rows w7 r.1.from_.parts),.int .i64 r.1.to_.kind,.str r.1.to_.name,.sl false 1 16 (rows w7 r.1.to_.words),.sl false 4 72 (rows u5.cells r.1.to_.subs)],.agg [.int .i64 r.2.code,.int .i64 r.2.index]]):=by
 intro st
 unfold J0 at h
 have fx:=trivial
 refine fb 72 [.cell 6 49,.cell 7 25] [0,1,2,6,7,8,9,10,13,18,24,25,26,36,37,38] Tryz.func21 fun hsc=>?_
 refine cl h (iI _) fun v1 h=>?_
 refine cd h (fun hc h=>?_) fun hc h=>?_
 ·refine cl h (G6 _ _) fun v2 h=>?_
  refine rr ?_
  exact fo (.tup [.agg [.int .i64 0,.str [],.sl false 1 16 (rows w7 []),.sl false 4 72 (rows u5.cells []),.sl false 1 16 (rows w7 []),.sl false 1 16 (rows w7 []),.sl false 1 16 (rows w7 []),.int .i64 0,.str [],.sl false 1 16 (rows w7 []),.sl false 4 72 (rows u5.cells [])],.agg [.int .i64 v2.code,.int .i64 v2.index]]) (.tup _ _ (.cons _ _ _ _ (.agg _ _ (.cons _ _ _ _ .s (.cons _ _ _ _ .s (.cons _ _ _ _ (.A9 _ _ _ (by decide)) (.cons _ _ _ _ (.A9 _ _ _ (by decide)) (.cons _ _ _ _ (.A9 _ _ _ (by decide)) (.cons _ _ _ _ (.A9 _ _ _ (by decide)) (.cons _ _ _ _ (.A9 _ _ _ (by decide)) (.cons _ _ _ _ .s (.cons _ _ _ _ .s (.cons _ _ _ _ (.A9 _ _ _ (by decide)) (.cons _ _ _ _ (.A9 _ _ _ (by decide)) .nil)))))))))))) (.cons _ _ _ _ .s .nil)) rfl) h hsc
 ·refine cl h (iI _) fun v3 h=>?_
  refine cd h (fun hc h=>?_) fun hc h=>?_
  ·refine cl h (G6 _ _) fun v4 h=>?_
   refine rr ?_
   exact fo (.tup [.agg [.int .i64 0,.str [],.sl false 1 16 (rows w7 []),.sl false 4 72 (rows u5.cells []),.sl false 1 16 (rows w7 []),.sl false 1 16 (rows w7 []),.sl false 1 16 (rows w7 []),.int .i64 0,.str [],.sl false 1 16 (rows w7 []),.sl false 4 72 (rows u5.cells [])],.agg [.int .i64 v4.code,.int .i64 v4.index]]) (.tup _ _ (.cons _ _ _ _ (.agg _ _ (.cons _ _ _ _ .s (.cons _ _ _ _ .s (.cons _ _ _ _ (.A9 _ _ _ (by decide)) (.cons _ _ _ _ (.A9 _ _ _ (by decide)) (.cons _ _ _ _ (.A9 _ _ _ (by decide)) (.cons _ _ _ _ (.A9 _ _ _ (by decide)) (.cons _ _ _ _ (.A9 _ _ _ (by decide)) (.cons _ _ _ _ .s (.cons _ _ _ _ .s (.cons _ _ _ _ (.A9 _ _ _ (by decide)) (.cons _ _ _ _ (.A9 _ _ _ (by decide)) .nil)))))))))))) (.cons _ _ _ _ .s .nil)) rfl) h hsc
  ·refine cd h (fun hc h=>?_) fun hc h=>?_
   ·refine cl h (G6 _ _) fun v5 h=>?_
    refine rr ?_
    exact fo (.tup [.agg [.int .i64 0,.str [],.sl false 1 16 (rows w7 []),.sl false 4 72 (rows u5.cells []),.sl false 1 16 (rows w7 []),.sl false 1 16 (rows w7 []),.sl false 1 16 (rows w7 []),.int .i64 0,.str [],.sl false 1 16 (rows w7 []),.sl false 4 72 (rows u5.cells [])],.agg [.int .i64 v5.code,.int .i64 v5.index]]) (.tup _ _ (.cons _ _ _ _ (.agg _ _ (.cons _ _ _ _ .s (.cons _ _ _ _ .s (.cons _ _ _ _ (.A9 _ _ _ (by decide)) (.cons _ _ _ _ (.A9 _ _ _ (by decide)) (.cons _ _ _ _ (.A9 _ _ _ (by decide)) (.cons _ _ _ _ (.A9 _ _ _ (by decide)) (.cons _ _ _ _ (.A9 _ _ _ (by decide)) (.cons _ _ _ _ .s (.cons _ _ _ _ .s (.cons _ _ _ _ (.A9 _ _ _ (by decide)) (.cons _ _ _ _ (.A9 _ _ _ (by decide)) .nil)))))))))))) (.cons _ _ _ _ .s .nil)) rfl) h hsc
   ·refine r0 ?_
    refine r0 ?_
    refine r0 ?_
    refine r0 ?_
    refine r0 ?_
    (repeat apply sq_)
    refine W6 1 16 ?_
    refine W6 1 16 ?_
    refine W6 1 16 ?_
    try simp only[List.append_assoc,List.cons_append,List.nil_append]
    refine Q9 (F:=[(6,.ptr st.length 0 0 0),(7,.ptr (st.length+1) 0 0 0),(8,.ptr (st.length+2) 0 0 0),(36,.int .i64 a2),(37,.int .i64 0)]) (T:=st++[some (.arr 0 11 0 [[.int .i64 0,.str [],.A9,.A9,.A9,.A9,.A9,.int .i64 0,.str [],.A9,.A9]]),some (.arr 0 2 0 [[.int .i64 0,.int .i64 0]]),some (.arr 0 11 0 [[.int .i64 2,.str a0,.ref false (st.length+3) 0 0 0,.A9,.ref false (st.length+4) 0 0 0,.A9,.A9,.int .i64 2,.str a1,.ref false (st.length+5) 0 0 0,.A9]]),some (.arr 0 1 16 (rows w7 [])),some (.arr 0 1 16 (rows w7 [])),some (.arr 0 1 16 (rows w7 []))]) (BL hsc (.lv (.lv (.live _ _ _ _ (.arr _ _ _ _ _ (.cons _ _ _ _ (.cons _ _ _ _ .s (.cons _ _ _ _ .s (.cons _ _ _ _ (.nref _ _ _ _ _ _ (oD.trans rfl)) (.cons _ _ _ _ .s (.cons _ _ _ _ (.nref _ _ _ _ _ _ (oD.trans rfl)) (.cons _ _ _ _ .s (.cons _ _ _ _ .s (.cons _ _ _ _ .s (.cons _ _ _ _ .s (.cons _ _ _ _ (.nref _ _ _ _ _ _ (oD.trans rfl)) (.cons _ _ _ _ .s .nil))))))))))) (.same _))) (.lv (.lv (.lv (.nil _))))))) (by simp) ⟨.s,.s,.s,.s,.s,trivial⟩ (by simp)) ?_
    (repeat apply sq_)
    refine eD (body:=Y5 a2) (kk:=bQ a0 a1) (n:=n) (s0:=([],[],[],0))
     (fun(gs0:Nat×Nat×Nat) (s0:(List Bs)×(List Bs)×(List Bs)×Int)=>[(6,.ptr st.length 0 0 0),(7,.ptr (st.length+1) 0 0 0),(8,.ptr (st.length+2) 0 0 0),(36,.int .i64 a2),(37,.int .i64 s0.2.2.2)])
     (fun(gs0:Nat×Nat×Nat) (s0:(List Bs)×(List Bs)×(List Bs)×Int)=>st++[some (.arr 0 11 0 [[.int .i64 0,.str [],.A9,.A9,.A9,.A9,.A9,.int .i64 0,.str [],.A9,.A9]]),some (.arr 0 2 0 [[.int .i64 0,.int .i64 0]]),some (.arr 0 11 0 [[.int .i64 2,.str a0,.ref false (st.length+3) gs0.1 0 s0.1.length,.A9,.ref false (st.length+4) gs0.2.1 0 s0.2.1.length,.A9,.A9,.int .i64 2,.str a1,.ref false (st.length+5) gs0.2.2 0 s0.2.2.1.length,.A9]]),some (.arr gs0.1 1 16 (rows w7 s0.1)),some (.arr gs0.2.1 1 16 (rows w7 s0.2.1)),some (.arr gs0.2.2 1 16 (rows w7 s0.2.2.1))])
     (fun(gt0:Nat×Nat×Nat) (t0:(List Bs)×(List Bs)×(List Bs))=>[(6,.ptr st.length 0 0 0),(7,.ptr (st.length+1) 0 0 0),(8,.ptr (st.length+2) 0 0 0)])
     (fun(gt0:Nat×Nat×Nat) (t0:(List Bs)×(List Bs)×(List Bs))=>st++[some (.arr 0 11 0 [[.int .i64 0,.str [],.A9,.A9,.A9,.A9,.A9,.int .i64 0,.str [],.A9,.A9]]),some (.arr 0 2 0 [[.int .i64 0,.int .i64 0]]),some (.arr 0 11 0 [[.int .i64 2,.str a0,.ref false (st.length+3) gt0.1 0 t0.1.length,.A9,.ref false (st.length+4) gt0.2.1 0 t0.2.1.length,.A9,.A9,.int .i64 2,.str a1,.ref false (st.length+5) gt0.2.2 0 t0.2.2.length,.A9]]),some (.arr gt0.1 1 16 (rows w7 t0.1)),some (.arr gt0.2.1 1 16 (rows w7 t0.2.1)),some (.arr gt0.2.2 1 16 (rows w7 t0.2.2))])
     (0,0,0) h (bm hsc)
     (fun gs0 s0 b0 h hx0=>?_) (fun gt0 t0 fr1 st1 h hb=>?_)
    ·unfold Y5 at h
     refine cd h (fun hc h=>?_) fun hc h=>?_
     ·refine cl h (pI _) fun v26 h=>?_
      obtain⟨fx,h⟩:=ck fx h
      try simp only[go_sem,fx]
      obtain⟨c29,Pb,h⟩:=gX h
      have fy:=(show rows w7 s0.2.1++[[.str (lP [120] v26)]]=rows w7 c29 from by rw[Pb];first|exact E1 (E:=w7) s0.2.1 [(lP [120] v26)]|simp only[go_sem,rows,List.map_append,List.map_cons,List.map_nil])
      have fy:=fa fy (show s0.2.1.length+1=c29.length from by rw[Pb];simp)
      obtain⟨fx,h⟩:=ck fx h
      refine r1 ?_
      obtain⟨c35,Pc,h⟩:=gX h
      have fy:=(show rows w7 s0.1++[[.str (lP [120] v26)]]=rows w7 c35 from by rw[Pc];first|exact E1 (E:=w7) s0.1 [(lP [120] v26)]|simp only[go_sem,rows,List.map_append,List.map_cons,List.map_nil])
      have fy:=fa fy (show s0.1.length+1=c35.length from by rw[Pc];simp)
      obtain⟨fx,h⟩:=ck fx h
      refine r1 ?_
      obtain⟨c41,Sr,h⟩:=gX h
      have fy:=(show rows w7 s0.2.2.1++[[.str (lP [120] v26)]]=rows w7 c41 from by rw[Sr];first|exact E1 (E:=w7) s0.2.2.1 [(lP [120] v26)]|simp only[go_sem,rows,List.map_append,List.map_cons,List.map_nil])
      have fy:=fa fy (show s0.2.2.1.length+1=c41.length from by rw[Sr];simp)
      obtain⟨fx,h⟩:=ck fx h
      refine r1 ?_
      refine rn ?_
      cases h
      exact jT ((gs0.1+1),(gs0.2.1+1),(gs0.2.2+1)) (bm hsc)
     ·refine rn ?_
      cases h
      exact jU (gs0.1,gs0.2.1,gs0.2.2) (bm hsc)
    ·try simp only[go_sem,fx]
     unfold bQ at h
     refine Q9 hb ?_
     refine rr ?_
     exact fo (.tup [.agg [.int .i64 2,.str a0,.sl false 1 16 (rows w7 t0.1),.sl false 4 72 (rows u5.cells []),.sl false 1 16 (rows w7 t0.2.1),.sl false 1 16 (rows w7 []),.sl false 1 16 (rows w7 []),.int .i64 2,.str a1,.sl false 1 16 (rows w7 t0.2.2),.sl false 4 72 (rows u5.cells [])],.agg [.int .i64 0,.int .i64 0]]) (.tup _ _ (.cons _ _ _ _ (.agg _ _ (.cons _ _ _ _ .s (.cons _ _ _ _ .s (.cons _ _ _ _ (.ref _ _ _ _ _ _ _ _ _ (oD.trans rfl) DP (by decide) (jS _) (by simp only[go_sem])) (.cons _ _ _ _ (.A9 _ _ _ (by decide)) (.cons _ _ _ _ (.ref _ _ _ _ _ _ _ _ _ (oD.trans rfl) DP (by decide) (jS _) (by simp only[go_sem])) (.cons _ _ _ _ (.A9 _ _ _ (by decide)) (.cons _ _ _ _ (.A9 _ _ _ (by decide)) (.cons _ _ _ _ .s (.cons _ _ _ _ .s (.cons _ _ _ _ (.ref _ _ _ _ _ _ _ _ _ (oD.trans rfl) DP (by decide) (jS _) (by simp only[go_sem])) (.cons _ _ _ _ (.A9 _ _ _ (by decide)) .nil)))))))))))) (.cons _ _ _ _ .s .nil)) rfl) h hsc
end Go.Proofs.YtfacbpehlibilaaGreatDoor
