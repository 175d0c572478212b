import Derived.Test.YtfacbpehlibilaaGreatDoorTAWalk8
set_option linter.unusedVariables false
set_option linter.unusedSimpArgs false
set_option maxHeartbeats 2000000
set_option maxRecDepth 100000
namespace Go.Proofs.YtfacbpehlibilaaGreatDoor
open Go Go.Am
theorem d4c(n:Nat)(a0:(List Bs))(a1:(List Bs))(r:Bool)(h:Yc n a0 a1=some r):Pure Tryz.prog gl 24 [.sl false 1 16 (rows Wt a0),.sl false 1 16 (rows Wt a1)] (.bool r):=by
 intro st
 unfold Yc at h
 have fx:=trivial
 refine fb 26 [.tmp 4] [0,1,4,5,10,14,25] Tryz.func24 fun hsc=>?_
 refine cd h (fun hc h=>?_) fun hc h=>?_
 ·exact rt
 ·refine rn ?_
  refine d7x (body:=XG a0 a1) (kk:=Zx) (n:=n) (s0:=0)
   (fun(gs0:Unit) (s0:Int)=>[(0,.sl false 1 16 (rows Wt a0)),(1,.sl false 1 16 (rows Wt a1)),(5,.int .i64 s0)])
   (fun(gs0:Unit) (s0:Int)=>st)
   (fun(gt0:Unit) (t0:Unit)=>[])
   (fun(gt0:Unit) (t0:Unit)=>st)
   () h (d8H hsc)
   (fun gs0 s0 b0 h hx0=>?_) (fun gt0 t0 fr1 st1 h hb=>?_)
  ·unfold XG at h
   refine cd h (fun hc h=>?_) fun hc h=>?_
   ·refine rn ?_
    obtain⟨fx,h⟩:=ck fx h
    obtain⟨fx,h⟩:=ck fx h
    refine dw [] 0 ?_
    refine cd h (fun hc h=>?_) fun hc h=>?_
    ·refine ra ?_
     cases h
     refine i5v ?_;have h:=congrArg some (hx0 _ rfl)
     exact rt
    ·refine rn ?_
     cases h
     exact i2u () (d8H hsc)
   ·refine rn ?_
    cases h
    exact i2v () (d8H hsc)
  ·try simp only[go_sem,fx]
   unfold Zx at h
   refine Zk hb ?_
   exact rt
theorem d1Q:∀(n:Nat) (a0:Lr) (a1:Lr) (r:Bool) (h:Xj n a0 a1=some r),Pure Tryz.prog gl 18 [.agg [.int .i64 a0.kind,.str a0.name,.sl false 1 16 (rows Wt a0.words),.sl false 4 72 (rows Lr.cells a0.subs)],.agg [.int .i64 a1.kind,.str a1.name,.sl false 1 16 (rows Wt a1.words),.sl false 4 72 (rows Lr.cells a1.subs)]] (.bool r):=by
 intro n
 induction n with
 |zero=>intro a0 a1 r h;cases h
 |succ n ih=>
  intro a0 a1 r h st
  unfold Xj at h
  have fx:=trivial
  refine fb 54 [.tmp 4] [0,1,2,3,4,5,12,13,14,15,16,19,20,21,22,23,24,27,28,29,30,31,32,33,34,39,53] Tryz.func18 fun hsc=>?_
  refine rn ?_
  obtain⟨v1,hv1,h⟩:=ZA h
  refine d2H (fun hG=>(d4c n _ _ _ (i5t hv1 (by simpa using hG)))) ?_
  refine cd h (fun hc h=>?_) fun hc h=>?_
  ·exact rt
  ·refine rn ?_
   refine d7x (body:=XP (Xj n) a0 a1) (kk:=ZC) (n:=n) (s0:=0)
    (fun(gs0:Unit) (s0:Int)=>[(2,.ptr st.length 0 0 0),(3,.ptr (st.length+1) 0 0 0),(5,.int .i64 s0)])
    (fun(gs0:Unit) (s0:Int)=>st++[some (.arr 0 4 0 [[.int .i64 a0.kind,.str a0.name,.sl false 1 16 (rows Wt a0.words),.sl false 4 72 (rows Lr.cells a0.subs)]]),some (.arr 0 4 0 [[.int .i64 a1.kind,.str a1.name,.sl false 1 16 (rows Wt a1.words),.sl false 4 72 (rows Lr.cells a1.subs)]])])
    (fun(gt0:Unit) (t0:Unit)=>[])
    (fun(gt0:Unit) (t0:Unit)=>st)
    () h (bm hsc)
    (fun gs0 s0 b0 h hx0=>?_) (fun gt0 t0 fr1 st1 h hb=>?_)
   ·unfold XP at h
    refine cd h (fun hc h=>?_) fun hc h=>?_
    ·refine rn ?_
     obtain⟨fx,h⟩:=ck fx h
     obtain⟨fx,h⟩:=ck fx h
     refine dw [] 0 ?_
     obtain⟨v8,hv8,h⟩:=ZA h
     refine d1v (ih _ _ _ hv8) ?_
     try simp only[go_sem,fx]
     refine cd h (fun hc h=>?_) fun hc h=>?_
     ·refine ra ?_
      cases h
      refine i5v ?_;have h:=congrArg some (hx0 _ rfl)
      exact rt
     ·refine rn ?_
      cases h
      exact i2u () (bm hsc)
    ·refine rn ?_
     cases h
     exact i2v () (bm0 hsc)
   ·try simp only[go_sem,fx]
    unfold ZC at h
    refine Zk hb ?_
    exact rt
theorem d3j(n:Nat)(r:Bool)(h:XA n=some r):Pure Tryz.prog gl 10 [] (.bool r):=by
 intro st
 unfold XA at h
 have fx:=trivial
 refine fb 68 [.tmp 0] [0,1,2,3,4,5,6,7,47,48,49,52,53,54,57,58,59,62,63,64,65,66] Tryz.func10 fun hsc=>?_
 refine cl h (XS _ _) fun v2 h=>?_
 refine cl h (XS _ _) fun v5 h=>?_
 refine cl h (XS _ _) fun v7 h=>?_
 refine cl h (d2Z _ _ _) fun v8 h=>?_
 refine cl h (XS _ _) fun v10 h=>?_
 try simp only[go_sem,fx]
 (repeat apply sq_)
 refine Zk (F:=[(1,.ptr st.length 0 0 0),(2,.ptr (st.length+2) 0 0 0)]) (T:=st++[some (.arr 0 11 0 [[.int .i64 v2.kind,.str v2.name,.sl false 1 16 (rows Wt v2.words),.sl false 4 72 (rows Lr.cells v2.subs),.sl false 1 16 [[.str [120]]],.WB,.WB,.int .i64 v8.kind,.str v8.name,.sl false 1 16 (rows Wt v8.words),.sl false 4 72 (rows Lr.cells v8.subs)]]),some (.arr 0 4 72 (rows Lr.cells [v10])),some (.arr 0 4 0 [[.int .i64 9,.str [121],.WB,.ref true (st.length+1) 0 0 1]])]) (i8C hsc (.lv (.live _ _ _ _ (by simp only[go_sem,rows,List.map_cons,List.map_nil];exact .same _) (.lv (.nil _)))) (by simp) ⟨.s,.s,trivial⟩ (by simp)) ?_
 (repeat apply sq_)
 refine Zk (F:=[(1,.ptr st.length 0 0 0),(2,.ptr (st.length+2) 0 0 0)]) (T:=st++[some (.arr 0 11 0 [[.int .i64 v2.kind,.str v2.name,.sl false 1 16 (rows Wt v2.words),.sl false 4 72 (rows Lr.cells v2.subs),.sl false 1 16 [[.str [120]]],.WB,.WB,.int .i64 v8.kind,.str v8.name,.sl false 1 16 (rows Wt v8.words),.sl false 4 72 (rows Lr.cells v8.subs)]]),none,some (.arr 0 4 0 [[.int .i64 9,.str [121],.WB,.sl false 4 72 (rows Lr.cells [v10])]])]) (i8C hsc (.lv (.dead _ _ _ (.live _ _ _ _ (.arr _ _ _ _ _ (.cons _ _ _ _ (.cons _ _ _ _ .s (.cons _ _ _ _ .s (.cons _ _ _ _ .s (.cons _ _ _ _ (.ref _ _ _ _ _ _ _ _ _ (i2t.trans rfl) (d4H.trans rfl) (by decide) (d5x _) (by simp only[go_sem])) .nil)))) (.same _))) (.nil _)))) (by simp) ⟨.s,.s,trivial⟩ (by simp)) ?_
 refine cl h (XS _ _) fun v13 h=>?_
 refine cl h (XS _ _) fun v15 h=>?_
 refine cl h (d2Z _ _ _) fun v16 h=>?_
 try simp only[go_sem,fx]
 (repeat apply sq_)
 refine Zk (F:=[(1,.ptr st.length 0 0 0),(2,.ptr (st.length+2) 0 0 0),(3,.ptr (st.length+4) 0 0 0)]) (T:=st++[some (.arr 0 11 0 [[.int .i64 v2.kind,.str v2.name,.sl false 1 16 (rows Wt v2.words),.sl false 4 72 (rows Lr.cells v2.subs),.sl false 1 16 [[.str [120]]],.WB,.WB,.int .i64 v8.kind,.str v8.name,.sl false 1 16 (rows Wt v8.words),.sl false 4 72 (rows Lr.cells v8.subs)]]),none,some (.arr 0 4 0 [[.int .i64 9,.str [121],.WB,.sl false 4 72 (rows Lr.cells [v10])]]),some (.arr 0 4 72 (rows Lr.cells [v16])),some (.arr 0 4 0 [[.int .i64 9,.str [118,48],.WB,.ref true (st.length+3) 0 0 1]])]) (i8C hsc (.lv (.dead _ _ _ (.lv (.live _ _ _ _ (by simp only[go_sem,rows,List.map_cons,List.map_nil];exact .same _) (.lv (.nil _)))))) (by simp) ⟨.s,.s,.s,trivial⟩ (by simp)) ?_
 (repeat apply sq_)
 refine Zk (F:=[(1,.ptr st.length 0 0 0),(2,.ptr (st.length+2) 0 0 0),(3,.ptr (st.length+4) 0 0 0)]) (T:=st++[some (.arr 0 11 0 [[.int .i64 v2.kind,.str v2.name,.sl false 1 16 (rows Wt v2.words),.sl false 4 72 (rows Lr.cells v2.subs),.sl false 1 16 [[.str [120]]],.WB,.WB,.int .i64 v8.kind,.str v8.name,.sl false 1 16 (rows Wt v8.words),.sl false 4 72 (rows Lr.cells v8.subs)]]),none,some (.arr 0 4 0 [[.int .i64 9,.str [121],.WB,.sl false 4 72 (rows Lr.cells [v10])]]),none,some (.arr 0 4 0 [[.int .i64 9,.str [118,48],.WB,.sl false 4 72 (rows Lr.cells [v16])]])]) (i8C hsc (.lv (.dead _ _ _ (.lv (.dead _ _ _ (.live _ _ _ _ (.arr _ _ _ _ _ (.cons _ _ _ _ (.cons _ _ _ _ .s (.cons _ _ _ _ .s (.cons _ _ _ _ .s (.cons _ _ _ _ (.ref _ _ _ _ _ _ _ _ _ (i2t.trans rfl) (d4H.trans rfl) (by decide) (d5x _) (by simp only[go_sem])) .nil)))) (.same _))) (.nil _)))))) (by simp) ⟨.s,.s,.s,trivial⟩ (by simp)) ?_
 refine rn ?_
 obtain⟨v19,hv19,h⟩:=ZA h
 refine i9V (st:=st++[some (.arr 0 11 0 [[.int .i64 v2.kind,.str v2.name,.sl false 1 16 (rows Wt v2.words),.sl false 4 72 (rows Lr.cells v2.subs),.sl false 1 16 [[.str [120]]],.WB,.WB,.int .i64 v8.kind,.str v8.name,.sl false 1 16 (rows Wt v8.words),.sl false 4 72 (rows Lr.cells v8.subs)]]),none,some (.arr 0 4 0 [[.int .i64 9,.str [121],.WB,.sl false 4 72 (rows Lr.cells [v10])]]),none,some (.arr 0 4 0 [[.int .i64 9,.str [118,48],.WB,.sl false 4 72 (rows Lr.cells [v16])]]),some (.arr 0 11 216 [[.int .i64 v2.kind,.str v2.name,.sl false 1 16 (rows Wt v2.words),.sl false 4 72 (rows Lr.cells v2.subs),.sl false 1 16 [[.str [120]]],.WB,.WB,.int .i64 v8.kind,.str v8.name,.sl false 1 16 (rows Wt v8.words),.sl false 4 72 (rows Lr.cells v8.subs)]])]) (args:=[.ref true (st.length+5) 0 0 1,.agg [.int .i64 9,.str [121],.WB,.sl false 4 72 (rows Lr.cells [v10])]]) (T:=st++[some (.arr 0 11 0 [[.int .i64 v2.kind,.str v2.name,.sl false 1 16 (rows Wt v2.words),.sl false 4 72 (rows Lr.cells v2.subs),.sl false 1 16 [[.str [120]]],.WB,.WB,.int .i64 v8.kind,.str v8.name,.sl false 1 16 (rows Wt v8.words),.sl false 4 72 (rows Lr.cells v8.subs)]]),none,some (.arr 0 4 0 [[.int .i64 9,.str [121],.WB,.sl false 4 72 (rows Lr.cells [v10])]]),none,some (.arr 0 4 0 [[.int .i64 9,.str [118,48],.WB,.sl false 4 72 (rows Lr.cells [v16])]]),some (.arr 0 11 216 [[.int .i64 v2.kind,.str v2.name,.sl false 1 16 (rows Wt v2.words),.sl false 4 72 (rows Lr.cells v2.subs),.sl false 1 16 [[.str [120]]],.sl false 1 16 [],.sl false 1 16 [],.int .i64 v8.kind,.str v8.name,.sl false 1 16 (rows Wt v8.words),.sl false 4 72 (rows Lr.cells v8.subs)]])]) (i2q hsc (.lv (.dead _ _ _ (.lv (.dead _ _ _ (.lv (.live _ _ _ _ (.arr _ _ _ _ _ (.cons _ _ _ _ (.cons _ _ _ _ .s (.cons _ _ _ _ .s (.cons _ _ _ _ .s (.cons _ _ _ _ .s (.cons _ _ _ _ .s (.cons _ _ _ _ (.WB _ _ _ (by decide)) (.cons _ _ _ _ (.WB _ _ _ (by decide)) (.cons _ _ _ _ .s (.cons _ _ _ _ .s (.cons _ _ _ _ .s (.cons _ _ _ _ .s .nil))))))))))) .nil)) (.nil _))))))) (by simp)) (by simp) (by simp) ((d3C n _ _ _ hv19).freeze (st:=st++[some (.arr 0 11 0 [[.int .i64 v2.kind,.str v2.name,.sl false 1 16 (rows Wt v2.words),.sl false 4 72 (rows Lr.cells v2.subs),.sl false 1 16 [[.str [120]]],.WB,.WB,.int .i64 v8.kind,.str v8.name,.sl false 1 16 (rows Wt v8.words),.sl false 4 72 (rows Lr.cells v8.subs)]]),none,some (.arr 0 4 0 [[.int .i64 9,.str [121],.WB,.sl false 4 72 (rows Lr.cells [v10])]]),none,some (.arr 0 4 0 [[.int .i64 9,.str [118,48],.WB,.sl false 4 72 (rows Lr.cells [v16])]]),some (.arr 0 11 216 [[.int .i64 v2.kind,.str v2.name,.sl false 1 16 (rows Wt v2.words),.sl false 4 72 (rows Lr.cells v2.subs),.sl false 1 16 [[.str [120]]],.sl false 1 16 [],.sl false 1 16 [],.int .i64 v8.kind,.str v8.name,.sl false 1 16 (rows Wt v8.words),.sl false 4 72 (rows Lr.cells v8.subs)]])]) (args:=[.ref true (st.length+5) 0 0 1,.agg [.int .i64 9,.str [121],.WB,.sl false 4 72 (rows Lr.cells [v10])]]) (T:=st++[some (.arr 0 11 0 [[.int .i64 v2.kind,.str v2.name,.sl false 1 16 (rows Wt v2.words),.sl false 4 72 (rows Lr.cells v2.subs),.sl false 1 16 [[.str [120]]],.WB,.WB,.int .i64 v8.kind,.str v8.name,.sl false 1 16 (rows Wt v8.words),.sl false 4 72 (rows Lr.cells v8.subs)]]),none,some (.arr 0 4 0 [[.int .i64 9,.str [121],.WB,.sl false 4 72 (rows Lr.cells [v10])]]),none,some (.arr 0 4 0 [[.int .i64 9,.str [118,48],.WB,.sl false 4 72 (rows Lr.cells [v16])]]),none]) (i2q hsc (.lv (.dead _ _ _ (.lv (.dead _ _ _ (.lv (.dead _ _ _ (.nil _))))))) (by simp)) (by simp) (.cons _ _ _ _ (.ref _ _ _ _ _ _ _ _ _ (i2t.trans rfl) (d4H.trans rfl) (by decide) (by simp[Imm,D.imm]) (by simp only[go_sem,rows,List.map_cons,List.map_nil])) (.cons _ _ _ _ (.agg _ _ (.cons _ _ _ _ .s (.cons _ _ _ _ .s (.cons _ _ _ _ (.WB _ _ _ (by decide)) (.cons _ _ _ _ .s .nil))))) .nil)) (by simp) ?_)
 refine rn ?_
 obtain⟨v21,hv21,h⟩:=ZA h
 refine i9V (st:=st++[some (.arr 0 11 0 [[.int .i64 v2.kind,.str v2.name,.sl false 1 16 (rows Wt v2.words),.sl false 4 72 (rows Lr.cells v2.subs),.sl false 1 16 [[.str [120]]],.WB,.WB,.int .i64 v8.kind,.str v8.name,.sl false 1 16 (rows Wt v8.words),.sl false 4 72 (rows Lr.cells v8.subs)]]),none,some (.arr 0 4 0 [[.int .i64 9,.str [121],.WB,.sl false 4 72 (rows Lr.cells [v10])]]),none,some (.arr 0 4 0 [[.int .i64 9,.str [118,48],.WB,.sl false 4 72 (rows Lr.cells [v16])]]),none,some (.arr 0 4 0 [[.int .i64 v19.1.kind,.str v19.1.name,.sl false 1 16 (rows Wt v19.1.words),.sl false 4 72 (rows Lr.cells v19.1.subs)]]),some (.arr 0 2 0 [[.int .i64 v19.2.code,.int .i64 v19.2.index]]),some (.arr 0 11 216 [[.int .i64 v2.kind,.str v2.name,.sl false 1 16 (rows Wt v2.words),.sl false 4 72 (rows Lr.cells v2.subs),.sl false 1 16 [[.str [120]]],.WB,.WB,.int .i64 v8.kind,.str v8.name,.sl false 1 16 (rows Wt v8.words),.sl false 4 72 (rows Lr.cells v8.subs)]])]) (args:=[.ref true (st.length+8) 0 0 1,.agg [.int .i64 9,.str [121],.WB,.sl false 4 72 (rows Lr.cells [v10])]]) (T:=st++[some (.arr 0 11 0 [[.int .i64 v2.kind,.str v2.name,.sl false 1 16 (rows Wt v2.words),.sl false 4 72 (rows Lr.cells v2.subs),.sl false 1 16 [[.str [120]]],.WB,.WB,.int .i64 v8.kind,.str v8.name,.sl false 1 16 (rows Wt v8.words),.sl false 4 72 (rows Lr.cells v8.subs)]]),none,some (.arr 0 4 0 [[.int .i64 9,.str [121],.WB,.sl false 4 72 (rows Lr.cells [v10])]]),none,some (.arr 0 4 0 [[.int .i64 9,.str [118,48],.WB,.sl false 4 72 (rows Lr.cells [v16])]]),none,some (.arr 0 4 0 [[.int .i64 v19.1.kind,.str v19.1.name,.sl false 1 16 (rows Wt v19.1.words),.sl false 4 72 (rows Lr.cells v19.1.subs)]]),some (.arr 0 2 0 [[.int .i64 v19.2.code,.int .i64 v19.2.index]]),some (.arr 0 11 216 [[.int .i64 v2.kind,.str v2.name,.sl false 1 16 (rows Wt v2.words),.sl false 4 72 (rows Lr.cells v2.subs),.sl false 1 16 [[.str [120]]],.sl false 1 16 [],.sl false 1 16 [],.int .i64 v8.kind,.str v8.name,.sl false 1 16 (rows Wt v8.words),.sl false 4 72 (rows Lr.cells v8.subs)]])]) (i2q hsc (.lv (.dead _ _ _ (.lv (.dead _ _ _ (.lv (.dead _ _ _ (.lv (.lv (.live _ _ _ _ (.arr _ _ _ _ _ (.cons _ _ _ _ (.cons _ _ _ _ .s (.cons _ _ _ _ .s (.cons _ _ _ _ .s (.cons _ _ _ _ .s (.cons _ _ _ _ .s (.cons _ _ _ _ (.WB _ _ _ (by decide)) (.cons _ _ _ _ (.WB _ _ _ (by decide)) (.cons _ _ _ _ .s (.cons _ _ _ _ .s (.cons _ _ _ _ .s (.cons _ _ _ _ .s .nil))))))))))) .nil)) (.nil _)))))))))) (by simp)) (by simp) (by simp) ((d9a n _ _ _ hv21).freeze (st:=st++[some (.arr 0 11 0 [[.int .i64 v2.kind,.str v2.name,.sl false 1 16 (rows Wt v2.words),.sl false 4 72 (rows Lr.cells v2.subs),.sl false 1 16 [[.str [120]]],.WB,.WB,.int .i64 v8.kind,.str v8.name,.sl false 1 16 (rows Wt v8.words),.sl false 4 72 (rows Lr.cells v8.subs)]]),none,some (.arr 0 4 0 [[.int .i64 9,.str [121],.WB,.sl false 4 72 (rows Lr.cells [v10])]]),none,some (.arr 0 4 0 [[.int .i64 9,.str [118,48],.WB,.sl false 4 72 (rows Lr.cells [v16])]]),none,some (.arr 0 4 0 [[.int .i64 v19.1.kind,.str v19.1.name,.sl false 1 16 (rows Wt v19.1.words),.sl false 4 72 (rows Lr.cells v19.1.subs)]]),some (.arr 0 2 0 [[.int .i64 v19.2.code,.int .i64 v19.2.index]]),some (.arr 0 11 216 [[.int .i64 v2.kind,.str v2.name,.sl false 1 16 (rows Wt v2.words),.sl false 4 72 (rows Lr.cells v2.subs),.sl false 1 16 [[.str [120]]],.sl false 1 16 [],.sl false 1 16 [],.int .i64 v8.kind,.str v8.name,.sl false 1 16 (rows Wt v8.words),.sl false 4 72 (rows Lr.cells v8.subs)]])]) (args:=[.ref true (st.length+8) 0 0 1,.agg [.int .i64 9,.str [121],.WB,.sl false 4 72 (rows Lr.cells [v10])]]) (T:=st++[some (.arr 0 11 0 [[.int .i64 v2.kind,.str v2.name,.sl false 1 16 (rows Wt v2.words),.sl false 4 72 (rows Lr.cells v2.subs),.sl false 1 16 [[.str [120]]],.WB,.WB,.int .i64 v8.kind,.str v8.name,.sl false 1 16 (rows Wt v8.words),.sl false 4 72 (rows Lr.cells v8.subs)]]),none,some (.arr 0 4 0 [[.int .i64 9,.str [121],.WB,.sl false 4 72 (rows Lr.cells [v10])]]),none,some (.arr 0 4 0 [[.int .i64 9,.str [118,48],.WB,.sl false 4 72 (rows Lr.cells [v16])]]),none,some (.arr 0 4 0 [[.int .i64 v19.1.kind,.str v19.1.name,.sl false 1 16 (rows Wt v19.1.words),.sl false 4 72 (rows Lr.cells v19.1.subs)]]),some (.arr 0 2 0 [[.int .i64 v19.2.code,.int .i64 v19.2.index]]),none]) (i2q hsc (.lv (.dead _ _ _ (.lv (.dead _ _ _ (.lv (.dead _ _ _ (.lv (.lv (.dead _ _ _ (.nil _)))))))))) (by simp)) (by simp) (.cons _ _ _ _ (.ref _ _ _ _ _ _ _ _ _ (i2t.trans rfl) (d4H.trans rfl) (by decide) (by simp[Imm,D.imm]) (by simp only[go_sem,rows,List.map_cons,List.map_nil])) (.cons _ _ _ _ (.agg _ _ (.cons _ _ _ _ .s (.cons _ _ _ _ .s (.cons _ _ _ _ (.WB _ _ _ (by decide)) (.cons _ _ _ _ .s .nil))))) .nil)) (by simp) ?_)
 refine rn ?_
 obtain⟨v22,hv22,h⟩:=ZA h
 refine d2H (fun hG=>((d1Q n _ _ _ (i5t hv22 (by simpa using hG))).up (fun _=>(.cons _ _ _ _ .s (.cons _ _ _ _ (.agg _ _ (.cons _ _ _ _ .s (.cons _ _ _ _ .s (.cons _ _ _ _ (.WB _ _ _ (by decide)) (.cons _ _ _ _ .s .nil))))) .nil))) (.inr fun n=>by simp))) ?_
 obtain⟨fx,h⟩:=ck fx h
 exact rt
theorem d7d(n:Nat)(a0:Lr)(r:Lr×WC)(h:d0Y n a0=some r):Pure Tryz.prog gl 19 [.agg [.int .i64 a0.kind,.str a0.name,.sl false 1 16 (rows Wt a0.words),.sl false 4 72 (rows Lr.cells a0.subs)]] (.tup [.agg [.int .i64 r.1.kind,.str r.1.name,.sl false 1 16 (rows Wt r.1.words),.sl false 4 72 (rows Lr.cells r.1.subs)],.agg [.int .i64 r.2.code,.int .i64 r.2.index]]):=by
 intro st
 unfold d0Y at h
 have fx:=trivial
 refine fb 15 [.cell 2 31,.cell 3 25] [0,1,2,3,4,9] Tryz.func19 fun hsc=>?_
 refine cl h (d1q n _) fun v1 h=>?_
 refine cd h (fun hc h=>?_) fun hc h=>?_
 ·refine rs ?_
  refine dw [1,2] 0 ?_
  try refine⟨by first|omega|(simp<;>omega),?_⟩
  refine rr ?_
  exact fo (.tup [.agg [.int .i64 0,.str [],.sl false 1 16 (rows Wt []),.sl false 4 72 (rows Lr.cells [])],.agg [.int .i64 v1.code,.int .i64 v1.index]]) (.tup _ _ (.cons _ _ _ _ (.agg _ _ (.cons _ _ _ _ .s (.cons _ _ _ _ .s (.cons _ _ _ _ (.WB _ _ _ (by decide)) (.cons _ _ _ _ (.WB _ _ _ (by decide)) .nil))))) (.cons _ _ _ _ .s .nil)) rfl) h hsc
 ·refine cl h (d6b n _) fun v2 h=>?_
  exact rt
theorem d3e(n:Nat)(a0:(List Wq))(a1:Lr)(r:Bool)(h:Yh n a0 a1=some r):Pure Tryz.prog gl 6 [.sl false 11 216 (rows Wq.cells a0),.agg [.int .i64 a1.kind,.str a1.name,.sl false 1 16 (rows Wt a1.words),.sl false 4 72 (rows Lr.cells a1.subs)]] (.bool r):=by
 intro st
 unfold Yh at h
 have fx:=trivial
 refine fb 40 [.tmp 4] [0,1,3,4,5,6,7,8,9,11,19,36,37,38] Tryz.func6 fun hsc=>?_
 refine cl h (d3j n) fun v1 h=>?_
 refine cd h (fun hc h=>?_) fun hc h=>?_
 ·exact rt
 ·refine cl h (d7d n _) fun v2 h=>?_
  refine cd h (fun hc h=>?_) fun hc h=>?_
  ·exact rt
  ·refine cl h (d3C n _ _) fun v3 h=>?_
   refine cl h (d3C n _ _) fun v4 h=>?_
   refine rn ?_
   obtain⟨v5,hv5,h⟩:=ZA h
   refine d2H (fun hG=>(d1Q n _ _ _ (i5t hv5 (by simpa using hG)))) ?_
   exact rt
end Go.Proofs.YtfacbpehlibilaaGreatDoor
