import Derived.Test.YtdjnbjnlnjhllaaGreatDoorFIWalk11
set_option linter.unusedVariables false
set_option linter.unusedSimpArgs false
set_option maxHeartbeats 2000000
set_option maxRecDepth 100000
namespace Go.Proofs.YtdjnbjnlnjhllaaGreatDoor
open Go Go.Am
theorem x5f:∀(n:Nat) (a0:(List w3U)) (a1:Int) (r:Int) (h:w5K n a0 a1=some r),Pure Tryz.prog gl 19 [.sl false 5 80 (rows w3U.cells a0),.int .i64 a1] (.int .i64 r):=by
 intro n
 induction n with
 |zero=>intro a0 a1 r h;cases h
 |succ n ih=>
  intro a0 a1 r h st
  unfold w5K at h
  have fx:=trivial
  refine fb 35 [.tmp 4] [0,1,4,5,6,7,8,18,26] Tryz.func19 fun hsc=>?_
  refine rn ?_
  refine w4m (body:=w6y (w5K n) a1 a0) (kk:=w8n) (n:=n) (s0:=(0,(wr .i64 (a1+1)),0))
   (fun(gs0:Unit) (s0:Int×Int×Int)=>[(0,.sl false 5 80 (rows w3U.cells a0)),(1,.int .i64 a1),(5,.int .i64 s0.1),(6,.int .i64 s0.2.1),(7,.int .i64 s0.2.2)])
   (fun(gs0:Unit) (s0:Int×Int×Int)=>st)
   (fun(gt0:Unit) (t0:Int)=>[(5,.int .i64 t0)])
   (fun(gt0:Unit) (t0:Int)=>st)
   () h (x4b hsc)
   (fun gs0 s0 b0 h hx0=>?_) (fun gt0 t0 fr1 st1 h hb=>?_)
  ·unfold w6y at h
   obtain⟨fx,h⟩:=ck fx h
   refine cl h (x0s _) fun v11 h=>?_
   refine cd h (fun hc h=>?_) fun hc h=>?_
   ·refine cl h (ih _ _) fun v12 h=>?_
    refine cd h (fun hc h=>?_) fun hc h=>?_
    ·obtain⟨fx,h⟩:=ck fx h
     refine rn ?_
     cases h
     exact w4s () (x4b hsc)
    ·obtain⟨fx,h⟩:=ck fx h
     refine rn ?_
     cases h
     exact w4s () (x4b hsc)
   ·refine rn ?_
    cases h
    exact w4H () (x4b hsc)
  ·try simp only[go_sem,fx]
   unfold w8n at h
   refine w5A hb ?_
   exact rt
theorem w9v(n:Nat)(a0:w3W)(a1:(List w3V))(r:Bool)(h:w4v n a0 a1=some r):Pure Tryz.prog gl 4 [.agg [.int .i64 a0.form.kind,.str a0.form.name,.sl false 1 16 (rows w3X a0.form.words),.sl false 4 72 (rows w3T.cells a0.form.subs),.sl false 1 16 (rows w3X a0.words),.sl false 1 16 (rows w3X a0.w4a),.sl false 1 16 (rows w3X a0.parts)],.sl false 6 104 (rows w3V.cells a1)] (.bool r):=by
 intro st
 unfold w4v at h
 have fx:=trivial
 refine fb 75 [.tmp 4] [0,1,2,4,5,6,7,8,9,11,22,27,28,38,43,44,54,55,56,57,62,63,69,70,71,72,73] Tryz.func4 fun hsc=>?_
 refine cl h (x2d n) fun v1 h=>?_
 refine cd h (fun hc h=>?_) fun hc h=>?_
 ·exact rt
 ·refine cl h (x6f n _ _) fun v2 h=>?_
  refine cl h (x2X n _) fun v3 h=>?_
  refine cd h (fun hc h=>?_) fun hc h=>?_
  ·refine rn ?_
   obtain⟨v4,hv4,h⟩:=w7w h
   refine x0C (fun hG=>(w9P n _ _ (x8s hv4 (by simpa using hG)))) ?_
   exact rt
  ·refine cl h (x2Y n _) fun v5 h=>?_
   refine cl h (x2p n _ _ _) fun v6 h=>?_
   refine cd h (fun hc h=>?_) fun hc h=>?_
   ·refine rn ?_
    obtain⟨v7,hv7,h⟩:=w7w h
    refine x0C (fun hG=>(w9P n _ _ (x8s hv7 (by simpa using hG)))) ?_
    exact rt
   ·refine cl h (x3U n _ _ _) fun v8 h=>?_
    refine rn ?_
    obtain⟨v9,hv9,h⟩:=w7w h
    refine x0C (fun hG=>(x5f n _ _ _ (x8s hv9 (by simpa using hG)))) ?_
    refine cd h (fun hc h=>?_) fun hc h=>?_
    ·refine rn ?_
     obtain⟨v10,hv10,h⟩:=w7w h
     refine x0C (fun hG=>(w9P n _ _ (x8s hv10 (by simpa using hG)))) ?_
     exact rt
    ·refine rn ?_
     refine dw [] 0 ?_
     obtain⟨v11,hv11,h⟩:=w7w h
     refine x4T (fun hG=>(x4H n _ _ _ (x8s hv11 (by simpa using hG)))) ?_
     try simp only[go_sem,fx]
     obtain⟨v12,hv12,h⟩:=w7w h
     refine x4T (fun hG=>(x3O n _ _ (x8s hv12 (by simpa using hG)))) ?_
     try simp only[go_sem,fx]
     obtain⟨v13,hv13,h⟩:=w7w h
     refine x4T (fun hG=>(w6P n _ _ _ (x8s hv13 (by simpa using hG)))) ?_
     try simp only[go_sem,fx]
     exact rt
end Go.Proofs.YtdjnbjnlnjhllaaGreatDoor
