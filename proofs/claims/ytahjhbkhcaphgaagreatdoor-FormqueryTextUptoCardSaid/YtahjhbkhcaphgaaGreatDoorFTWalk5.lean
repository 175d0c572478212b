import Derived.Test.YtahjhbkhcaphgaaGreatDoorFTWalk4
set_option linter.unusedVariables false
set_option linter.unusedSimpArgs false
set_option maxHeartbeats 2000000
set_option maxRecDepth 100000
namespace Go.Proofs.YtahjhbkhcaphgaaGreatDoor
open Go Go.Am
theorem bY(n:Nat)(r:Bool)(h:E3 n=some r):Pure Tryz.prog gl 4 [] (.bool r):=by
 intro st
 unfold E3 at h
 have fx:=trivial
 refine fb 79 [.tmp 0] [0,1,2,3,4,5,6,7,8,39,40,41,44,47,48,49,52,53,54,55,56,57,60,61,62,63,64,65,68,69,70,73,74,75,76,77] Tryz.func4 fun hsc=>?_
 refine cl h (up (cj _ _) (fun _=>(.cons _ _ _ _ .s (.cons _ _ _ _ (.y5 _ _ _ (by decide)) .nil)))) fun v1 h=>?_
 refine cl h (up (cj _ _) (fun _=>(.cons _ _ _ _ .s (.cons _ _ _ _ (.y5 _ _ _ (by decide)) .nil)))) fun v2 h=>?_
 refine cl h (ay _ _ _) fun v3 h=>?_
 refine r0 ?_
 refine r0 ?_
 (repeat apply sq_)
 refine R6 (F:=[(1,.ptr st.length 0 0 0),(2,.ptr (st.length+1) 0 0 0),(3,.ptr (st.length+3) 0 0 0)]) (T:=st++[some (.arr 0 7 0 [[.int .i64 v3.kind,.str v3.name,.sl false 1 16 (rows w9 v3.words),.sl false 4 72 (rows u6.cells v3.subs),.y5,.y5,.sl false 1 16 [[.str [112]],[.str [113]]]]]),some (.arr 0 4 0 [[.int .i64 1,.str [],.y5,.y5]]),some (.arr 0 4 72 (rows u6.cells [(u6.mk 1 [] [] [])])),some (.arr 0 4 0 [[.int .i64 4,.str [],.y5,.ref true (st.length+2) 0 0 1]])]) (xU hsc (.lv (.lv (.live _ _ _ _ (.arr _ _ _ _ _ (.cons _ _ _ _ (.cons _ _ _ _ .s (.cons _ _ _ _ .s (.cons _ _ _ _ (.y5 _ _ _ (by decide)) (.cons _ _ _ _ (.y5 _ _ _ (by decide)) .nil)))) .nil)) (.lv (.nil _))))) (by simp) ⟨.s,.s,.s,trivial⟩ (by simp)) ?_
 (repeat apply sq_)
 refine R6 (F:=[(1,.ptr st.length 0 0 0),(2,.ptr (st.length+1) 0 0 0),(3,.ptr (st.length+3) 0 0 0)]) (T:=st++[some (.arr 0 7 0 [[.int .i64 v3.kind,.str v3.name,.sl false 1 16 (rows w9 v3.words),.sl false 4 72 (rows u6.cells v3.subs),.y5,.y5,.sl false 1 16 [[.str [112]],[.str [113]]]]]),some (.arr 0 4 0 [[.int .i64 1,.str [],.y5,.y5]]),none,some (.arr 0 4 0 [[.int .i64 4,.str [],.y5,.sl false 4 72 (rows u6.cells [(u6.mk 1 [] [] [])])]])]) (xU hsc (.lv (.lv (.dead _ _ _ (.live _ _ _ _ (.arr _ _ _ _ _ (.cons _ _ _ _ (.cons _ _ _ _ .s (.cons _ _ _ _ .s (.cons _ _ _ _ .s (.cons _ _ _ _ (.ref _ _ _ _ _ _ _ _ _ (qd.trans rfl) (lC.trans rfl) (by decide) (ng _) (by simp only[go_sem])) .nil)))) (.same _))) (.nil _))))) (by simp) ⟨.s,.s,.s,trivial⟩ (by simp)) ?_
 refine rs ?_
 refine dw [] 1 ?_
 obtain⟨v6,hv6,h⟩:=M1 h
 refine U8 ((ay _ _ _ _ hv6).up (fun _=>(.cons _ _ _ _ .s (.cons _ _ _ _ (.agg _ _ (.cons _ _ _ _ .s (.cons _ _ _ _ .s (.cons _ _ _ _ (.y5 _ _ _ (by decide)) (.cons _ _ _ _ (.y5 _ _ _ (by decide)) .nil))))) (.cons _ _ _ _ (.agg _ _ (.cons _ _ _ _ .s (.cons _ _ _ _ .s (.cons _ _ _ _ (.y5 _ _ _ (by decide)) (.cons _ _ _ _ .s .nil))))) .nil)))) (.inr fun n=>by simp)) ?_
 try simp only[go_sem,fx]
 obtain⟨v7,hv7,h⟩:=M1 h
 refine U8 ((me n _ _ _ hv7).up (fun _=>(.cons _ _ _ _ (.agg _ _ (.cons _ _ _ _ .s (.cons _ _ _ _ .s (.cons _ _ _ _ .s (.cons _ _ _ _ .s (.cons _ _ _ _ (.y5 _ _ _ (by decide)) (.cons _ _ _ _ (.y5 _ _ _ (by decide)) (.cons _ _ _ _ .s .nil)))))))) (.cons _ _ _ _ .s .nil))) (.inr fun n=>by simp)) ?_
 try simp only[go_sem,fx]
 refine rs ?_
 refine dw [] 1 ?_
 obtain⟨v8,hv8,h⟩:=M1 h
 refine U8 ((ay _ _ _ _ hv8).up (fun _=>(.cons _ _ _ _ .s (.cons _ _ _ _ (.agg _ _ (.cons _ _ _ _ .s (.cons _ _ _ _ .s (.cons _ _ _ _ (.y5 _ _ _ (by decide)) (.cons _ _ _ _ (.y5 _ _ _ (by decide)) .nil))))) (.cons _ _ _ _ (.agg _ _ (.cons _ _ _ _ .s (.cons _ _ _ _ .s (.cons _ _ _ _ (.y5 _ _ _ (by decide)) (.cons _ _ _ _ .s .nil))))) .nil)))) (.inr fun n=>by simp)) ?_
 try simp only[go_sem,fx]
 obtain⟨v9,hv9,h⟩:=M1 h
 refine U8 ((mO n _ _ _ hv9).up (fun _=>(.cons _ _ _ _ (.agg _ _ (.cons _ _ _ _ .s (.cons _ _ _ _ .s (.cons _ _ _ _ .s (.cons _ _ _ _ .s (.cons _ _ _ _ (.y5 _ _ _ (by decide)) (.cons _ _ _ _ (.y5 _ _ _ (by decide)) (.cons _ _ _ _ .s .nil)))))))) (.cons _ _ _ _ .s .nil))) (.inr fun n=>by simp)) ?_
 try simp only[go_sem,fx]
 refine rs ?_
 obtain⟨fx,h⟩:=ck fx h
 refine dw [] 0 ?_
 obtain⟨v12,hv12,h⟩:=M1 h
 refine mY (fun hG=>((L2 n _ _ _ (pE hv12 (by simpa using hG))).up (fun _=>(.cons _ _ _ _ .s (.cons _ _ _ _ (.agg _ _ (.cons _ _ _ _ .s (.cons _ _ _ _ .s (.cons _ _ _ _ (.y5 _ _ _ (by decide)) (.cons _ _ _ _ (.y5 _ _ _ (by decide)) .nil))))) .nil))) (.inr fun n=>by simp))) ?_
 obtain⟨fx,h⟩:=ck fx h
 try simp only[go_sem,fx]
 obtain⟨v15,hv15,h⟩:=M1 h
 refine mY (fun hG=>((L2 n _ _ _ (pE hv15 (by simpa using hG))).up (fun _=>(.cons _ _ _ _ .s (.cons _ _ _ _ (.agg _ _ (.cons _ _ _ _ .s (.cons _ _ _ _ .s (.cons _ _ _ _ (.y5 _ _ _ (by decide)) (.cons _ _ _ _ .s .nil))))) .nil))) (.inr fun n=>by simp))) ?_
 obtain⟨fx,h⟩:=ck fx h
 try simp only[go_sem,fx]
 exact rt
theorem gC(n:Nat)(a0:w8)(r:Bs×x6)(h:V1 n a0=some r):Pure Tryz.prog gl 5 [.agg [.int .i64 a0.form.kind,.str a0.form.name,.sl false 1 16 (rows w9 a0.form.words),.sl false 4 72 (rows u6.cells a0.form.subs),.sl false 1 16 (rows w9 a0.words),.sl false 1 16 (rows w9 a0.B1),.sl false 1 16 (rows w9 a0.parts)]] (.tup [.str r.1,.agg [.int .i64 r.2.code,.int .i64 r.2.index]]):=by
 intro st
 unfold V1 at h
 have fx:=trivial
 refine fb 37 [.tmp 2,.cell 3 30] [0,1,2,3,4,5,10,33] Tryz.func5 fun hsc=>?_
 refine cl h (X7 n _) fun v1 h=>?_
 refine cd h (fun hc h=>?_) fun hc h=>?_
 ·refine rs ?_
  refine dw [] 0 ?_
  exact rt
 ·refine rn ?_
  refine dw [] 0 ?_
  obtain⟨v2,hv2,h⟩:=M1 h
  refine U8 (rO _ _ _ hv2) ?_
  obtain⟨fx,h⟩:=ck fx h
  obtain⟨fx,h⟩:=ck fx h
  try simp only[go_sem,fx]
  obtain⟨v5,hv5,h⟩:=M1 h
  refine U8 (rO _ _ _ hv5) ?_
  obtain⟨fx,h⟩:=ck fx h
  obtain⟨fx,h⟩:=ck fx h
  try simp only[go_sem,fx]
  obtain⟨v8,hv8,h⟩:=M1 h
  refine U8 (rO _ _ _ hv8) ?_
  obtain⟨fx,h⟩:=ck fx h
  obtain⟨fx,h⟩:=ck fx h
  try simp only[go_sem,fx]
  obtain⟨v11,hv11,h⟩:=M1 h
  refine U8 (pK _ _ hv11) ?_
  obtain⟨fx,h⟩:=ck fx h
  try simp only[go_sem,fx]
  refine cd h (fun hc h=>?_) fun hc h=>?_
  ·refine cl h (C7 _ _) fun v13 h=>?_
   exact rt
  ·exact rt
theorem gD(a0:Int)(r:Int)(h:N7 a0=some r):Pure Tryz.prog gl 63 [.int .i64 a0] (.int .i64 r):=by
 intro st
 unfold N7 at h
 have fx:=trivial
 refine fb 13 [.tmp 2] [0,2,6,7,8] Tryz.func63 fun hsc=>?_
 refine cd h (fun hc h=>?_) fun hc h=>?_
 ·exact rt
 ·refine r0 ?_
  obtain⟨fx,h⟩:=ck fx h
  have fy:=(show [[D.int .i64 0],[D.int .i64 0],[D.int .i64 0],[D.int .i64 0],[D.int .i64 1],[D.int .i64 2],[D.int .i64 2],[D.int .i64 2],[D.int .i64 1],[D.int .i64 1]].getD a0.toNat [D.int .i64 0]=[D.int .i64 (get [0,0,0,0,1,2,2,2,1,1] a0.toNat)]from EC [0,0,0,0,1,2,2,2,1,1] _)
  refine r1 ?_
  exact rt
theorem cr(n:Nat)(a0:Bs)(r:Bool)(h:L6 n a0=some r):Pure Tryz.prog gl 64 [.str a0] (.bool r):=by
 intro st
 unfold L6 at h
 have fx:=trivial
 refine fb 62 [.tmp 2] [0,2,3,4,5,10,11,12,13,17,25,26,27,28,35,36,37,38,41,42,43,44,47,48,49,50,55,56,57,58,59,60,61] Tryz.func64 fun hsc=>?_
 refine cd h (fun hc h=>?_) fun hc h=>?_
 ·exact rt
 ·refine rn ?_
  refine D6 (body:=T5 a0) (kk:=av) (n:=n) (s0:=0)
   (fun(gs0:Unit) (s0:Int)=>[(0,.str a0),(3,.int .i64 s0)])
   (fun(gs0:Unit) (s0:Int)=>st)
   (fun(gt0:Unit) (t0:Unit)=>[])
   (fun(gt0:Unit) (t0:Unit)=>st)
   () h (jP hsc)
   (fun gs0 s0 b0 h hx0=>?_) (fun gt0 t0 fr1 st1 h hb=>?_)
  ·unfold T5 at h
   refine cd h (fun hc h=>?_) fun hc h=>?_
   ·obtain⟨fx,h⟩:=ck fx h
    refine cd h (fun hc h=>?_) fun hc h=>?_
    ·refine ra ?_
     cases h
     refine bS ?_;have h:=congrArg some (hx0 _ rfl)
     exact rt
    ·refine rn ?_
     cases h
     exact I6 () (jP hsc)
   ·refine rn ?_
    cases h
    exact J9 () (jP hsc)
  ·try simp only[go_sem,fx]
   unfold av at h
   refine R6 hb ?_
   exact rt
theorem eY(n:Nat)(a0:u6)(a1:Bool)(r:x6)(h:O2 n a0 a1=some r):Pure Tryz.prog gl 42 [.agg [.int .i64 a0.kind,.str a0.name,.sl false 1 16 (rows w9 a0.words),.sl false 4 72 (rows u6.cells a0.subs)],.bool a1] (.agg [.int .i64 r.code,.int .i64 r.index]):=by
 intro st
 unfold O2 at h
 have fx:=trivial
 refine fb 150 [.cell 4 30] [0,1,2,4,5,6,7,8,9,10,11,12,13,15,16,22,43,44,45,46,49,52,57,58,59,62,63,64,67,68,69,74,75,76,77,79,86,87,88,89,90,93,94,95,96,97,98,101,102,103,104,105,109,110,111,112,114,115,116,117,122,125,134] Tryz.func42 fun hsc=>?_
 refine rn ?_
 refine D6 (body:=D8 n a1) (kk:=T4) (n:=n) (s0:=([(w6.mk a0 1)],0,1))
  (fun(gs0:Nat) (s0:(List w6)×Int×Nat)=>[(1,.bool a1),(4,.ptr (st.length+1) 0 0 0),(5,.ref false (st.length+2) gs0 0 s0.2.2),(6,.int .i64 s0.2.1)])
  (fun(gs0:Nat) (s0:(List w6)×Int×Nat)=>st++[none,some (.arr 0 2 0 [[.int .i64 0,.int .i64 0]]),some (.arr gs0 5 80 (rows w6.cells s0.1))])
  (fun(gt0:Unit) (t0:Unit)=>[(4,.ptr (st.length+1) 0 0 0)])
  (fun(gt0:Unit) (t0:Unit)=>st++[none,some (.arr 0 2 0 [[.int .i64 0,.int .i64 0]])])
  0 h (bm hsc)
  (fun gs0 s0 b0 h hx0=>?_) (fun gt0 t0 fr1 st1 h hb=>?_)
 ·unfold D8 at h
  refine cd h (fun hc h=>?_) fun hc h=>?_
  ·refine r0 ?_
   refine r0 ?_
   obtain⟨fx,h⟩:=ck fx h
   obtain⟨fx,h⟩:=ck fx h
   have fy:=(show(rows w6.cells s0.1).getD ((wr .i64 ((↑s0.2.2:Int)-1)).toNat) []=w6.cells (get s0.1 ((wr .i64 ((↑s0.2.2:Int)-1)).toNat))from Bt (E:=w6.cells) (l:=s0.1) (k:=(wr .i64 ((↑s0.2.2:Int)-1)).toNat) (by first|omega|(simp;omega)))
   have fy:=fa fy (show(wr .i64 ((↑s0.2.2:Int)-1)).toNat<s0.1.length from by first|omega|(simp;omega))
   refine r1 ?_
   obtain⟨fx,h⟩:=ck fx h
   refine cl h (gD _) fun v34 h=>?_
   refine rn ?_
   refine aF (F4 n s0) b0 (fun(gj7:Unit) (j7:Int)=>[(1,.bool a1),(4,.ptr (st.length+1) 0 0 0),(5,.ref false (st.length+2) gs0 0 ((wr .i64 ((↑s0.2.2:Int)-1)).toNat)),(6,.int .i64 s0.2.1),(7,.ptr (st.length+3) 0 0 0),(8,.ptr (st.length+4) 0 0 0),(9,.int .i64 j7)]) (fun(gj7:Unit) (j7:Int)=>st++[none,some (.arr 0 2 0 [[.int .i64 0,.int .i64 0]]),some (.arr gs0 5 80 (rows w6.cells s0.1)),some (.arr 0 5 0 [[.int .i64 ((get s0.1 ((wr .i64 ((↑s0.2.2:Int)-1)).toNat)).f.kind),.str ((get s0.1 ((wr .i64 ((↑s0.2.2:Int)-1)).toNat)).f.name),.sl false 1 16 (rows w9 ((get s0.1 ((wr .i64 ((↑s0.2.2:Int)-1)).toNat)).f.words)),.sl false 4 72 (rows u6.cells ((get s0.1 ((wr .i64 ((↑s0.2.2:Int)-1)).toNat)).f.subs)),.int .i64 ((get s0.1 ((wr .i64 ((↑s0.2.2:Int)-1)).toNat)).depth)]]),some (.arr 0 4 0 [[.int .i64 ((get s0.1 ((wr .i64 ((↑s0.2.2:Int)-1)).toNat)).f.kind),.str ((get s0.1 ((wr .i64 ((↑s0.2.2:Int)-1)).toNat)).f.name),.sl false 1 16 (rows w9 ((get s0.1 ((wr .i64 ((↑s0.2.2:Int)-1)).toNat)).f.words)),.sl false 4 72 (rows u6.cells ((get s0.1 ((wr .i64 ((↑s0.2.2:Int)-1)).toNat)).f.subs))]])]) (fun gj7 j7 fr1 st1 h hb=>?_) (fun hj7=>?_)
   ·try simp only[go_sem,fx]
    unfold F4 at h
    refine R6 hb ?_
    refine rn ?_
    refine aF (E0 n s0 j7) b0 (fun(gj8:Unit) (j8:Int)=>[(1,.bool a1),(4,.ptr (st.length+1) 0 0 0),(5,.ref false (st.length+2) gs0 0 ((wr .i64 ((↑s0.2.2:Int)-1)).toNat)),(6,.int .i64 s0.2.1),(7,.ptr (st.length+3) 0 0 0),(8,.ptr (st.length+4) 0 0 0),(9,.int .i64 j7),(10,.int .i64 j8),(11,.int .i64 0)]) (fun(gj8:Unit) (j8:Int)=>st++[none,some (.arr 0 2 0 [[.int .i64 0,.int .i64 0]]),some (.arr gs0 5 80 (rows w6.cells s0.1)),some (.arr 0 5 0 [[.int .i64 ((get s0.1 ((wr .i64 ((↑s0.2.2:Int)-1)).toNat)).f.kind),.str ((get s0.1 ((wr .i64 ((↑s0.2.2:Int)-1)).toNat)).f.name),.sl false 1 16 (rows w9 ((get s0.1 ((wr .i64 ((↑s0.2.2:Int)-1)).toNat)).f.words)),.sl false 4 72 (rows u6.cells ((get s0.1 ((wr .i64 ((↑s0.2.2:Int)-1)).toNat)).f.subs)),.int .i64 ((get s0.1 ((wr .i64 ((↑s0.2.2:Int)-1)).toNat)).depth)]]),some (.arr 0 4 0 [[.int .i64 ((get s0.1 ((wr .i64 ((↑s0.2.2:Int)-1)).toNat)).f.kind),.str ((get s0.1 ((wr .i64 ((↑s0.2.2:Int)-1)).toNat)).f.name),.sl false 1 16 (rows w9 ((get s0.1 ((wr .i64 ((↑s0.2.2:Int)-1)).toNat)).f.words)),.sl false 4 72 (rows u6.cells ((get s0.1 ((wr .i64 ((↑s0.2.2:Int)-1)).toNat)).f.subs))]])]) (fun gj8 j8 fr1 st1 h hb=>?_) (fun hj8=>?_)
    ·try simp only[go_sem,fx]
     unfold E0 at h
     refine R6 hb ?_
     refine rn ?_
     refine aF (D9 n s0 j7) b0 (fun(gj9:Unit) (j9:Int×Int)=>[(1,.bool a1),(4,.ptr (st.length+1) 0 0 0),(5,.ref false (st.length+2) gs0 0 ((wr .i64 ((↑s0.2.2:Int)-1)).toNat)),(6,.int .i64 s0.2.1),(7,.ptr (st.length+3) 0 0 0),(8,.ptr (st.length+4) 0 0 0),(9,.int .i64 j7),(10,.int .i64 j9.1),(11,.int .i64 j9.2)]) (fun(gj9:Unit) (j9:Int×Int)=>st++[none,some (.arr 0 2 0 [[.int .i64 0,.int .i64 0]]),some (.arr gs0 5 80 (rows w6.cells s0.1)),some (.arr 0 5 0 [[.int .i64 ((get s0.1 ((wr .i64 ((↑s0.2.2:Int)-1)).toNat)).f.kind),.str ((get s0.1 ((wr .i64 ((↑s0.2.2:Int)-1)).toNat)).f.name),.sl false 1 16 (rows w9 ((get s0.1 ((wr .i64 ((↑s0.2.2:Int)-1)).toNat)).f.words)),.sl false 4 72 (rows u6.cells ((get s0.1 ((wr .i64 ((↑s0.2.2:Int)-1)).toNat)).f.subs)),.int .i64 ((get s0.1 ((wr .i64 ((↑s0.2.2:Int)-1)).toNat)).depth)]]),some (.arr 0 4 0 [[.int .i64 ((get s0.1 ((wr .i64 ((↑s0.2.2:Int)-1)).toNat)).f.kind),.str ((get s0.1 ((wr .i64 ((↑s0.2.2:Int)-1)).toNat)).f.name),.sl false 1 16 (rows w9 ((get s0.1 ((wr .i64 ((↑s0.2.2:Int)-1)).toNat)).f.words)),.sl false 4 72 (rows u6.cells ((get s0.1 ((wr .i64 ((↑s0.2.2:Int)-1)).toNat)).f.subs))]])]) (fun gj9 j9 fr1 st1 h hb=>?_) (fun hj9=>?_)
     ·try simp only[go_sem,fx]
      unfold D9 at h
      refine R6 hb ?_
      refine rn ?_
      refine aF (y7 n s0) b0 (fun(Me:Unit) (j10:Int)=>[(1,.bool a1),(4,.ptr (st.length+1) 0 0 0),(5,.ref false (st.length+2) gs0 0 ((wr .i64 ((↑s0.2.2:Int)-1)).toNat)),(6,.int .i64 s0.2.1),(7,.ptr (st.length+3) 0 0 0),(8,.ptr (st.length+4) 0 0 0),(13,.int .i64 j10)]) (fun(Me:Unit) (j10:Int)=>st++[none,some (.arr 0 2 0 [[.int .i64 0,.int .i64 0]]),some (.arr gs0 5 80 (rows w6.cells s0.1)),some (.arr 0 5 0 [[.int .i64 ((get s0.1 ((wr .i64 ((↑s0.2.2:Int)-1)).toNat)).f.kind),.str ((get s0.1 ((wr .i64 ((↑s0.2.2:Int)-1)).toNat)).f.name),.sl false 1 16 (rows w9 ((get s0.1 ((wr .i64 ((↑s0.2.2:Int)-1)).toNat)).f.words)),.sl false 4 72 (rows u6.cells ((get s0.1 ((wr .i64 ((↑s0.2.2:Int)-1)).toNat)).f.subs)),.int .i64 ((get s0.1 ((wr .i64 ((↑s0.2.2:Int)-1)).toNat)).depth)]]),some (.arr 0 4 0 [[.int .i64 ((get s0.1 ((wr .i64 ((↑s0.2.2:Int)-1)).toNat)).f.kind),.str ((get s0.1 ((wr .i64 ((↑s0.2.2:Int)-1)).toNat)).f.name),.sl false 1 16 (rows w9 ((get s0.1 ((wr .i64 ((↑s0.2.2:Int)-1)).toNat)).f.words)),.sl false 4 72 (rows u6.cells ((get s0.1 ((wr .i64 ((↑s0.2.2:Int)-1)).toNat)).f.subs))]])]) (fun Me j10 fr1 st1 h hb=>?_) (fun Gt=>?_)
      ·try simp only[go_sem,fx]
       unfold y7 at h
       refine R6 hb ?_
       refine cd h (fun hc h=>?_) fun hc h=>?_
       ·refine ra ?_
        cases h
        refine bS ?_;have h:=congrArg some (hx0 _ rfl)
        exact rt
       ·refine rn ?_
        refine D6 (body:=J3 s0) (kk:=J4 s0) (n:=n) (s0:=(s0.1,(wr .i64 ((↑(((get s0.1 ((wr .i64 ((↑s0.2.2:Int)-1)).toNat)).f.subs).length):Int)-1)),(wr .i64 ((↑s0.2.2:Int)-1)).toNat))
         (fun(wH:Nat) (s12:(List w6)×Int×Nat)=>[(1,.bool a1),(4,.ptr (st.length+1) 0 0 0),(5,.ref false (st.length+2) wH 0 s12.2.2),(6,.int .i64 s0.2.1),(7,.ptr (st.length+3) 0 0 0),(8,.ptr (st.length+4) 0 0 0),(16,.int .i64 s12.2.1)])
         (fun(wH:Nat) (s12:(List w6)×Int×Nat)=>st++[none,some (.arr 0 2 0 [[.int .i64 0,.int .i64 0]]),some (.arr wH 5 80 (rows w6.cells s12.1)),some (.arr 0 5 0 [[.int .i64 ((get s0.1 ((wr .i64 ((↑s0.2.2:Int)-1)).toNat)).f.kind),.str ((get s0.1 ((wr .i64 ((↑s0.2.2:Int)-1)).toNat)).f.name),.sl false 1 16 (rows w9 ((get s0.1 ((wr .i64 ((↑s0.2.2:Int)-1)).toNat)).f.words)),.sl false 4 72 (rows u6.cells ((get s0.1 ((wr .i64 ((↑s0.2.2:Int)-1)).toNat)).f.subs)),.int .i64 ((get s0.1 ((wr .i64 ((↑s0.2.2:Int)-1)).toNat)).depth)]]),some (.arr 0 4 0 [[.int .i64 ((get s0.1 ((wr .i64 ((↑s0.2.2:Int)-1)).toNat)).f.kind),.str ((get s0.1 ((wr .i64 ((↑s0.2.2:Int)-1)).toNat)).f.name),.sl false 1 16 (rows w9 ((get s0.1 ((wr .i64 ((↑s0.2.2:Int)-1)).toNat)).f.words)),.sl false 4 72 (rows u6.cells ((get s0.1 ((wr .i64 ((↑s0.2.2:Int)-1)).toNat)).f.subs))]])])
         (fun(DT:Nat) (t12:(List w6)×Nat)=>[(1,.bool a1),(4,.ptr (st.length+1) 0 0 0),(5,.ref false (st.length+2) DT 0 t12.2),(6,.int .i64 s0.2.1)])
         (fun(DT:Nat) (t12:(List w6)×Nat)=>st++[none,some (.arr 0 2 0 [[.int .i64 0,.int .i64 0]]),some (.arr DT 5 80 (rows w6.cells t12.1))])
         gs0 h (bm hsc)
         (fun wH s12 b12 h Mf=>?_) (fun DT t12 fr1 st1 h hb=>?_)
        ·unfold J3 at h
         refine cd h (fun hc h=>?_) fun hc h=>?_
         ·refine rn ?_
          obtain⟨fx,h⟩:=ck fx h
          obtain⟨fx,h⟩:=ck fx h
          obtain⟨c51,Ji,h⟩:=gG h
          have fy:=(show rows w6.cells (s12.1.take s12.2.2)++[[.int .i64 ((get ((get s0.1 ((wr .i64 ((↑s0.2.2:Int)-1)).toNat)).f.subs) s12.2.1.toNat).kind),.str ((get ((get s0.1 ((wr .i64 ((↑s0.2.2:Int)-1)).toNat)).f.subs) s12.2.1.toNat).name),.sl false 1 16 (rows w9 ((get ((get s0.1 ((wr .i64 ((↑s0.2.2:Int)-1)).toNat)).f.subs) s12.2.1.toNat).words)),.sl false 4 72 (rows u6.cells ((get ((get s0.1 ((wr .i64 ((↑s0.2.2:Int)-1)).toNat)).f.subs) s12.2.1.toNat).subs)),.int .i64 (wr .i64 (((get s0.1 ((wr .i64 ((↑s0.2.2:Int)-1)).toNat)).depth)+1))]]=rows w6.cells c51 from by rw[Ji];first|exact F1 (E:=w6.cells) (s12.1.take s12.2.2) [(w6.mk (get ((get s0.1 ((wr .i64 ((↑s0.2.2:Int)-1)).toNat)).f.subs) s12.2.1.toNat) (wr .i64 (((get s0.1 ((wr .i64 ((↑s0.2.2:Int)-1)).toNat)).depth)+1)))]|simp only[go_sem,rows,List.map_append,List.map_cons,List.map_nil])
          have fy:=fa fy (show s12.2.2+1=c51.length from by rw[Ji];simp<;>omega)
          obtain⟨fx,h⟩:=ck fx h
          refine dwy [] 2 ?_
          refine rn ?_
          cases h
          exact I6 (wH+1) (bm hsc)
         ·refine rn ?_
          cases h
          exact J9 wH (bm hsc)
        ·try simp only[go_sem,fx]
         unfold J4 at h
         refine R6 hb ?_
         refine rn ?_
         cases h
         exact I6 DT (bm hsc)
      ·refine cd h (fun hc h=>?_) fun hc h=>?_
       ·refine r0 ?_
        refine Gt () _ _ _ h ?_;exact(bm hsc)
       ·refine cd h (fun hc h=>?_) fun hc h=>?_
        ·refine r0 ?_
         refine Gt () _ _ _ h ?_;exact(bm hsc)
        ·refine cd h (fun hc h=>?_) fun hc h=>?_
         ·refine r0 ?_
          refine Gt () _ _ _ h ?_;exact(bm hsc)
         ·refine rn ?_
          obtain⟨v35,hv35,h⟩:=M1 h
          refine bp (fun hG=>(cr n _ _ (pE hv35 (by simpa using hG)))) ?_
          refine cd h (fun hc h=>?_) fun hc h=>?_
          ·refine r0 ?_
           refine Gt () _ _ _ h ?_;exact(bm hsc)
          ·refine cd h (fun hc h=>?_) fun hc h=>?_
           ·refine r0 ?_
            refine Gt () _ _ _ h ?_;exact(bm hsc)
           ·refine aln 114 fun hl11=>?_
            refine rng (body:=J5 n s0) (kk:=J6 n s0) (n:=((get s0.1 ((wr .i64 ((↑s0.2.2:Int)-1)).toNat)).f.words).length) (s0:=0)
             (fun(Gu:Unit) (k11:Nat) (s11:Int)=>[(1,.bool a1),(4,.ptr (st.length+1) 0 0 0),(5,.ref false (st.length+2) gs0 0 ((wr .i64 ((↑s0.2.2:Int)-1)).toNat)),(6,.int .i64 s0.2.1),(7,.ptr (st.length+3) 0 0 0),(8,.ptr (st.length+4) 0 0 0),(13,.int .i64 s11),(114,.sl false 1 16 (rows w9 ((get s0.1 ((wr .i64 ((↑s0.2.2:Int)-1)).toNat)).f.words))),(115,.int .i64 (↑(((get s0.1 ((wr .i64 ((↑s0.2.2:Int)-1)).toNat)).f.words).length):Int)),(116,.int .i64 (↑k11:Int))])
             (fun(Gu:Unit) (k11:Nat) (s11:Int)=>st++[none,some (.arr 0 2 0 [[.int .i64 0,.int .i64 0]]),some (.arr gs0 5 80 (rows w6.cells s0.1)),some (.arr 0 5 0 [[.int .i64 ((get s0.1 ((wr .i64 ((↑s0.2.2:Int)-1)).toNat)).f.kind),.str ((get s0.1 ((wr .i64 ((↑s0.2.2:Int)-1)).toNat)).f.name),.sl false 1 16 (rows w9 ((get s0.1 ((wr .i64 ((↑s0.2.2:Int)-1)).toNat)).f.words)),.sl false 4 72 (rows u6.cells ((get s0.1 ((wr .i64 ((↑s0.2.2:Int)-1)).toNat)).f.subs)),.int .i64 ((get s0.1 ((wr .i64 ((↑s0.2.2:Int)-1)).toNat)).depth)]]),some (.arr 0 4 0 [[.int .i64 ((get s0.1 ((wr .i64 ((↑s0.2.2:Int)-1)).toNat)).f.kind),.str ((get s0.1 ((wr .i64 ((↑s0.2.2:Int)-1)).toNat)).f.name),.sl false 1 16 (rows w9 ((get s0.1 ((wr .i64 ((↑s0.2.2:Int)-1)).toNat)).f.words)),.sl false 4 72 (rows u6.cells ((get s0.1 ((wr .i64 ((↑s0.2.2:Int)-1)).toNat)).f.subs))]])])
             (fun(Jj:Unit) (t11:Int)=>[(1,.bool a1),(4,.ptr (st.length+1) 0 0 0),(5,.ref false (st.length+2) gs0 0 ((wr .i64 ((↑s0.2.2:Int)-1)).toNat)),(6,.int .i64 s0.2.1),(7,.ptr (st.length+3) 0 0 0),(8,.ptr (st.length+4) 0 0 0),(13,.int .i64 t11)])
             (fun(Jj:Unit) (t11:Int)=>st++[none,some (.arr 0 2 0 [[.int .i64 0,.int .i64 0]]),some (.arr gs0 5 80 (rows w6.cells s0.1)),some (.arr 0 5 0 [[.int .i64 ((get s0.1 ((wr .i64 ((↑s0.2.2:Int)-1)).toNat)).f.kind),.str ((get s0.1 ((wr .i64 ((↑s0.2.2:Int)-1)).toNat)).f.name),.sl false 1 16 (rows w9 ((get s0.1 ((wr .i64 ((↑s0.2.2:Int)-1)).toNat)).f.words)),.sl false 4 72 (rows u6.cells ((get s0.1 ((wr .i64 ((↑s0.2.2:Int)-1)).toNat)).f.subs)),.int .i64 ((get s0.1 ((wr .i64 ((↑s0.2.2:Int)-1)).toNat)).depth)]]),some (.arr 0 4 0 [[.int .i64 ((get s0.1 ((wr .i64 ((↑s0.2.2:Int)-1)).toNat)).f.kind),.str ((get s0.1 ((wr .i64 ((↑s0.2.2:Int)-1)).toNat)).f.name),.sl false 1 16 (rows w9 ((get s0.1 ((wr .i64 ((↑s0.2.2:Int)-1)).toNat)).f.words)),.sl false 4 72 (rows u6.cells ((get s0.1 ((wr .i64 ((↑s0.2.2:Int)-1)).toNat)).f.subs))]])])
             () fx hl11 h (bm hsc)
             (fun Gu k11 s11 b11 fx h Oz=>?_) (fun Gu s11=>?_) (fun Jj t11 fr1 st1 h hb=>?_)
            ·unfold J5 at h
             refine ct ?_
             refine cl h (cr n _) fun v37 h=>?_
             refine cd h (fun hc h=>?_) fun hc h=>?_
             ·refine rn ?_
              cases h
              exact ig () (bm hsc)
             ·refine rn ?_
              cases h
              exact ig () (bm hsc)
            ·refine cf ?_
             refine gO ?_;simp only[go_sem,fx]
             exact⟨(),(bm hsc)⟩
            ·try simp only[go_sem,fx]
             unfold J6 at h
             refine Gt () _ _ _ h ?_;exact(hb.trans (bm hsc))
     ·refine cd h (fun hc h=>?_) fun hc h=>?_
      ·refine r0 ?_
       refine hj9 () _ _ _ h ?_;exact(bm hsc)
      ·refine r0 ?_
       refine hj9 () _ _ _ h ?_;exact(bm hsc)
    ·refine cd h (fun hc h=>?_) fun hc h=>?_
     ·refine r0 ?_
      refine hj8 () _ _ _ h ?_;exact(bm hsc)
     ·refine r0 ?_
      refine hj8 () _ _ _ h ?_;exact(bm hsc)
   ·refine cd h (fun hc h=>?_) fun hc h=>?_
    ·refine r0 ?_
     refine hj7 () _ _ _ h ?_;exact(bm hsc)
    ·refine r0 ?_
     refine hj7 () _ _ _ h ?_;exact(bm hsc)
  ·refine rn ?_
   cases h
   exact J9 () (bm hsc)
 ·try simp only[go_sem,fx]
  unfold T4 at h
  refine R6 hb ?_
  exact rt
theorem eZ(n:Nat)(a0:u6)(r:x6)(h:I9 n a0=some r):Pure Tryz.prog gl 19 [.agg [.int .i64 a0.kind,.str a0.name,.sl false 1 16 (rows w9 a0.words),.sl false 4 72 (rows u6.cells a0.subs)]] (.agg [.int .i64 r.code,.int .i64 r.index]):=by
 intro st
 unfold I9 at h
 have fx:=trivial
 refine fb 5 [.cell 2 30] [0,1,2] Tryz.func19 fun hsc=>?_
 refine cl h (eY n _ _) fun v1 h=>?_
 exact rt
end Go.Proofs.YtahjhbkhcaphgaaGreatDoor
