import Derived.Test.YtdjnbjnlnjhllaaGreatDoorFIWalk4
set_option linter.unusedVariables false
set_option linter.unusedSimpArgs false
set_option maxHeartbeats 2000000
set_option maxRecDepth 100000
namespace Go.Proofs.YtdjnbjnlnjhllaaGreatDoor
open Go Go.Am
theorem x2d(n:Nat)(r:Bool)(h:w5j n=some r):Pure Tryz.prog gl 5 [] (.bool r):=by
 intro st
 unfold w5j at h
 have fx:=trivial
 refine fb 79 [.tmp 0] [0,1,2,3,4,5,6,7,8,39,40,41,44,47,48,49,52,53,54,55,56,57,60,61,62,63,64,65,68,69,70,73,74,75,76,77] Tryz.func5 fun hsc=>?_
 refine cl h (up (x2e _ _) (fun _=>(.cons _ _ _ _ .s (.cons _ _ _ _ (.w4g _ _ _ (by decide)) .nil)))) fun v1 h=>?_
 refine cl h (up (x2e _ _) (fun _=>(.cons _ _ _ _ .s (.cons _ _ _ _ (.w4g _ _ _ (by decide)) .nil)))) fun v2 h=>?_
 refine cl h (x0r _ _ _) fun v3 h=>?_
 refine r0 ?_
 refine r0 ?_
 (repeat apply sq_)
 refine w5A (F:=[(1,.ptr st.length 0 0 0),(2,.ptr (st.length+1) 0 0 0),(3,.ptr (st.length+3) 0 0 0)]) (T:=st++[some (.arr 0 7 0 [[.int .i64 v3.kind,.str v3.name,.sl false 1 16 (rows w3X v3.words),.sl false 4 72 (rows w3T.cells v3.subs),.w4g,.w4g,.sl false 1 16 [[.str [112]],[.str [113]]]]]),some (.arr 0 4 0 [[.int .i64 1,.str [],.w4g,.w4g]]),some (.arr 0 4 72 (rows w3T.cells [(w3T.mk 1 [] [] [])])),some (.arr 0 4 0 [[.int .i64 4,.str [],.w4g,.ref true (st.length+2) 0 0 1]])]) (y1B hsc (.lv (.lv (.live _ _ _ _ (.arr _ _ _ _ _ (.cons _ _ _ _ (.cons _ _ _ _ .s (.cons _ _ _ _ .s (.cons _ _ _ _ (.w4g _ _ _ (by decide)) (.cons _ _ _ _ (.w4g _ _ _ (by decide)) .nil)))) .nil)) (.lv (.nil _))))) (by simp) ⟨.s,.s,.s,trivial⟩ (by simp)) ?_
 (repeat apply sq_)
 refine w5A (F:=[(1,.ptr st.length 0 0 0),(2,.ptr (st.length+1) 0 0 0),(3,.ptr (st.length+3) 0 0 0)]) (T:=st++[some (.arr 0 7 0 [[.int .i64 v3.kind,.str v3.name,.sl false 1 16 (rows w3X v3.words),.sl false 4 72 (rows w3T.cells v3.subs),.w4g,.w4g,.sl false 1 16 [[.str [112]],[.str [113]]]]]),some (.arr 0 4 0 [[.int .i64 1,.str [],.w4g,.w4g]]),none,some (.arr 0 4 0 [[.int .i64 4,.str [],.w4g,.sl false 4 72 (rows w3T.cells [(w3T.mk 1 [] [] [])])]])]) (y1B hsc (.lv (.lv (.dead _ _ _ (.live _ _ _ _ (.arr _ _ _ _ _ (.cons _ _ _ _ (.cons _ _ _ _ .s (.cons _ _ _ _ .s (.cons _ _ _ _ .s (.cons _ _ _ _ (.ref _ _ _ _ _ _ _ _ _ (x6a.trans rfl) (x5S.trans rfl) (by decide) (x4L _) (by simp only[go_sem])) .nil)))) (.same _))) (.nil _))))) (by simp) ⟨.s,.s,.s,trivial⟩ (by simp)) ?_
 refine rs ?_
 refine dw [] 1 ?_
 obtain⟨v6,hv6,h⟩:=w7w h
 refine w7Z ((x0r _ _ _ _ hv6).up (fun _=>(.cons _ _ _ _ .s (.cons _ _ _ _ (.agg _ _ (.cons _ _ _ _ .s (.cons _ _ _ _ .s (.cons _ _ _ _ (.w4g _ _ _ (by decide)) (.cons _ _ _ _ (.w4g _ _ _ (by decide)) .nil))))) (.cons _ _ _ _ (.agg _ _ (.cons _ _ _ _ .s (.cons _ _ _ _ .s (.cons _ _ _ _ (.w4g _ _ _ (by decide)) (.cons _ _ _ _ .s .nil))))) .nil)))) (.inr fun n=>by simp)) ?_
 try simp only[go_sem,fx]
 obtain⟨v7,hv7,h⟩:=w7w h
 refine w7Z ((x8b n _ _ _ hv7).up (fun _=>(.cons _ _ _ _ (.agg _ _ (.cons _ _ _ _ .s (.cons _ _ _ _ .s (.cons _ _ _ _ .s (.cons _ _ _ _ .s (.cons _ _ _ _ (.w4g _ _ _ (by decide)) (.cons _ _ _ _ (.w4g _ _ _ (by decide)) (.cons _ _ _ _ .s .nil)))))))) (.cons _ _ _ _ .s .nil))) (.inr fun n=>by simp)) ?_
 try simp only[go_sem,fx]
 refine rs ?_
 refine dw [] 1 ?_
 obtain⟨v8,hv8,h⟩:=w7w h
 refine w7Z ((x0r _ _ _ _ hv8).up (fun _=>(.cons _ _ _ _ .s (.cons _ _ _ _ (.agg _ _ (.cons _ _ _ _ .s (.cons _ _ _ _ .s (.cons _ _ _ _ (.w4g _ _ _ (by decide)) (.cons _ _ _ _ (.w4g _ _ _ (by decide)) .nil))))) (.cons _ _ _ _ (.agg _ _ (.cons _ _ _ _ .s (.cons _ _ _ _ .s (.cons _ _ _ _ (.w4g _ _ _ (by decide)) (.cons _ _ _ _ .s .nil))))) .nil)))) (.inr fun n=>by simp)) ?_
 try simp only[go_sem,fx]
 obtain⟨v9,hv9,h⟩:=w7w h
 refine w7Z ((x8w n _ _ _ hv9).up (fun _=>(.cons _ _ _ _ (.agg _ _ (.cons _ _ _ _ .s (.cons _ _ _ _ .s (.cons _ _ _ _ .s (.cons _ _ _ _ .s (.cons _ _ _ _ (.w4g _ _ _ (by decide)) (.cons _ _ _ _ (.w4g _ _ _ (by decide)) (.cons _ _ _ _ .s .nil)))))))) (.cons _ _ _ _ .s .nil))) (.inr fun n=>by simp)) ?_
 try simp only[go_sem,fx]
 refine rs ?_
 obtain⟨fx,h⟩:=ck fx h
 refine dw [] 0 ?_
 obtain⟨v12,hv12,h⟩:=w7w h
 refine x4T (fun hG=>((w6P n _ _ _ (x8s hv12 (by simpa using hG))).up (fun _=>(.cons _ _ _ _ .s (.cons _ _ _ _ (.agg _ _ (.cons _ _ _ _ .s (.cons _ _ _ _ .s (.cons _ _ _ _ (.w4g _ _ _ (by decide)) (.cons _ _ _ _ (.w4g _ _ _ (by decide)) .nil))))) .nil))) (.inr fun n=>by simp))) ?_
 obtain⟨fx,h⟩:=ck fx h
 try simp only[go_sem,fx]
 obtain⟨v15,hv15,h⟩:=w7w h
 refine x4T (fun hG=>((w6P n _ _ _ (x8s hv15 (by simpa using hG))).up (fun _=>(.cons _ _ _ _ .s (.cons _ _ _ _ (.agg _ _ (.cons _ _ _ _ .s (.cons _ _ _ _ .s (.cons _ _ _ _ (.w4g _ _ _ (by decide)) (.cons _ _ _ _ .s .nil))))) .nil))) (.inr fun n=>by simp))) ?_
 obtain⟨fx,h⟩:=ck fx h
 try simp only[go_sem,fx]
 exact rt
theorem x4I(a0:Int)(r:Int)(h:w7s a0=some r):Pure Tryz.prog gl 56 [.int .i64 a0] (.int .i64 r):=by
 intro st
 unfold w7s at h
 have fx:=trivial
 refine fb 13 [.tmp 2] [0,2,6,7,8] Tryz.func56 fun hsc=>?_
 refine cd h (fun hc h=>?_) fun hc h=>?_
 ·exact rt
 ·refine r0 ?_
  obtain⟨fx,h⟩:=ck fx h
  have fy:=(show [[D.int .i64 0],[D.int .i64 0],[D.int .i64 0],[D.int .i64 0],[D.int .i64 1],[D.int .i64 2],[D.int .i64 2],[D.int .i64 2],[D.int .i64 1],[D.int .i64 1]].getD a0.toNat [D.int .i64 0]=[D.int .i64 (get [0,0,0,0,1,2,2,2,1,1] a0.toNat)]from z1n [0,0,0,0,1,2,2,2,1,1] _)
  refine r1 ?_
  exact rt
theorem x2f(n:Nat)(a0:Bs)(r:Bool)(h:w6U n a0=some r):Pure Tryz.prog gl 57 [.str a0] (.bool r):=by
 intro st
 unfold w6U at h
 have fx:=trivial
 refine fb 62 [.tmp 2] [0,2,3,4,5,10,11,12,13,17,25,26,27,28,35,36,37,38,41,42,43,44,47,48,49,50,55,56,57,58,59,60,61] Tryz.func57 fun hsc=>?_
 refine cd h (fun hc h=>?_) fun hc h=>?_
 ·exact rt
 ·refine rn ?_
  refine w4m (body:=w8L a0) (kk:=x0q) (n:=n) (s0:=0)
   (fun(gs0:Unit) (s0:Int)=>[(0,.str a0),(3,.int .i64 s0)])
   (fun(gs0:Unit) (s0:Int)=>st)
   (fun(gt0:Unit) (t0:Unit)=>[])
   (fun(gt0:Unit) (t0:Unit)=>st)
   () h (x4b hsc)
   (fun gs0 s0 b0 h hx0=>?_) (fun gt0 t0 fr1 st1 h hb=>?_)
  ·unfold w8L at h
   refine cd h (fun hc h=>?_) fun hc h=>?_
   ·obtain⟨fx,h⟩:=ck fx h
    refine cd h (fun hc h=>?_) fun hc h=>?_
    ·refine ra ?_
     cases h
     refine w9J ?_;have h:=congrArg some (hx0 _ rfl)
     exact rt
    ·refine rn ?_
     cases h
     exact w4s () (x4b hsc)
   ·refine rn ?_
    cases h
    exact w4H () (x4b hsc)
  ·try simp only[go_sem,fx]
   unfold x0q at h
   refine w5A hb ?_
   exact rt
theorem x3Q(n:Nat)(a0:w3T)(a1:Bool)(r:w4b)(h:w7x n a0 a1=some r):Pure Tryz.prog gl 31 [.agg [.int .i64 a0.kind,.str a0.name,.sl false 1 16 (rows w3X a0.words),.sl false 4 72 (rows w3T.cells a0.subs)],.bool a1] (.agg [.int .i64 r.code,.int .i64 r.index]):=by
 intro st
 unfold w7x at h
 have fx:=trivial
 refine fb 150 [.cell 4 31] [0,1,2,4,5,6,7,8,9,10,11,12,13,15,16,22,43,44,45,46,49,52,57,58,59,62,63,64,67,68,69,74,75,76,77,79,86,87,88,89,90,93,94,95,96,97,98,101,102,103,104,105,109,110,111,112,114,115,116,117,122,125,134] Tryz.func31 fun hsc=>?_
 refine rn ?_
 refine w4m (body:=w4W n a1) (kk:=w8I) (n:=n) (s0:=([(w3Y.mk a0 1)],0,1))
  (fun(gs0:Nat) (s0:(List w3Y)×Int×Nat)=>[(1,.bool a1),(4,.ptr (st.length+1) 0 0 0),(5,.ref false (st.length+2) gs0 0 s0.2.2),(6,.int .i64 s0.2.1)])
  (fun(gs0:Nat) (s0:(List w3Y)×Int×Nat)=>st++[none,some (.arr 0 2 0 [[.int .i64 0,.int .i64 0]]),some (.arr gs0 5 80 (rows w3Y.cells s0.1))])
  (fun(gt0:Unit) (t0:Unit)=>[(4,.ptr (st.length+1) 0 0 0)])
  (fun(gt0:Unit) (t0:Unit)=>st++[none,some (.arr 0 2 0 [[.int .i64 0,.int .i64 0]])])
  0 h (bm hsc)
  (fun gs0 s0 b0 h hx0=>?_) (fun gt0 t0 fr1 st1 h hb=>?_)
 ·unfold w4W at h
  refine cd h (fun hc h=>?_) fun hc h=>?_
  ·refine r0 ?_
   refine r0 ?_
   obtain⟨fx,h⟩:=ck fx h
   obtain⟨fx,h⟩:=ck fx h
   have fy:=(show(rows w3Y.cells s0.1).getD ((wr .i64 ((↑s0.2.2:Int)-1)).toNat) []=w3Y.cells (get s0.1 ((wr .i64 ((↑s0.2.2:Int)-1)).toNat))from y2e (E:=w3Y.cells) (l:=s0.1) (k:=(wr .i64 ((↑s0.2.2:Int)-1)).toNat) (by first|omega|(simp;omega)))
   have fy:=fa fy (show(wr .i64 ((↑s0.2.2:Int)-1)).toNat<s0.1.length from by first|omega|(simp;omega))
   refine r1 ?_
   obtain⟨fx,h⟩:=ck fx h
   refine cl h (x4I _) fun v34 h=>?_
   refine rn ?_
   refine w9Q (w5x n s0) b0 (fun(gj7:Unit) (j7:Int)=>[(1,.bool a1),(4,.ptr (st.length+1) 0 0 0),(5,.ref false (st.length+2) gs0 0 ((wr .i64 ((↑s0.2.2:Int)-1)).toNat)),(6,.int .i64 s0.2.1),(7,.ptr (st.length+3) 0 0 0),(8,.ptr (st.length+4) 0 0 0),(9,.int .i64 j7)]) (fun(gj7:Unit) (j7:Int)=>st++[none,some (.arr 0 2 0 [[.int .i64 0,.int .i64 0]]),some (.arr gs0 5 80 (rows w3Y.cells s0.1)),some (.arr 0 5 0 [[.int .i64 ((get s0.1 ((wr .i64 ((↑s0.2.2:Int)-1)).toNat)).f.kind),.str ((get s0.1 ((wr .i64 ((↑s0.2.2:Int)-1)).toNat)).f.name),.sl false 1 16 (rows w3X ((get s0.1 ((wr .i64 ((↑s0.2.2:Int)-1)).toNat)).f.words)),.sl false 4 72 (rows w3T.cells ((get s0.1 ((wr .i64 ((↑s0.2.2:Int)-1)).toNat)).f.subs)),.int .i64 ((get s0.1 ((wr .i64 ((↑s0.2.2:Int)-1)).toNat)).depth)]]),some (.arr 0 4 0 [[.int .i64 ((get s0.1 ((wr .i64 ((↑s0.2.2:Int)-1)).toNat)).f.kind),.str ((get s0.1 ((wr .i64 ((↑s0.2.2:Int)-1)).toNat)).f.name),.sl false 1 16 (rows w3X ((get s0.1 ((wr .i64 ((↑s0.2.2:Int)-1)).toNat)).f.words)),.sl false 4 72 (rows w3T.cells ((get s0.1 ((wr .i64 ((↑s0.2.2:Int)-1)).toNat)).f.subs))]])]) (fun gj7 j7 fr1 st1 h hb=>?_) (fun hj7=>?_)
   ·try simp only[go_sem,fx]
    unfold w5x at h
    refine w5A hb ?_
    refine rn ?_
    refine w9Q (w4Y n s0 j7) b0 (fun(gj8:Unit) (j8:Int)=>[(1,.bool a1),(4,.ptr (st.length+1) 0 0 0),(5,.ref false (st.length+2) gs0 0 ((wr .i64 ((↑s0.2.2:Int)-1)).toNat)),(6,.int .i64 s0.2.1),(7,.ptr (st.length+3) 0 0 0),(8,.ptr (st.length+4) 0 0 0),(9,.int .i64 j7),(10,.int .i64 j8),(11,.int .i64 0)]) (fun(gj8:Unit) (j8:Int)=>st++[none,some (.arr 0 2 0 [[.int .i64 0,.int .i64 0]]),some (.arr gs0 5 80 (rows w3Y.cells s0.1)),some (.arr 0 5 0 [[.int .i64 ((get s0.1 ((wr .i64 ((↑s0.2.2:Int)-1)).toNat)).f.kind),.str ((get s0.1 ((wr .i64 ((↑s0.2.2:Int)-1)).toNat)).f.name),.sl false 1 16 (rows w3X ((get s0.1 ((wr .i64 ((↑s0.2.2:Int)-1)).toNat)).f.words)),.sl false 4 72 (rows w3T.cells ((get s0.1 ((wr .i64 ((↑s0.2.2:Int)-1)).toNat)).f.subs)),.int .i64 ((get s0.1 ((wr .i64 ((↑s0.2.2:Int)-1)).toNat)).depth)]]),some (.arr 0 4 0 [[.int .i64 ((get s0.1 ((wr .i64 ((↑s0.2.2:Int)-1)).toNat)).f.kind),.str ((get s0.1 ((wr .i64 ((↑s0.2.2:Int)-1)).toNat)).f.name),.sl false 1 16 (rows w3X ((get s0.1 ((wr .i64 ((↑s0.2.2:Int)-1)).toNat)).f.words)),.sl false 4 72 (rows w3T.cells ((get s0.1 ((wr .i64 ((↑s0.2.2:Int)-1)).toNat)).f.subs))]])]) (fun gj8 j8 fr1 st1 h hb=>?_) (fun hj8=>?_)
    ·try simp only[go_sem,fx]
     unfold w4Y at h
     refine w5A hb ?_
     refine rn ?_
     refine w9Q (w4X n s0 j7) b0 (fun(gj9:Unit) (j9:Int×Int)=>[(1,.bool a1),(4,.ptr (st.length+1) 0 0 0),(5,.ref false (st.length+2) gs0 0 ((wr .i64 ((↑s0.2.2:Int)-1)).toNat)),(6,.int .i64 s0.2.1),(7,.ptr (st.length+3) 0 0 0),(8,.ptr (st.length+4) 0 0 0),(9,.int .i64 j7),(10,.int .i64 j9.1),(11,.int .i64 j9.2)]) (fun(gj9:Unit) (j9:Int×Int)=>st++[none,some (.arr 0 2 0 [[.int .i64 0,.int .i64 0]]),some (.arr gs0 5 80 (rows w3Y.cells s0.1)),some (.arr 0 5 0 [[.int .i64 ((get s0.1 ((wr .i64 ((↑s0.2.2:Int)-1)).toNat)).f.kind),.str ((get s0.1 ((wr .i64 ((↑s0.2.2:Int)-1)).toNat)).f.name),.sl false 1 16 (rows w3X ((get s0.1 ((wr .i64 ((↑s0.2.2:Int)-1)).toNat)).f.words)),.sl false 4 72 (rows w3T.cells ((get s0.1 ((wr .i64 ((↑s0.2.2:Int)-1)).toNat)).f.subs)),.int .i64 ((get s0.1 ((wr .i64 ((↑s0.2.2:Int)-1)).toNat)).depth)]]),some (.arr 0 4 0 [[.int .i64 ((get s0.1 ((wr .i64 ((↑s0.2.2:Int)-1)).toNat)).f.kind),.str ((get s0.1 ((wr .i64 ((↑s0.2.2:Int)-1)).toNat)).f.name),.sl false 1 16 (rows w3X ((get s0.1 ((wr .i64 ((↑s0.2.2:Int)-1)).toNat)).f.words)),.sl false 4 72 (rows w3T.cells ((get s0.1 ((wr .i64 ((↑s0.2.2:Int)-1)).toNat)).f.subs))]])]) (fun gj9 j9 fr1 st1 h hb=>?_) (fun hj9=>?_)
     ·try simp only[go_sem,fx]
      unfold w4X at h
      refine w5A hb ?_
      refine rn ?_
      refine w9Q (w4i n s0) b0 (fun(z7k:Unit) (j10:Int)=>[(1,.bool a1),(4,.ptr (st.length+1) 0 0 0),(5,.ref false (st.length+2) gs0 0 ((wr .i64 ((↑s0.2.2:Int)-1)).toNat)),(6,.int .i64 s0.2.1),(7,.ptr (st.length+3) 0 0 0),(8,.ptr (st.length+4) 0 0 0),(13,.int .i64 j10)]) (fun(z7k:Unit) (j10:Int)=>st++[none,some (.arr 0 2 0 [[.int .i64 0,.int .i64 0]]),some (.arr gs0 5 80 (rows w3Y.cells s0.1)),some (.arr 0 5 0 [[.int .i64 ((get s0.1 ((wr .i64 ((↑s0.2.2:Int)-1)).toNat)).f.kind),.str ((get s0.1 ((wr .i64 ((↑s0.2.2:Int)-1)).toNat)).f.name),.sl false 1 16 (rows w3X ((get s0.1 ((wr .i64 ((↑s0.2.2:Int)-1)).toNat)).f.words)),.sl false 4 72 (rows w3T.cells ((get s0.1 ((wr .i64 ((↑s0.2.2:Int)-1)).toNat)).f.subs)),.int .i64 ((get s0.1 ((wr .i64 ((↑s0.2.2:Int)-1)).toNat)).depth)]]),some (.arr 0 4 0 [[.int .i64 ((get s0.1 ((wr .i64 ((↑s0.2.2:Int)-1)).toNat)).f.kind),.str ((get s0.1 ((wr .i64 ((↑s0.2.2:Int)-1)).toNat)).f.name),.sl false 1 16 (rows w3X ((get s0.1 ((wr .i64 ((↑s0.2.2:Int)-1)).toNat)).f.words)),.sl false 4 72 (rows w3T.cells ((get s0.1 ((wr .i64 ((↑s0.2.2:Int)-1)).toNat)).f.subs))]])]) (fun z7k j10 fr1 st1 h hb=>?_) (fun z2C=>?_)
      ·try simp only[go_sem,fx]
       unfold w4i at h
       refine w5A hb ?_
       refine cd h (fun hc h=>?_) fun hc h=>?_
       ·refine ra ?_
        cases h
        refine w9J ?_;have h:=congrArg some (hx0 _ rfl)
        exact rt
       ·refine rn ?_
        refine w4m (body:=w6n s0) (kk:=w6o s0) (n:=n) (s0:=(s0.1,(wr .i64 ((↑(((get s0.1 ((wr .i64 ((↑s0.2.2:Int)-1)).toNat)).f.subs).length):Int)-1)),(wr .i64 ((↑s0.2.2:Int)-1)).toNat))
         (fun(y5m:Nat) (s12:(List w3Y)×Int×Nat)=>[(1,.bool a1),(4,.ptr (st.length+1) 0 0 0),(5,.ref false (st.length+2) y5m 0 s12.2.2),(6,.int .i64 s0.2.1),(7,.ptr (st.length+3) 0 0 0),(8,.ptr (st.length+4) 0 0 0),(16,.int .i64 s12.2.1)])
         (fun(y5m:Nat) (s12:(List w3Y)×Int×Nat)=>st++[none,some (.arr 0 2 0 [[.int .i64 0,.int .i64 0]]),some (.arr y5m 5 80 (rows w3Y.cells s12.1)),some (.arr 0 5 0 [[.int .i64 ((get s0.1 ((wr .i64 ((↑s0.2.2:Int)-1)).toNat)).f.kind),.str ((get s0.1 ((wr .i64 ((↑s0.2.2:Int)-1)).toNat)).f.name),.sl false 1 16 (rows w3X ((get s0.1 ((wr .i64 ((↑s0.2.2:Int)-1)).toNat)).f.words)),.sl false 4 72 (rows w3T.cells ((get s0.1 ((wr .i64 ((↑s0.2.2:Int)-1)).toNat)).f.subs)),.int .i64 ((get s0.1 ((wr .i64 ((↑s0.2.2:Int)-1)).toNat)).depth)]]),some (.arr 0 4 0 [[.int .i64 ((get s0.1 ((wr .i64 ((↑s0.2.2:Int)-1)).toNat)).f.kind),.str ((get s0.1 ((wr .i64 ((↑s0.2.2:Int)-1)).toNat)).f.name),.sl false 1 16 (rows w3X ((get s0.1 ((wr .i64 ((↑s0.2.2:Int)-1)).toNat)).f.words)),.sl false 4 72 (rows w3T.cells ((get s0.1 ((wr .i64 ((↑s0.2.2:Int)-1)).toNat)).f.subs))]])])
         (fun(z0J:Nat) (t12:(List w3Y)×Nat)=>[(1,.bool a1),(4,.ptr (st.length+1) 0 0 0),(5,.ref false (st.length+2) z0J 0 t12.2),(6,.int .i64 s0.2.1)])
         (fun(z0J:Nat) (t12:(List w3Y)×Nat)=>st++[none,some (.arr 0 2 0 [[.int .i64 0,.int .i64 0]]),some (.arr z0J 5 80 (rows w3Y.cells t12.1))])
         gs0 h (bm hsc)
         (fun y5m s12 b12 h z7l=>?_) (fun z0J t12 fr1 st1 h hb=>?_)
        ·unfold w6n at h
         refine cd h (fun hc h=>?_) fun hc h=>?_
         ·refine rn ?_
          obtain⟨fx,h⟩:=ck fx h
          obtain⟨fx,h⟩:=ck fx h
          obtain⟨c51,z4C,h⟩:=x1k h
          have fy:=(show rows w3Y.cells (s12.1.take s12.2.2)++[[.int .i64 ((get ((get s0.1 ((wr .i64 ((↑s0.2.2:Int)-1)).toNat)).f.subs) s12.2.1.toNat).kind),.str ((get ((get s0.1 ((wr .i64 ((↑s0.2.2:Int)-1)).toNat)).f.subs) s12.2.1.toNat).name),.sl false 1 16 (rows w3X ((get ((get s0.1 ((wr .i64 ((↑s0.2.2:Int)-1)).toNat)).f.subs) s12.2.1.toNat).words)),.sl false 4 72 (rows w3T.cells ((get ((get s0.1 ((wr .i64 ((↑s0.2.2:Int)-1)).toNat)).f.subs) s12.2.1.toNat).subs)),.int .i64 (wr .i64 (((get s0.1 ((wr .i64 ((↑s0.2.2:Int)-1)).toNat)).depth)+1))]]=rows w3Y.cells c51 from by rw[z4C];first|exact w4k (E:=w3Y.cells) (s12.1.take s12.2.2) [(w3Y.mk (get ((get s0.1 ((wr .i64 ((↑s0.2.2:Int)-1)).toNat)).f.subs) s12.2.1.toNat) (wr .i64 (((get s0.1 ((wr .i64 ((↑s0.2.2:Int)-1)).toNat)).depth)+1)))]|simp only[go_sem,rows,List.map_append,List.map_cons,List.map_nil])
          have fy:=fa fy (show s12.2.2+1=c51.length from by rw[z4C];simp<;>omega)
          obtain⟨fx,h⟩:=ck fx h
          refine dwy [] 2 ?_
          refine rn ?_
          cases h
          exact w4s (y5m+1) (bm hsc)
         ·refine rn ?_
          cases h
          exact w4H y5m (bm hsc)
        ·try simp only[go_sem,fx]
         unfold w6o at h
         refine w5A hb ?_
         refine rn ?_
         cases h
         exact w4s z0J (bm hsc)
      ·refine cd h (fun hc h=>?_) fun hc h=>?_
       ·refine r0 ?_
        refine z2C () _ _ _ h ?_;exact(bm hsc)
       ·refine cd h (fun hc h=>?_) fun hc h=>?_
        ·refine r0 ?_
         refine z2C () _ _ _ h ?_;exact(bm hsc)
        ·refine cd h (fun hc h=>?_) fun hc h=>?_
         ·refine r0 ?_
          refine z2C () _ _ _ h ?_;exact(bm hsc)
         ·refine rn ?_
          obtain⟨v35,hv35,h⟩:=w7w h
          refine x0C (fun hG=>(x2f n _ _ (x8s hv35 (by simpa using hG)))) ?_
          refine cd h (fun hc h=>?_) fun hc h=>?_
          ·refine r0 ?_
           refine z2C () _ _ _ h ?_;exact(bm hsc)
          ·refine cd h (fun hc h=>?_) fun hc h=>?_
           ·refine r0 ?_
            refine z2C () _ _ _ h ?_;exact(bm hsc)
           ·refine aln 114 fun hl11=>?_
            refine rng (body:=w6p n s0) (kk:=w6q n s0) (n:=((get s0.1 ((wr .i64 ((↑s0.2.2:Int)-1)).toNat)).f.words).length) (s0:=0)
             (fun(z2D:Unit) (k11:Nat) (s11:Int)=>[(1,.bool a1),(4,.ptr (st.length+1) 0 0 0),(5,.ref false (st.length+2) gs0 0 ((wr .i64 ((↑s0.2.2:Int)-1)).toNat)),(6,.int .i64 s0.2.1),(7,.ptr (st.length+3) 0 0 0),(8,.ptr (st.length+4) 0 0 0),(13,.int .i64 s11),(114,.sl false 1 16 (rows w3X ((get s0.1 ((wr .i64 ((↑s0.2.2:Int)-1)).toNat)).f.words))),(115,.int .i64 (↑(((get s0.1 ((wr .i64 ((↑s0.2.2:Int)-1)).toNat)).f.words).length):Int)),(116,.int .i64 (↑k11:Int))])
             (fun(z2D:Unit) (k11:Nat) (s11:Int)=>st++[none,some (.arr 0 2 0 [[.int .i64 0,.int .i64 0]]),some (.arr gs0 5 80 (rows w3Y.cells s0.1)),some (.arr 0 5 0 [[.int .i64 ((get s0.1 ((wr .i64 ((↑s0.2.2:Int)-1)).toNat)).f.kind),.str ((get s0.1 ((wr .i64 ((↑s0.2.2:Int)-1)).toNat)).f.name),.sl false 1 16 (rows w3X ((get s0.1 ((wr .i64 ((↑s0.2.2:Int)-1)).toNat)).f.words)),.sl false 4 72 (rows w3T.cells ((get s0.1 ((wr .i64 ((↑s0.2.2:Int)-1)).toNat)).f.subs)),.int .i64 ((get s0.1 ((wr .i64 ((↑s0.2.2:Int)-1)).toNat)).depth)]]),some (.arr 0 4 0 [[.int .i64 ((get s0.1 ((wr .i64 ((↑s0.2.2:Int)-1)).toNat)).f.kind),.str ((get s0.1 ((wr .i64 ((↑s0.2.2:Int)-1)).toNat)).f.name),.sl false 1 16 (rows w3X ((get s0.1 ((wr .i64 ((↑s0.2.2:Int)-1)).toNat)).f.words)),.sl false 4 72 (rows w3T.cells ((get s0.1 ((wr .i64 ((↑s0.2.2:Int)-1)).toNat)).f.subs))]])])
             (fun(z4D:Unit) (t11:Int)=>[(1,.bool a1),(4,.ptr (st.length+1) 0 0 0),(5,.ref false (st.length+2) gs0 0 ((wr .i64 ((↑s0.2.2:Int)-1)).toNat)),(6,.int .i64 s0.2.1),(7,.ptr (st.length+3) 0 0 0),(8,.ptr (st.length+4) 0 0 0),(13,.int .i64 t11)])
             (fun(z4D:Unit) (t11:Int)=>st++[none,some (.arr 0 2 0 [[.int .i64 0,.int .i64 0]]),some (.arr gs0 5 80 (rows w3Y.cells s0.1)),some (.arr 0 5 0 [[.int .i64 ((get s0.1 ((wr .i64 ((↑s0.2.2:Int)-1)).toNat)).f.kind),.str ((get s0.1 ((wr .i64 ((↑s0.2.2:Int)-1)).toNat)).f.name),.sl false 1 16 (rows w3X ((get s0.1 ((wr .i64 ((↑s0.2.2:Int)-1)).toNat)).f.words)),.sl false 4 72 (rows w3T.cells ((get s0.1 ((wr .i64 ((↑s0.2.2:Int)-1)).toNat)).f.subs)),.int .i64 ((get s0.1 ((wr .i64 ((↑s0.2.2:Int)-1)).toNat)).depth)]]),some (.arr 0 4 0 [[.int .i64 ((get s0.1 ((wr .i64 ((↑s0.2.2:Int)-1)).toNat)).f.kind),.str ((get s0.1 ((wr .i64 ((↑s0.2.2:Int)-1)).toNat)).f.name),.sl false 1 16 (rows w3X ((get s0.1 ((wr .i64 ((↑s0.2.2:Int)-1)).toNat)).f.words)),.sl false 4 72 (rows w3T.cells ((get s0.1 ((wr .i64 ((↑s0.2.2:Int)-1)).toNat)).f.subs))]])])
             () fx hl11 h (bm hsc)
             (fun z2D k11 s11 b11 fx h z9c=>?_) (fun z2D s11=>?_) (fun z4D t11 fr1 st1 h hb=>?_)
            ·unfold w6p at h
             refine ct ?_
             refine cl h (x2f n _) fun v37 h=>?_
             refine cd h (fun hc h=>?_) fun hc h=>?_
             ·refine rn ?_
              cases h
              exact x2D () (bm hsc)
             ·refine rn ?_
              cases h
              exact x2D () (bm hsc)
            ·refine cf ?_
             refine x2J ?_;simp only[go_sem,fx]
             exact⟨(),(bm hsc)⟩
            ·try simp only[go_sem,fx]
             unfold w6q at h
             refine z2C () _ _ _ h ?_;exact(hb.trans (bm hsc))
     ·refine cd h (fun hc h=>?_) fun hc h=>?_
      ·refine r0 ?_
       refine hj9 () _ _ _ h ?_;exact(bm hsc)
      ·refine r0 ?_
       refine hj9 () _ _ _ h ?_;exact(bm hsc)
    ·refine cd h (fun hc h=>?_) fun hc h=>?_
     ·refine r0 ?_
      refine hj8 () _ _ _ h ?_;exact(bm hsc)
     ·refine r0 ?_
      refine hj8 () _ _ _ h ?_;exact(bm hsc)
   ·refine cd h (fun hc h=>?_) fun hc h=>?_
    ·refine r0 ?_
     refine hj7 () _ _ _ h ?_;exact(bm hsc)
    ·refine r0 ?_
     refine hj7 () _ _ _ h ?_;exact(bm hsc)
  ·refine rn ?_
   cases h
   exact w4H () (bm hsc)
 ·try simp only[go_sem,fx]
  unfold w8I at h
  refine w5A hb ?_
  exact rt
theorem x0O(n:Nat)(a0:w3T)(r:w4b)(h:w5u n a0=some r):Pure Tryz.prog gl 9 [.agg [.int .i64 a0.kind,.str a0.name,.sl false 1 16 (rows w3X a0.words),.sl false 4 72 (rows w3T.cells a0.subs)]] (.agg [.int .i64 r.code,.int .i64 r.index]):=by
 intro st
 unfold w5u at h
 have fx:=trivial
 refine fb 5 [.cell 2 31] [0,1,2] Tryz.func9 fun hsc=>?_
 refine cl h (x3Q n _ _) fun v1 h=>?_
 exact rt
theorem x4o:∀(n:Nat) (a1:w3T) (a2:(List Bs)) (l0:(List w3U)) (r:(List w3U)) (h:w4p n a1 a2 l0=some r),∀(st:St) (o0 q0:Nat) (hnd: [o0].Nodup) (w8Z:Am.look st o0=some (.arr q0 5 80 (rows w3U.cells l0))),Am.Spec Tryz.prog gl 10 [.ref false o0 q0 0 l0.length,.agg [.int .i64 a1.kind,.str a1.name,.sl false 1 16 (rows w3X a1.words),.sl false 4 72 (rows w3T.cells a1.subs)],.sl false 1 16 (rows w3X a2)] st (fun d st'=>∃zo0:Nat,d= .ref false o0 zo0 0 r.length∧st'=puts st [(o0,(.arr zo0 5 80 (rows w3U.cells r)))]):=by
 intro n
 induction n with
 |zero=>intro a1 a2 l0 r h;cases h
 |succ n ih=>
  intro a1 a2 l0 r h st o0 q0 hnd w8Z
  unfold w4p at h
  have ho0:=w5a w8Z
  have fx:=idf ho0
  refine x3d ?_;refine fb 107 [.tmp 6] [0,1,2,4,6,7,8,9,10,11,12,13,14,28,34,39,40,41,42,43,44,45,46,47,48,65,66,67,68,75,89] Tryz.func10 fun hsc=>?_
  refine x1L (s':=(w4O st [(o0,(.arr q0 5 80 (rows w3U.cells l0)))])) (w4w (by simp[w8Z])) ?_
  refine r0 ?_
  refine r0 ?_
  refine r0 ?_
  refine r0 ?_
  (repeat apply sq_)
  refine w9I 1 1 ?_
  try simp only[List.append_assoc,List.cons_append,List.nil_append]
  refine w5A (F:=[(0,.ref false o0 q0 0 l0.length),(2,.sl false 1 16 (rows w3X a2)),(4,.ptr st.length 0 0 0),(7,.int .i64 (↑l0.length:Int)),(8,.ptr (st.length+1) 0 0 0),(9,.int .i64 0)]) (T:=(w4O st [(o0,(.arr q0 5 80 (rows w3U.cells l0)))])++[some (.arr 0 4 0 [[.int .i64 a1.kind,.str a1.name,.sl false 1 16 (rows w3X a1.words),.sl false 4 72 (rows w3T.cells a1.subs)]]),some (.arr 0 5 0 [[.int .i64 a1.kind,.str a1.name,.sl false 1 16 (rows w3X a1.words),.ref false (st.length+2) 0 0 0,.int .i64 0]]),some (.arr 0 1 1 (rows x1d []))]) (x2E (by simp) (w8D hsc (by simp<;>omega)) (.lv (.live _ _ _ _ (.arr _ _ _ _ _ (.cons _ _ _ _ (.cons _ _ _ _ .s (.cons _ _ _ _ .s (.cons _ _ _ _ .s (.cons _ _ _ _ (.nref _ _ _ _ _ _ (w4P.trans rfl)) (.cons _ _ _ _ .s .nil))))) (.same _))) (.lv (.nil _)))) (by simp<;>omega) ⟨.s,.s,.s,.s,.s,.s,trivial⟩ (by simp<;>omega)) ?_
  (repeat apply sq_)
  refine w4m (body:=w6Y n a1 a2) (kk:=w7a (w4p n) n l0 a1 a2) (n:=n) (s0:=([],0))
   (fun(gs0:Nat) (s0:(List Bool)×Int)=>[(0,.ref false o0 q0 0 l0.length),(2,.sl false 1 16 (rows w3X a2)),(4,.ptr st.length 0 0 0),(7,.int .i64 (↑l0.length:Int)),(8,.ptr (st.length+1) 0 0 0),(9,.int .i64 s0.2)])
   (fun(gs0:Nat) (s0:(List Bool)×Int)=>(w4O st [(o0,(.arr q0 5 80 (rows w3U.cells l0)))])++[some (.arr 0 4 0 [[.int .i64 a1.kind,.str a1.name,.sl false 1 16 (rows w3X a1.words),.sl false 4 72 (rows w3T.cells a1.subs)]]),some (.arr 0 5 0 [[.int .i64 a1.kind,.str a1.name,.sl false 1 16 (rows w3X a1.words),.ref false (st.length+2) gs0 0 s0.1.length,.int .i64 0]]),some (.arr gs0 1 1 (rows x1d s0.1))])
   (fun(gt0:Nat) (t0:(List Bool))=>[(0,.ref false o0 q0 0 l0.length),(2,.sl false 1 16 (rows w3X a2)),(4,.ptr st.length 0 0 0),(7,.int .i64 (↑l0.length:Int)),(8,.ptr (st.length+1) 0 0 0)])
   (fun(gt0:Nat) (t0:(List Bool))=>(w4O st [(o0,(.arr q0 5 80 (rows w3U.cells l0)))])++[some (.arr 0 4 0 [[.int .i64 a1.kind,.str a1.name,.sl false 1 16 (rows w3X a1.words),.sl false 4 72 (rows w3T.cells a1.subs)]]),some (.arr 0 5 0 [[.int .i64 a1.kind,.str a1.name,.sl false 1 16 (rows w3X a1.words),.ref false (st.length+2) gt0 0 t0.length,.int .i64 0]]),some (.arr gt0 1 1 (rows x1d t0))])
   0 h (bu hsc)
   (fun gs0 s0 b0 h hx0=>?_) (fun gt0 t0 fr1 st1 h hb=>?_)
  ·unfold w6Y at h
   refine cd h (fun hc h=>?_) fun hc h=>?_
   ·refine rn ?_
    refine w4m (body:=w6Z a2 s0 a1) (kk:=w9q s0) (n:=n) (s0:=(false,0))
     (fun(gs2:Unit) (s2:Bool×Int)=>[(0,.ref false o0 q0 0 l0.length),(2,.sl false 1 16 (rows w3X a2)),(4,.ptr st.length 0 0 0),(7,.int .i64 (↑l0.length:Int)),(8,.ptr (st.length+1) 0 0 0),(9,.int .i64 s0.2),(10,.bool s2.1),(11,.int .i64 s2.2)])
     (fun(gs2:Unit) (s2:Bool×Int)=>(w4O st [(o0,(.arr q0 5 80 (rows w3U.cells l0)))])++[some (.arr 0 4 0 [[.int .i64 a1.kind,.str a1.name,.sl false 1 16 (rows w3X a1.words),.sl false 4 72 (rows w3T.cells a1.subs)]]),some (.arr 0 5 0 [[.int .i64 a1.kind,.str a1.name,.sl false 1 16 (rows w3X a1.words),.ref false (st.length+2) gs0 0 s0.1.length,.int .i64 0]]),some (.arr gs0 1 1 (rows x1d s0.1))])
     (fun(gt2:Unit) (t2:Bool)=>[(0,.ref false o0 q0 0 l0.length),(2,.sl false 1 16 (rows w3X a2)),(4,.ptr st.length 0 0 0),(7,.int .i64 (↑l0.length:Int)),(8,.ptr (st.length+1) 0 0 0),(9,.int .i64 s0.2),(10,.bool t2)])
     (fun(gt2:Unit) (t2:Bool)=>(w4O st [(o0,(.arr q0 5 80 (rows w3U.cells l0)))])++[some (.arr 0 4 0 [[.int .i64 a1.kind,.str a1.name,.sl false 1 16 (rows w3X a1.words),.sl false 4 72 (rows w3T.cells a1.subs)]]),some (.arr 0 5 0 [[.int .i64 a1.kind,.str a1.name,.sl false 1 16 (rows w3X a1.words),.ref false (st.length+2) gs0 0 s0.1.length,.int .i64 0]]),some (.arr gs0 1 1 (rows x1d s0.1))])
     () h (bu hsc)
     (fun gs2 s2 b2 h hx2=>?_) (fun gt2 t2 fr1 st1 h hb=>?_)
    ·unfold w6Z at h
     refine cd h (fun hc h=>?_) fun hc h=>?_
     ·refine rn ?_
      obtain⟨fx,h⟩:=ck fx h
      obtain⟨fx,h⟩:=ck fx h
      refine dw [] 0 ?_
      refine rn ?_
      cases h
      exact w4s () (bu hsc)
     ·refine rn ?_
      cases h
      exact w4H () (bu hsc)
    ·try simp only[go_sem,fx]
     unfold w9q at h
     refine w5A hb ?_
     obtain⟨c28,z4E,h⟩:=x1k h
     have fy:=(show rows x1d s0.1++[[.bool t2]]=rows x1d c28 from by rw[z4E];first|exact w4k (E:=x1d) s0.1 [t2]|simp only[go_sem,rows,List.map_append,List.map_cons,List.map_nil])
     have fy:=fa fy (show s0.1.length+1=c28.length from by rw[z4E];simp)
     obtain⟨fx,h⟩:=ck fx h
     refine r1 ?_
     refine rn ?_
     cases h
     exact w4s (gs0+1) (bu hsc)
   ·refine rn ?_
    cases h
    exact w4H gs0 (bu hsc)
  ·try simp only[go_sem,fx]
   unfold w7a at h
   refine w5A hb ?_
   (repeat apply sq_)
   refine w5A (F:=[(0,.ref false o0 q0 0 l0.length),(2,.sl false 1 16 (rows w3X a2)),(4,.ptr st.length 0 0 0),(7,.int .i64 (↑l0.length:Int)),(8,.ptr (st.length+1) 0 0 0)]) (T:=(w4O st [(o0,(.arr q0 5 80 (rows w3U.cells l0)))])++[some (.arr 0 4 0 [[.int .i64 a1.kind,.str a1.name,.sl false 1 16 (rows w3X a1.words),.sl false 4 72 (rows w3T.cells a1.subs)]]),some (.arr 0 5 0 [[.int .i64 a1.kind,.str a1.name,.sl false 1 16 (rows w3X a1.words),.sl false 1 1 (rows x1d t0),.int .i64 0]])]) (x2E (by simp) (w8D hsc (by simp<;>omega)) (.lv (.live _ _ _ _ (.arr _ _ _ _ _ (.cons _ _ _ _ (.cons _ _ _ _ .s (.cons _ _ _ _ .s (.cons _ _ _ _ .s (.cons _ _ _ _ (.ref _ _ _ _ _ _ _ _ _ (w4P.trans rfl) (x0k (by first|decide|simp)) (by decide) (x4L _) (by simp only[go_sem])) (.cons _ _ _ _ .s .nil))))) (.same _))) (.nil _))) (by simp<;>omega) ⟨.s,.s,.s,.s,.s,trivial⟩ (by simp<;>omega)) ?_
   obtain⟨c34,y8t,h⟩:=x1k h
   have fy:=(show rows w3U.cells l0++[[.int .i64 a1.kind,.str a1.name,.sl false 1 16 (rows w3X a1.words),.sl false 1 1 (rows x1d t0),.int .i64 0]]=rows w3U.cells c34 from by rw[y8t];first|exact w4k (E:=w3U.cells) l0 [(w3U.mk a1.kind a1.name a1.words t0 0)]|simp only[go_sem,rows,List.map_append,List.map_cons,List.map_nil])
   have fy:=fa fy (show l0.length+1=c34.length from by rw[y8t];simp)
   obtain⟨fx,h⟩:=ck fx h
   refine r1 ?_
   refine rn ?_
   refine w9Q (w5o (w4p n) n a1 c34 l0) r (fun(gj3:Unit) (j3:(List Bs))=>[(0,.ref false o0 (q0+1) 0 c34.length),(4,.ptr st.length 0 0 0),(7,.int .i64 (↑l0.length:Int)),(12,.sl false 1 16 (rows w3X j3))]) (fun(gj3:Unit) (j3:(List Bs))=>(w4O st [(o0,(.arr (q0+1) 5 80 (rows w3U.cells c34)))])++[some (.arr 0 4 0 [[.int .i64 a1.kind,.str a1.name,.sl false 1 16 (rows w3X a1.words),.sl false 4 72 (rows w3T.cells a1.subs)]])]) (fun gj3 j3 fr1 st1 h hb=>?_) (fun hj3=>?_)
   ·try simp only[go_sem,fx]
    unfold w5o at h
    refine w5A hb ?_
    refine rn ?_
    refine w4m (body:=w5Q (w4p n) a1 j3) (kk:=w7b l0) (n:=n) (s0:=(c34,0))
     (fun(gs5:Nat) (s5:(List w3U)×Int)=>[(0,.ref false o0 gs5 0 s5.1.length),(4,.ptr st.length 0 0 0),(7,.int .i64 (↑l0.length:Int)),(12,.sl false 1 16 (rows w3X j3)),(14,.int .i64 s5.2)])
     (fun(gs5:Nat) (s5:(List w3U)×Int)=>(w4O st [(o0,(.arr gs5 5 80 (rows w3U.cells s5.1)))])++[some (.arr 0 4 0 [[.int .i64 a1.kind,.str a1.name,.sl false 1 16 (rows w3X a1.words),.sl false 4 72 (rows w3T.cells a1.subs)]])])
     (fun(gt5:Nat) (t5:(List w3U))=>[(0,.ref false o0 gt5 0 t5.length),(7,.int .i64 (↑l0.length:Int))])
     (fun(gt5:Nat) (t5:(List w3U))=>(w4O st [(o0,(.arr gt5 5 80 (rows w3U.cells t5)))]))
     (q0+1) h (bu hsc)
     (fun gs5 s5 b5 h hx5=>?_) (fun gt5 t5 fr1 st1 h hb=>?_)
    ·unfold w5Q at h
     refine cd h (fun hc h=>?_) fun hc h=>?_
     ·obtain⟨fx,h⟩:=ck fx h
      refine rn ?_
      obtain⟨v68,hv68,h⟩:=w7w h
      refine(x7h (ih _ _ _ _ hv68 _ _ gs5 hnd (by simp only[go_sem,fx]))).mono ?_
      rintro d1 st1 ⟨g69,rfl,rfl⟩
      refine rn ?_
      cases h
      exact w4s g69 (bu hsc)
     ·refine rn ?_
      cases h
      exact w4H gs5 (bu0 hsc)
    ·try simp only[go_sem,fx]
     unfold w7b at h
     refine w5A hb ?_
     obtain⟨fx,h⟩:=ck fx h
     have fy:=(show(rows w3U.cells t5).getD l0.length []=w3U.cells (get t5 l0.length)from y2e (E:=w3U.cells) (l:=t5) (k:=l0.length) (by first|omega|(simp;omega)))
     have fy:=fa fy (show l0.length<t5.length from by first|omega|(simp;omega))
     obtain⟨c73,z4F,h⟩:=x1k h
     have fy:=fa fy (show(rows w3U.cells t5).set l0.length [.int .i64 ((get t5 l0.length).kind),.str ((get t5 l0.length).name),.sl false 1 16 (rows w3X ((get t5 l0.length).words)),.sl false 1 1 (rows x1d ((get t5 l0.length).bound)),.int .i64 (↑t5.length:Int)]=rows w3U.cells c73 from by rw[z4F];first|exact z5E (E:=w3U.cells) _ _ _|simp only[go_sem,rows,List.map_set])
     refine r1 ?_
     have e75:D.ref false o0 gt5 0 t5.length=D.ref false o0 gt5 0 c73.length:=by simp[z4F]
     try simp only[e75]
     refine rr ?_
     exact fus (.ref false o0 gt5 0 c73.length) (.same _) h hsc (hr:=by rintro rfl;exact⟨gt5,rfl,rfl⟩)
   ·refine cd h (fun hc h=>?_) fun hc h=>?_
    ·refine rn ?_
     refine w4m (body:=w7c a2) (kk:=w9r (w4p n) n a1 c34 l0) (n:=n) (s0:=([a1.name],0))
      (fun(gs4:Nat) (s4:(List Bs)×Int)=>[(0,.ref false o0 (q0+1) 0 c34.length),(2,.sl false 1 16 (rows w3X a2)),(4,.ptr st.length 0 0 0),(7,.int .i64 (↑l0.length:Int)),(12,.ref false (st.length+3) gs4 0 s4.1.length),(13,.int .i64 s4.2)])
      (fun(gs4:Nat) (s4:(List Bs)×Int)=>(w4O st [(o0,(.arr (q0+1) 5 80 (rows w3U.cells c34)))])++[some (.arr 0 4 0 [[.int .i64 a1.kind,.str a1.name,.sl false 1 16 (rows w3X a1.words),.sl false 4 72 (rows w3T.cells a1.subs)]]),none,none,some (.arr gs4 1 16 (rows w3X s4.1))])
      (fun(gt4:Nat) (t4:(List Bs))=>[(0,.ref false o0 (q0+1) 0 c34.length),(4,.ptr st.length 0 0 0),(7,.int .i64 (↑l0.length:Int)),(12,.ref false (st.length+3) gt4 0 t4.length)])
      (fun(gt4:Nat) (t4:(List Bs))=>(w4O st [(o0,(.arr (q0+1) 5 80 (rows w3U.cells c34)))])++[some (.arr 0 4 0 [[.int .i64 a1.kind,.str a1.name,.sl false 1 16 (rows w3X a1.words),.sl false 4 72 (rows w3T.cells a1.subs)]]),none,none,some (.arr gt4 1 16 (rows w3X t4))])
      0 h (bu hsc)
      (fun gs4 s4 b4 h hx4=>?_) (fun gt4 t4 fr1 st1 h hb=>?_)
     ·unfold w7c at h
      refine cd h (fun hc h=>?_) fun hc h=>?_
      ·refine r0 ?_
       refine r0 ?_
       obtain⟨fx,h⟩:=ck fx h
       obtain⟨c58,z4G,h⟩:=x1k h
       have fy:=(show rows w3X s4.1++[[.str (get a2 s4.2.toNat)]]=rows w3X c58 from by rw[z4G];first|exact w4k (E:=w3X) s4.1 [(get a2 s4.2.toNat)]|simp only[go_sem,rows,List.map_append,List.map_cons,List.map_nil])
       have fy:=fa fy (show s4.1.length+1=c58.length from by rw[z4G];simp)
       obtain⟨fx,h⟩:=ck fx h
       refine r1 ?_
       refine rn ?_
       cases h
       exact w4s (gs4+1) (bu hsc)
      ·refine rn ?_
       cases h
       exact w4H gs4 (bu hsc)
     ·try simp only[go_sem,fx]
      unfold w9r at h
      refine hj3 () _ _ _ h ?_;exact(hb.trans (bu hsc (hf:=⟨.s,.s,.s,.ref _ _ _ _ _ _ _ _ _ (w4P.trans rfl) (x0k (by first|decide|simp)) (by decide) (x4L _) (by simp only[go_sem]),trivial⟩)))
    ·refine r0 ?_
     refine hj3 () _ _ _ h ?_;exact(bu hsc)
end Go.Proofs.YtdjnbjnlnjhllaaGreatDoor
