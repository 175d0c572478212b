import Derived.Test.YtdjnbjnlnjhllaaDoorFQWalk4
set_option linter.unusedVariables false
set_option linter.unusedSimpArgs false
set_option maxHeartbeats 2000000
set_option maxRecDepth 100000
namespace Go.Proofs.YtdjnbjnlnjhllaaDoor
open Go Go.Am
theorem K1(n:Nat)(r:Bool)(h:y9 n=some r):Pure Tryd.prog gl 7 [] (.bool r):=by
 intro st
 unfold y9 at h
 have fx:=trivial
 refine fb 79 [.tmp 0] [0,1,2,3,4,5,6,7,8,39,40,41,44,47,48,49,52,53,54,55,56,57,60,61,62,63,64,65,68,69,70,73,74,75,76,77] Tryd.func7 fun hsc=>?_
 refine cl h (up (bT _ _) (fun _=>(.cons _ _ _ _ .s (.cons _ _ _ _ (.y6 _ _ _ (by decide)) .nil)))) fun v1 h=>?_
 refine cl h (up (bT _ _) (fun _=>(.cons _ _ _ _ .s (.cons _ _ _ _ (.y6 _ _ _ (by decide)) .nil)))) fun v2 h=>?_
 refine cl h (Y2 _ _ _) fun v3 h=>?_
 refine r0 ?_
 refine r0 ?_
 (repeat apply sq_)
 refine R8 (F:=[(1,.ptr st.length 0 0 0),(2,.ptr (st.length+1) 0 0 0),(3,.ptr (st.length+3) 0 0 0)]) (T:=st++[some (.arr 0 7 0 [[.int .i64 v3.kind,.str v3.name,.sl false 1 16 (rows w8 v3.words),.sl false 4 72 (rows u5.cells v3.subs),.y6,.y6,.sl false 1 16 [[.str [112]],[.str [113]]]]]),some (.arr 0 4 0 [[.int .i64 1,.str [],.y6,.y6]]),some (.arr 0 4 72 (rows u5.cells [(u5.mk 1 [] [] [])])),some (.arr 0 4 0 [[.int .i64 4,.str [],.y6,.ref true (st.length+2) 0 0 1]])]) (vP hsc (.lv (.lv (.live _ _ _ _ (.arr _ _ _ _ _ (.cons _ _ _ _ (.cons _ _ _ _ .s (.cons _ _ _ _ .s (.cons _ _ _ _ (.y6 _ _ _ (by decide)) (.cons _ _ _ _ (.y6 _ _ _ (by decide)) .nil)))) .nil)) (.lv (.nil _))))) (by simp) ⟨.s,.s,.s,trivial⟩ (by simp)) ?_
 (repeat apply sq_)
 refine R8 (F:=[(1,.ptr st.length 0 0 0),(2,.ptr (st.length+1) 0 0 0),(3,.ptr (st.length+3) 0 0 0)]) (T:=st++[some (.arr 0 7 0 [[.int .i64 v3.kind,.str v3.name,.sl false 1 16 (rows w8 v3.words),.sl false 4 72 (rows u5.cells v3.subs),.y6,.y6,.sl false 1 16 [[.str [112]],[.str [113]]]]]),some (.arr 0 4 0 [[.int .i64 1,.str [],.y6,.y6]]),none,some (.arr 0 4 0 [[.int .i64 4,.str [],.y6,.sl false 4 72 (rows u5.cells [(u5.mk 1 [] [] [])])]])]) (vP hsc (.lv (.lv (.dead _ _ _ (.live _ _ _ _ (.arr _ _ _ _ _ (.cons _ _ _ _ (.cons _ _ _ _ .s (.cons _ _ _ _ .s (.cons _ _ _ _ .s (.cons _ _ _ _ (.ref _ _ _ _ _ _ _ _ _ (nV.trans rfl) (kU.trans rfl) (by decide) (mW _) (by simp only[go_sem])) .nil)))) (.same _))) (.nil _))))) (by simp) ⟨.s,.s,.s,trivial⟩ (by simp)) ?_
 refine rs ?_
 refine dw [] 1 ?_
 obtain⟨v6,hv6,h⟩:=Y8 h
 refine X9 ((Y2 _ _ _ _ hv6).up (fun _=>(.cons _ _ _ _ .s (.cons _ _ _ _ (.agg _ _ (.cons _ _ _ _ .s (.cons _ _ _ _ .s (.cons _ _ _ _ (.y6 _ _ _ (by decide)) (.cons _ _ _ _ (.y6 _ _ _ (by decide)) .nil))))) (.cons _ _ _ _ (.agg _ _ (.cons _ _ _ _ .s (.cons _ _ _ _ .s (.cons _ _ _ _ (.y6 _ _ _ (by decide)) (.cons _ _ _ _ .s .nil))))) .nil)))) (.inr fun n=>by simp)) ?_
 try simp only[go_sem,fx]
 obtain⟨v7,hv7,h⟩:=Y8 h
 refine X9 ((kO n _ _ _ hv7).up (fun _=>(.cons _ _ _ _ (.agg _ _ (.cons _ _ _ _ .s (.cons _ _ _ _ .s (.cons _ _ _ _ .s (.cons _ _ _ _ .s (.cons _ _ _ _ (.y6 _ _ _ (by decide)) (.cons _ _ _ _ (.y6 _ _ _ (by decide)) (.cons _ _ _ _ .s .nil)))))))) (.cons _ _ _ _ .s .nil))) (.inr fun n=>by simp)) ?_
 try simp only[go_sem,fx]
 refine rs ?_
 refine dw [] 1 ?_
 obtain⟨v8,hv8,h⟩:=Y8 h
 refine X9 ((Y2 _ _ _ _ hv8).up (fun _=>(.cons _ _ _ _ .s (.cons _ _ _ _ (.agg _ _ (.cons _ _ _ _ .s (.cons _ _ _ _ .s (.cons _ _ _ _ (.y6 _ _ _ (by decide)) (.cons _ _ _ _ (.y6 _ _ _ (by decide)) .nil))))) (.cons _ _ _ _ (.agg _ _ (.cons _ _ _ _ .s (.cons _ _ _ _ .s (.cons _ _ _ _ (.y6 _ _ _ (by decide)) (.cons _ _ _ _ .s .nil))))) .nil)))) (.inr fun n=>by simp)) ?_
 try simp only[go_sem,fx]
 obtain⟨v9,hv9,h⟩:=Y8 h
 refine X9 ((X3 n _ _ _ hv9).up (fun _=>(.cons _ _ _ _ (.agg _ _ (.cons _ _ _ _ .s (.cons _ _ _ _ .s (.cons _ _ _ _ .s (.cons _ _ _ _ .s (.cons _ _ _ _ (.y6 _ _ _ (by decide)) (.cons _ _ _ _ (.y6 _ _ _ (by decide)) (.cons _ _ _ _ .s .nil)))))))) (.cons _ _ _ _ .s .nil))) (.inr fun n=>by simp)) ?_
 try simp only[go_sem,fx]
 refine rs ?_
 obtain⟨fx,h⟩:=ck fx h
 refine dw [] 0 ?_
 obtain⟨v12,hv12,h⟩:=Y8 h
 refine ec (fun hG=>((S4 n _ _ _ (pH hv12 (by simpa using hG))).up (fun _=>(.cons _ _ _ _ .s (.cons _ _ _ _ (.agg _ _ (.cons _ _ _ _ .s (.cons _ _ _ _ .s (.cons _ _ _ _ (.y6 _ _ _ (by decide)) (.cons _ _ _ _ (.y6 _ _ _ (by decide)) .nil))))) .nil))) (.inr fun n=>by simp))) ?_
 obtain⟨fx,h⟩:=ck fx h
 try simp only[go_sem,fx]
 obtain⟨v15,hv15,h⟩:=Y8 h
 refine ec (fun hG=>((S4 n _ _ _ (pH hv15 (by simpa using hG))).up (fun _=>(.cons _ _ _ _ .s (.cons _ _ _ _ (.agg _ _ (.cons _ _ _ _ .s (.cons _ _ _ _ .s (.cons _ _ _ _ (.y6 _ _ _ (by decide)) (.cons _ _ _ _ .s .nil))))) .nil))) (.inr fun n=>by simp))) ?_
 obtain⟨fx,h⟩:=ck fx h
 try simp only[go_sem,fx]
 exact rt
theorem fC(a0:Int)(r:Int)(h:M8 a0=some r):Pure Tryd.prog gl 57 [.int .i64 a0] (.int .i64 r):=by
 intro st
 unfold M8 at h
 have fx:=trivial
 refine fb 13 [.tmp 2] [0,2,6,7,8] Tryd.func57 fun hsc=>?_
 refine cd h (fun hc h=>?_) fun hc h=>?_
 ·exact rt
 ·refine r0 ?_
  obtain⟨fx,h⟩:=ck fx h
  have fy:=(show [[D.int .i64 0],[D.int .i64 0],[D.int .i64 0],[D.int .i64 0],[D.int .i64 1],[D.int .i64 2],[D.int .i64 2],[D.int .i64 2],[D.int .i64 1],[D.int .i64 1]].getD a0.toNat [D.int .i64 0]=[D.int .i64 (get [0,0,0,0,1,2,2,2,1,1] a0.toNat)]from CD [0,0,0,0,1,2,2,2,1,1] _)
  refine r1 ?_
  exact rt
theorem bU(n:Nat)(a0:Bs)(r:Bool)(h:K8 n a0=some r):Pure Tryd.prog gl 58 [.str a0] (.bool r):=by
 intro st
 unfold K8 at h
 have fx:=trivial
 refine fb 62 [.tmp 2] [0,2,3,4,5,10,11,12,13,17,25,26,27,28,35,36,37,38,41,42,43,44,47,48,49,50,55,56,57,58,59,60,61] Tryd.func58 fun hsc=>?_
 refine cd h (fun hc h=>?_) fun hc h=>?_
 ·exact rt
 ·refine rn ?_
  refine B7 (body:=R5 a0) (kk:=Y1) (n:=n) (s0:=0)
   (fun(gs0:Unit) (s0:Int)=>[(0,.str a0),(3,.int .i64 s0)])
   (fun(gs0:Unit) (s0:Int)=>st)
   (fun(gt0:Unit) (t0:Unit)=>[])
   (fun(gt0:Unit) (t0:Unit)=>st)
   () h (fM hsc)
   (fun gs0 s0 b0 h hx0=>?_) (fun gt0 t0 fr1 st1 h hb=>?_)
  ·unfold R5 at h
   refine cd h (fun hc h=>?_) fun hc h=>?_
   ·obtain⟨fx,h⟩:=ck fx h
    refine cd h (fun hc h=>?_) fun hc h=>?_
    ·refine ra ?_
     cases h
     refine Y9 ?_;have h:=congrArg some (hx0 _ rfl)
     exact rt
    ·refine rn ?_
     cases h
     exact F7 () (fM hsc)
   ·refine rn ?_
    cases h
    exact J1 () (fM hsc)
  ·try simp only[go_sem,fx]
   unfold Y1 at h
   refine R8 hb ?_
   exact rt
theorem dQ(n:Nat)(a0:u5)(a1:Bool)(r:w9)(h:N3 n a0 a1=some r):Pure Tryd.prog gl 46 [.agg [.int .i64 a0.kind,.str a0.name,.sl false 1 16 (rows w8 a0.words),.sl false 4 72 (rows u5.cells a0.subs)],.bool a1] (.agg [.int .i64 r.code,.int .i64 r.index]):=by
 intro st
 unfold N3 at h
 have fx:=trivial
 refine fb 150 [.cell 4 30] [0,1,2,4,5,6,7,8,9,10,11,12,13,15,16,22,43,44,45,46,49,52,57,58,59,62,63,64,67,68,69,74,75,76,77,79,86,87,88,89,90,93,94,95,96,97,98,101,102,103,104,105,109,110,111,112,114,115,116,117,122,125,134] Tryd.func46 fun hsc=>?_
 refine rn ?_
 refine B7 (body:=C2 n a1) (kk:=R3) (n:=n) (s0:=([(w5.mk a0 1)],0,1))
  (fun(gs0:Nat) (s0:(List w5)×Int×Nat)=>[(1,.bool a1),(4,.ptr (st.length+1) 0 0 0),(5,.ref false (st.length+2) gs0 0 s0.2.2),(6,.int .i64 s0.2.1)])
  (fun(gs0:Nat) (s0:(List w5)×Int×Nat)=>st++[none,some (.arr 0 2 0 [[.int .i64 0,.int .i64 0]]),some (.arr gs0 5 80 (rows w5.cells s0.1))])
  (fun(gt0:Unit) (t0:Unit)=>[(4,.ptr (st.length+1) 0 0 0)])
  (fun(gt0:Unit) (t0:Unit)=>st++[none,some (.arr 0 2 0 [[.int .i64 0,.int .i64 0]])])
  0 h (bm hsc)
  (fun gs0 s0 b0 h hx0=>?_) (fun gt0 t0 fr1 st1 h hb=>?_)
 ·unfold C2 at h
  refine cd h (fun hc h=>?_) fun hc h=>?_
  ·refine r0 ?_
   refine r0 ?_
   obtain⟨fx,h⟩:=ck fx h
   obtain⟨fx,h⟩:=ck fx h
   have fy:=(show(rows w5.cells s0.1).getD ((wr .i64 ((↑s0.2.2:Int)-1)).toNat) []=w5.cells (get s0.1 ((wr .i64 ((↑s0.2.2:Int)-1)).toNat))from zA (E:=w5.cells) (l:=s0.1) (k:=(wr .i64 ((↑s0.2.2:Int)-1)).toNat) (by first|omega|(simp;omega)))
   have fy:=fa fy (show(wr .i64 ((↑s0.2.2:Int)-1)).toNat<s0.1.length from by first|omega|(simp;omega))
   refine r1 ?_
   obtain⟨fx,h⟩:=ck fx h
   refine cl h (fC _) fun v34 h=>?_
   refine rn ?_
   refine bB (E0 n s0) b0 (fun(gj7:Unit) (j7:Int)=>[(1,.bool a1),(4,.ptr (st.length+1) 0 0 0),(5,.ref false (st.length+2) gs0 0 ((wr .i64 ((↑s0.2.2:Int)-1)).toNat)),(6,.int .i64 s0.2.1),(7,.ptr (st.length+3) 0 0 0),(8,.ptr (st.length+4) 0 0 0),(9,.int .i64 j7)]) (fun(gj7:Unit) (j7:Int)=>st++[none,some (.arr 0 2 0 [[.int .i64 0,.int .i64 0]]),some (.arr gs0 5 80 (rows w5.cells s0.1)),some (.arr 0 5 0 [[.int .i64 ((get s0.1 ((wr .i64 ((↑s0.2.2:Int)-1)).toNat)).f.kind),.str ((get s0.1 ((wr .i64 ((↑s0.2.2:Int)-1)).toNat)).f.name),.sl false 1 16 (rows w8 ((get s0.1 ((wr .i64 ((↑s0.2.2:Int)-1)).toNat)).f.words)),.sl false 4 72 (rows u5.cells ((get s0.1 ((wr .i64 ((↑s0.2.2:Int)-1)).toNat)).f.subs)),.int .i64 ((get s0.1 ((wr .i64 ((↑s0.2.2:Int)-1)).toNat)).depth)]]),some (.arr 0 4 0 [[.int .i64 ((get s0.1 ((wr .i64 ((↑s0.2.2:Int)-1)).toNat)).f.kind),.str ((get s0.1 ((wr .i64 ((↑s0.2.2:Int)-1)).toNat)).f.name),.sl false 1 16 (rows w8 ((get s0.1 ((wr .i64 ((↑s0.2.2:Int)-1)).toNat)).f.words)),.sl false 4 72 (rows u5.cells ((get s0.1 ((wr .i64 ((↑s0.2.2:Int)-1)).toNat)).f.subs))]])]) (fun gj7 j7 fr1 st1 h hb=>?_) (fun hj7=>?_)
   ·try simp only[go_sem,fx]
    unfold E0 at h
    refine R8 hb ?_
    refine rn ?_
    refine bB (C5 n s0 j7) b0 (fun(gj8:Unit) (j8:Int)=>[(1,.bool a1),(4,.ptr (st.length+1) 0 0 0),(5,.ref false (st.length+2) gs0 0 ((wr .i64 ((↑s0.2.2:Int)-1)).toNat)),(6,.int .i64 s0.2.1),(7,.ptr (st.length+3) 0 0 0),(8,.ptr (st.length+4) 0 0 0),(9,.int .i64 j7),(10,.int .i64 j8),(11,.int .i64 0)]) (fun(gj8:Unit) (j8:Int)=>st++[none,some (.arr 0 2 0 [[.int .i64 0,.int .i64 0]]),some (.arr gs0 5 80 (rows w5.cells s0.1)),some (.arr 0 5 0 [[.int .i64 ((get s0.1 ((wr .i64 ((↑s0.2.2:Int)-1)).toNat)).f.kind),.str ((get s0.1 ((wr .i64 ((↑s0.2.2:Int)-1)).toNat)).f.name),.sl false 1 16 (rows w8 ((get s0.1 ((wr .i64 ((↑s0.2.2:Int)-1)).toNat)).f.words)),.sl false 4 72 (rows u5.cells ((get s0.1 ((wr .i64 ((↑s0.2.2:Int)-1)).toNat)).f.subs)),.int .i64 ((get s0.1 ((wr .i64 ((↑s0.2.2:Int)-1)).toNat)).depth)]]),some (.arr 0 4 0 [[.int .i64 ((get s0.1 ((wr .i64 ((↑s0.2.2:Int)-1)).toNat)).f.kind),.str ((get s0.1 ((wr .i64 ((↑s0.2.2:Int)-1)).toNat)).f.name),.sl false 1 16 (rows w8 ((get s0.1 ((wr .i64 ((↑s0.2.2:Int)-1)).toNat)).f.words)),.sl false 4 72 (rows u5.cells ((get s0.1 ((wr .i64 ((↑s0.2.2:Int)-1)).toNat)).f.subs))]])]) (fun gj8 j8 fr1 st1 h hb=>?_) (fun hj8=>?_)
    ·try simp only[go_sem,fx]
     unfold C5 at h
     refine R8 hb ?_
     refine rn ?_
     refine bB (C4 n s0 j7) b0 (fun(gj9:Unit) (j9:Int×Int)=>[(1,.bool a1),(4,.ptr (st.length+1) 0 0 0),(5,.ref false (st.length+2) gs0 0 ((wr .i64 ((↑s0.2.2:Int)-1)).toNat)),(6,.int .i64 s0.2.1),(7,.ptr (st.length+3) 0 0 0),(8,.ptr (st.length+4) 0 0 0),(9,.int .i64 j7),(10,.int .i64 j9.1),(11,.int .i64 j9.2)]) (fun(gj9:Unit) (j9:Int×Int)=>st++[none,some (.arr 0 2 0 [[.int .i64 0,.int .i64 0]]),some (.arr gs0 5 80 (rows w5.cells s0.1)),some (.arr 0 5 0 [[.int .i64 ((get s0.1 ((wr .i64 ((↑s0.2.2:Int)-1)).toNat)).f.kind),.str ((get s0.1 ((wr .i64 ((↑s0.2.2:Int)-1)).toNat)).f.name),.sl false 1 16 (rows w8 ((get s0.1 ((wr .i64 ((↑s0.2.2:Int)-1)).toNat)).f.words)),.sl false 4 72 (rows u5.cells ((get s0.1 ((wr .i64 ((↑s0.2.2:Int)-1)).toNat)).f.subs)),.int .i64 ((get s0.1 ((wr .i64 ((↑s0.2.2:Int)-1)).toNat)).depth)]]),some (.arr 0 4 0 [[.int .i64 ((get s0.1 ((wr .i64 ((↑s0.2.2:Int)-1)).toNat)).f.kind),.str ((get s0.1 ((wr .i64 ((↑s0.2.2:Int)-1)).toNat)).f.name),.sl false 1 16 (rows w8 ((get s0.1 ((wr .i64 ((↑s0.2.2:Int)-1)).toNat)).f.words)),.sl false 4 72 (rows u5.cells ((get s0.1 ((wr .i64 ((↑s0.2.2:Int)-1)).toNat)).f.subs))]])]) (fun gj9 j9 fr1 st1 h hb=>?_) (fun hj9=>?_)
     ·try simp only[go_sem,fx]
      unfold C4 at h
      refine R8 hb ?_
      refine rn ?_
      refine bB (y3 n s0) b0 (fun(Jo:Unit) (j10:Int)=>[(1,.bool a1),(4,.ptr (st.length+1) 0 0 0),(5,.ref false (st.length+2) gs0 0 ((wr .i64 ((↑s0.2.2:Int)-1)).toNat)),(6,.int .i64 s0.2.1),(7,.ptr (st.length+3) 0 0 0),(8,.ptr (st.length+4) 0 0 0),(13,.int .i64 j10)]) (fun(Jo:Unit) (j10:Int)=>st++[none,some (.arr 0 2 0 [[.int .i64 0,.int .i64 0]]),some (.arr gs0 5 80 (rows w5.cells s0.1)),some (.arr 0 5 0 [[.int .i64 ((get s0.1 ((wr .i64 ((↑s0.2.2:Int)-1)).toNat)).f.kind),.str ((get s0.1 ((wr .i64 ((↑s0.2.2:Int)-1)).toNat)).f.name),.sl false 1 16 (rows w8 ((get s0.1 ((wr .i64 ((↑s0.2.2:Int)-1)).toNat)).f.words)),.sl false 4 72 (rows u5.cells ((get s0.1 ((wr .i64 ((↑s0.2.2:Int)-1)).toNat)).f.subs)),.int .i64 ((get s0.1 ((wr .i64 ((↑s0.2.2:Int)-1)).toNat)).depth)]]),some (.arr 0 4 0 [[.int .i64 ((get s0.1 ((wr .i64 ((↑s0.2.2:Int)-1)).toNat)).f.kind),.str ((get s0.1 ((wr .i64 ((↑s0.2.2:Int)-1)).toNat)).f.name),.sl false 1 16 (rows w8 ((get s0.1 ((wr .i64 ((↑s0.2.2:Int)-1)).toNat)).f.words)),.sl false 4 72 (rows u5.cells ((get s0.1 ((wr .i64 ((↑s0.2.2:Int)-1)).toNat)).f.subs))]])]) (fun Jo j10 fr1 st1 h hb=>?_) (fun DR=>?_)
      ·try simp only[go_sem,fx]
       unfold y3 at h
       refine R8 hb ?_
       refine cd h (fun hc h=>?_) fun hc h=>?_
       ·refine ra ?_
        cases h
        refine Y9 ?_;have h:=congrArg some (hx0 _ rfl)
        exact rt
       ·refine rn ?_
        refine B7 (body:=H9 s0) (kk:=I0 s0) (n:=n) (s0:=(s0.1,(wr .i64 ((↑(((get s0.1 ((wr .i64 ((↑s0.2.2:Int)-1)).toNat)).f.subs).length):Int)-1)),(wr .i64 ((↑s0.2.2:Int)-1)).toNat))
         (fun(uT:Nat) (s12:(List w5)×Int×Nat)=>[(1,.bool a1),(4,.ptr (st.length+1) 0 0 0),(5,.ref false (st.length+2) uT 0 s12.2.2),(6,.int .i64 s0.2.1),(7,.ptr (st.length+3) 0 0 0),(8,.ptr (st.length+4) 0 0 0),(16,.int .i64 s12.2.1)])
         (fun(uT:Nat) (s12:(List w5)×Int×Nat)=>st++[none,some (.arr 0 2 0 [[.int .i64 0,.int .i64 0]]),some (.arr uT 5 80 (rows w5.cells s12.1)),some (.arr 0 5 0 [[.int .i64 ((get s0.1 ((wr .i64 ((↑s0.2.2:Int)-1)).toNat)).f.kind),.str ((get s0.1 ((wr .i64 ((↑s0.2.2:Int)-1)).toNat)).f.name),.sl false 1 16 (rows w8 ((get s0.1 ((wr .i64 ((↑s0.2.2:Int)-1)).toNat)).f.words)),.sl false 4 72 (rows u5.cells ((get s0.1 ((wr .i64 ((↑s0.2.2:Int)-1)).toNat)).f.subs)),.int .i64 ((get s0.1 ((wr .i64 ((↑s0.2.2:Int)-1)).toNat)).depth)]]),some (.arr 0 4 0 [[.int .i64 ((get s0.1 ((wr .i64 ((↑s0.2.2:Int)-1)).toNat)).f.kind),.str ((get s0.1 ((wr .i64 ((↑s0.2.2:Int)-1)).toNat)).f.name),.sl false 1 16 (rows w8 ((get s0.1 ((wr .i64 ((↑s0.2.2:Int)-1)).toNat)).f.words)),.sl false 4 72 (rows u5.cells ((get s0.1 ((wr .i64 ((↑s0.2.2:Int)-1)).toNat)).f.subs))]])])
         (fun(BW:Nat) (t12:(List w5)×Nat)=>[(1,.bool a1),(4,.ptr (st.length+1) 0 0 0),(5,.ref false (st.length+2) BW 0 t12.2),(6,.int .i64 s0.2.1)])
         (fun(BW:Nat) (t12:(List w5)×Nat)=>st++[none,some (.arr 0 2 0 [[.int .i64 0,.int .i64 0]]),some (.arr BW 5 80 (rows w5.cells t12.1))])
         gs0 h (bm hsc)
         (fun uT s12 b12 h Jp=>?_) (fun BW t12 fr1 st1 h hb=>?_)
        ·unfold H9 at h
         refine cd h (fun hc h=>?_) fun hc h=>?_
         ·refine rn ?_
          obtain⟨fx,h⟩:=ck fx h
          obtain⟨fx,h⟩:=ck fx h
          obtain⟨c51,FX,h⟩:=iA h
          have fy:=(show rows w5.cells (s12.1.take s12.2.2)++[[.int .i64 ((get ((get s0.1 ((wr .i64 ((↑s0.2.2:Int)-1)).toNat)).f.subs) s12.2.1.toNat).kind),.str ((get ((get s0.1 ((wr .i64 ((↑s0.2.2:Int)-1)).toNat)).f.subs) s12.2.1.toNat).name),.sl false 1 16 (rows w8 ((get ((get s0.1 ((wr .i64 ((↑s0.2.2:Int)-1)).toNat)).f.subs) s12.2.1.toNat).words)),.sl false 4 72 (rows u5.cells ((get ((get s0.1 ((wr .i64 ((↑s0.2.2:Int)-1)).toNat)).f.subs) s12.2.1.toNat).subs)),.int .i64 (wr .i64 (((get s0.1 ((wr .i64 ((↑s0.2.2:Int)-1)).toNat)).depth)+1))]]=rows w5.cells c51 from by rw[FX];first|exact D8 (E:=w5.cells) (s12.1.take s12.2.2) [(w5.mk (get ((get s0.1 ((wr .i64 ((↑s0.2.2:Int)-1)).toNat)).f.subs) s12.2.1.toNat) (wr .i64 (((get s0.1 ((wr .i64 ((↑s0.2.2:Int)-1)).toNat)).depth)+1)))]|simp only[go_sem,rows,List.map_append,List.map_cons,List.map_nil])
          have fy:=fa fy (show s12.2.2+1=c51.length from by rw[FX];simp<;>omega)
          obtain⟨fx,h⟩:=ck fx h
          refine dwy [] 2 ?_
          refine rn ?_
          cases h
          exact F7 (uT+1) (bm hsc)
         ·refine rn ?_
          cases h
          exact J1 uT (bm hsc)
        ·try simp only[go_sem,fx]
         unfold I0 at h
         refine R8 hb ?_
         refine rn ?_
         cases h
         exact F7 BW (bm hsc)
      ·refine cd h (fun hc h=>?_) fun hc h=>?_
       ·refine r0 ?_
        refine DR () _ _ _ h ?_;exact(bm hsc)
       ·refine cd h (fun hc h=>?_) fun hc h=>?_
        ·refine r0 ?_
         refine DR () _ _ _ h ?_;exact(bm hsc)
        ·refine cd h (fun hc h=>?_) fun hc h=>?_
         ·refine r0 ?_
          refine DR () _ _ _ h ?_;exact(bm hsc)
         ·refine rn ?_
          obtain⟨v35,hv35,h⟩:=Y8 h
          refine eL (fun hG=>(bU n _ _ (pH hv35 (by simpa using hG)))) ?_
          refine cd h (fun hc h=>?_) fun hc h=>?_
          ·refine r0 ?_
           refine DR () _ _ _ h ?_;exact(bm hsc)
          ·refine cd h (fun hc h=>?_) fun hc h=>?_
           ·refine r0 ?_
            refine DR () _ _ _ h ?_;exact(bm hsc)
           ·refine aln 114 fun hl11=>?_
            refine rng (body:=I3 n s0) (kk:=I4 n s0) (n:=((get s0.1 ((wr .i64 ((↑s0.2.2:Int)-1)).toNat)).f.words).length) (s0:=0)
             (fun(DS:Unit) (k11:Nat) (s11:Int)=>[(1,.bool a1),(4,.ptr (st.length+1) 0 0 0),(5,.ref false (st.length+2) gs0 0 ((wr .i64 ((↑s0.2.2:Int)-1)).toNat)),(6,.int .i64 s0.2.1),(7,.ptr (st.length+3) 0 0 0),(8,.ptr (st.length+4) 0 0 0),(13,.int .i64 s11),(114,.sl false 1 16 (rows w8 ((get s0.1 ((wr .i64 ((↑s0.2.2:Int)-1)).toNat)).f.words))),(115,.int .i64 (↑(((get s0.1 ((wr .i64 ((↑s0.2.2:Int)-1)).toNat)).f.words).length):Int)),(116,.int .i64 (↑k11:Int))])
             (fun(DS:Unit) (k11:Nat) (s11:Int)=>st++[none,some (.arr 0 2 0 [[.int .i64 0,.int .i64 0]]),some (.arr gs0 5 80 (rows w5.cells s0.1)),some (.arr 0 5 0 [[.int .i64 ((get s0.1 ((wr .i64 ((↑s0.2.2:Int)-1)).toNat)).f.kind),.str ((get s0.1 ((wr .i64 ((↑s0.2.2:Int)-1)).toNat)).f.name),.sl false 1 16 (rows w8 ((get s0.1 ((wr .i64 ((↑s0.2.2:Int)-1)).toNat)).f.words)),.sl false 4 72 (rows u5.cells ((get s0.1 ((wr .i64 ((↑s0.2.2:Int)-1)).toNat)).f.subs)),.int .i64 ((get s0.1 ((wr .i64 ((↑s0.2.2:Int)-1)).toNat)).depth)]]),some (.arr 0 4 0 [[.int .i64 ((get s0.1 ((wr .i64 ((↑s0.2.2:Int)-1)).toNat)).f.kind),.str ((get s0.1 ((wr .i64 ((↑s0.2.2:Int)-1)).toNat)).f.name),.sl false 1 16 (rows w8 ((get s0.1 ((wr .i64 ((↑s0.2.2:Int)-1)).toNat)).f.words)),.sl false 4 72 (rows u5.cells ((get s0.1 ((wr .i64 ((↑s0.2.2:Int)-1)).toNat)).f.subs))]])])
             (fun(FY:Unit) (t11:Int)=>[(1,.bool a1),(4,.ptr (st.length+1) 0 0 0),(5,.ref false (st.length+2) gs0 0 ((wr .i64 ((↑s0.2.2:Int)-1)).toNat)),(6,.int .i64 s0.2.1),(7,.ptr (st.length+3) 0 0 0),(8,.ptr (st.length+4) 0 0 0),(13,.int .i64 t11)])
             (fun(FY:Unit) (t11:Int)=>st++[none,some (.arr 0 2 0 [[.int .i64 0,.int .i64 0]]),some (.arr gs0 5 80 (rows w5.cells s0.1)),some (.arr 0 5 0 [[.int .i64 ((get s0.1 ((wr .i64 ((↑s0.2.2:Int)-1)).toNat)).f.kind),.str ((get s0.1 ((wr .i64 ((↑s0.2.2:Int)-1)).toNat)).f.name),.sl false 1 16 (rows w8 ((get s0.1 ((wr .i64 ((↑s0.2.2:Int)-1)).toNat)).f.words)),.sl false 4 72 (rows u5.cells ((get s0.1 ((wr .i64 ((↑s0.2.2:Int)-1)).toNat)).f.subs)),.int .i64 ((get s0.1 ((wr .i64 ((↑s0.2.2:Int)-1)).toNat)).depth)]]),some (.arr 0 4 0 [[.int .i64 ((get s0.1 ((wr .i64 ((↑s0.2.2:Int)-1)).toNat)).f.kind),.str ((get s0.1 ((wr .i64 ((↑s0.2.2:Int)-1)).toNat)).f.name),.sl false 1 16 (rows w8 ((get s0.1 ((wr .i64 ((↑s0.2.2:Int)-1)).toNat)).f.words)),.sl false 4 72 (rows u5.cells ((get s0.1 ((wr .i64 ((↑s0.2.2:Int)-1)).toNat)).f.subs))]])])
             () fx hl11 h (bm hsc)
             (fun DS k11 s11 b11 fx h KL=>?_) (fun DS s11=>?_) (fun FY t11 fr1 st1 h hb=>?_)
            ·unfold I3 at h
             refine ct ?_
             refine cl h (bU n _) fun v37 h=>?_
             refine cd h (fun hc h=>?_) fun hc h=>?_
             ·refine rn ?_
              cases h
              exact gL () (bm hsc)
             ·refine rn ?_
              cases h
              exact gL () (bm hsc)
            ·refine cf ?_
             refine gy ?_;simp only[go_sem,fx]
             exact⟨(),(bm hsc)⟩
            ·try simp only[go_sem,fx]
             unfold I4 at h
             refine DR () _ _ _ h ?_;exact(hb.trans (bm hsc))
     ·refine cd h (fun hc h=>?_) fun hc h=>?_
      ·refine r0 ?_
       refine hj9 () _ _ _ h ?_;exact(bm hsc)
      ·refine r0 ?_
       refine hj9 () _ _ _ h ?_;exact(bm hsc)
    ·refine cd h (fun hc h=>?_) fun hc h=>?_
     ·refine r0 ?_
      refine hj8 () _ _ _ h ?_;exact(bm hsc)
     ·refine r0 ?_
      refine hj8 () _ _ _ h ?_;exact(bm hsc)
   ·refine cd h (fun hc h=>?_) fun hc h=>?_
    ·refine r0 ?_
     refine hj7 () _ _ _ h ?_;exact(bm hsc)
    ·refine r0 ?_
     refine hj7 () _ _ _ h ?_;exact(bm hsc)
  ·refine rn ?_
   cases h
   exact J1 () (bm hsc)
 ·try simp only[go_sem,fx]
  unfold R3 at h
  refine R8 hb ?_
  exact rt
theorem dR(n:Nat)(a0:u5)(r:w9)(h:H6 n a0=some r):Pure Tryd.prog gl 26 [.agg [.int .i64 a0.kind,.str a0.name,.sl false 1 16 (rows w8 a0.words),.sl false 4 72 (rows u5.cells a0.subs)]] (.agg [.int .i64 r.code,.int .i64 r.index]):=by
 intro st
 unfold H6 at h
 have fx:=trivial
 refine fb 5 [.cell 2 30] [0,1,2] Tryd.func26 fun hsc=>?_
 refine cl h (dQ n _ _) fun v1 h=>?_
 exact rt
theorem eR:∀(n:Nat) (a1:u5) (a2:(List Bs)) (l0:(List u6)) (r:(List u6)) (h:y8 n a1 a2 l0=some r),∀(st:St) (o0 q0:Nat) (hnd: [o0].Nodup) (aG:Am.look st o0=some (.arr q0 5 80 (rows u6.cells l0))),Am.Spec Tryd.prog gl 27 [.ref false o0 q0 0 l0.length,.agg [.int .i64 a1.kind,.str a1.name,.sl false 1 16 (rows w8 a1.words),.sl false 4 72 (rows u5.cells a1.subs)],.sl false 1 16 (rows w8 a2)] st (fun d st'=>∃zo0:Nat,d= .ref false o0 zo0 0 r.length∧st'=puts st [(o0,(.arr zo0 5 80 (rows u6.cells r)))]):=by
 intro n
 induction n with
 |zero=>intro a1 a2 l0 r h;cases h
 |succ n ih=>
  intro a1 a2 l0 r h st o0 q0 hnd aG
  unfold y8 at h
  have ho0:=J2 aG
  have fx:=idf ho0
  refine jI ?_;refine fb 107 [.tmp 6] [0,1,2,4,6,7,8,9,10,11,12,13,14,28,34,39,40,41,42,43,44,45,46,47,48,65,66,67,68,75,89] Tryd.func27 fun hsc=>?_
  refine dG (s':=(F2 st [(o0,(.arr q0 5 80 (rows u6.cells l0)))])) (D7 (by simp[aG])) ?_
  refine r0 ?_
  refine r0 ?_
  refine r0 ?_
  refine r0 ?_
  (repeat apply sq_)
  refine ep 1 1 ?_
  try simp only[List.append_assoc,List.cons_append,List.nil_append]
  refine R8 (F:=[(0,.ref false o0 q0 0 l0.length),(2,.sl false 1 16 (rows w8 a2)),(4,.ptr st.length 0 0 0),(7,.int .i64 (↑l0.length:Int)),(8,.ptr (st.length+1) 0 0 0),(9,.int .i64 0)]) (T:=(F2 st [(o0,(.arr q0 5 80 (rows u6.cells l0)))])++[some (.arr 0 4 0 [[.int .i64 a1.kind,.str a1.name,.sl false 1 16 (rows w8 a1.words),.sl false 4 72 (rows u5.cells a1.subs)]]),some (.arr 0 5 0 [[.int .i64 a1.kind,.str a1.name,.sl false 1 16 (rows w8 a1.words),.ref false (st.length+2) 0 0 0,.int .i64 0]]),some (.arr 0 1 1 (rows bL []))]) (jG (by simp) (aZ hsc (by simp<;>omega)) (.lv (.live _ _ _ _ (.arr _ _ _ _ _ (.cons _ _ _ _ (.cons _ _ _ _ .s (.cons _ _ _ _ .s (.cons _ _ _ _ .s (.cons _ _ _ _ (.nref _ _ _ _ _ _ (T2.trans rfl)) (.cons _ _ _ _ .s .nil))))) (.same _))) (.lv (.nil _)))) (by simp<;>omega) ⟨.s,.s,.s,.s,.s,.s,trivial⟩ (by simp<;>omega)) ?_
  (repeat apply sq_)
  refine B7 (body:=L2 n a1 a2) (kk:=L4 (y8 n) n l0 a1 a2) (n:=n) (s0:=([],0))
   (fun(gs0:Nat) (s0:(List Bool)×Int)=>[(0,.ref false o0 q0 0 l0.length),(2,.sl false 1 16 (rows w8 a2)),(4,.ptr st.length 0 0 0),(7,.int .i64 (↑l0.length:Int)),(8,.ptr (st.length+1) 0 0 0),(9,.int .i64 s0.2)])
   (fun(gs0:Nat) (s0:(List Bool)×Int)=>(F2 st [(o0,(.arr q0 5 80 (rows u6.cells l0)))])++[some (.arr 0 4 0 [[.int .i64 a1.kind,.str a1.name,.sl false 1 16 (rows w8 a1.words),.sl false 4 72 (rows u5.cells a1.subs)]]),some (.arr 0 5 0 [[.int .i64 a1.kind,.str a1.name,.sl false 1 16 (rows w8 a1.words),.ref false (st.length+2) gs0 0 s0.1.length,.int .i64 0]]),some (.arr gs0 1 1 (rows bL s0.1))])
   (fun(gt0:Nat) (t0:(List Bool))=>[(0,.ref false o0 q0 0 l0.length),(2,.sl false 1 16 (rows w8 a2)),(4,.ptr st.length 0 0 0),(7,.int .i64 (↑l0.length:Int)),(8,.ptr (st.length+1) 0 0 0)])
   (fun(gt0:Nat) (t0:(List Bool))=>(F2 st [(o0,(.arr q0 5 80 (rows u6.cells l0)))])++[some (.arr 0 4 0 [[.int .i64 a1.kind,.str a1.name,.sl false 1 16 (rows w8 a1.words),.sl false 4 72 (rows u5.cells a1.subs)]]),some (.arr 0 5 0 [[.int .i64 a1.kind,.str a1.name,.sl false 1 16 (rows w8 a1.words),.ref false (st.length+2) gt0 0 t0.length,.int .i64 0]]),some (.arr gt0 1 1 (rows bL t0))])
   0 h (bu hsc)
   (fun gs0 s0 b0 h hx0=>?_) (fun gt0 t0 fr1 st1 h hb=>?_)
  ·unfold L2 at h
   refine cd h (fun hc h=>?_) fun hc h=>?_
   ·refine rn ?_
    refine B7 (body:=L3 a2 s0 a1) (kk:=T4 s0) (n:=n) (s0:=(false,0))
     (fun(gs2:Unit) (s2:Bool×Int)=>[(0,.ref false o0 q0 0 l0.length),(2,.sl false 1 16 (rows w8 a2)),(4,.ptr st.length 0 0 0),(7,.int .i64 (↑l0.length:Int)),(8,.ptr (st.length+1) 0 0 0),(9,.int .i64 s0.2),(10,.bool s2.1),(11,.int .i64 s2.2)])
     (fun(gs2:Unit) (s2:Bool×Int)=>(F2 st [(o0,(.arr q0 5 80 (rows u6.cells l0)))])++[some (.arr 0 4 0 [[.int .i64 a1.kind,.str a1.name,.sl false 1 16 (rows w8 a1.words),.sl false 4 72 (rows u5.cells a1.subs)]]),some (.arr 0 5 0 [[.int .i64 a1.kind,.str a1.name,.sl false 1 16 (rows w8 a1.words),.ref false (st.length+2) gs0 0 s0.1.length,.int .i64 0]]),some (.arr gs0 1 1 (rows bL s0.1))])
     (fun(gt2:Unit) (t2:Bool)=>[(0,.ref false o0 q0 0 l0.length),(2,.sl false 1 16 (rows w8 a2)),(4,.ptr st.length 0 0 0),(7,.int .i64 (↑l0.length:Int)),(8,.ptr (st.length+1) 0 0 0),(9,.int .i64 s0.2),(10,.bool t2)])
     (fun(gt2:Unit) (t2:Bool)=>(F2 st [(o0,(.arr q0 5 80 (rows u6.cells l0)))])++[some (.arr 0 4 0 [[.int .i64 a1.kind,.str a1.name,.sl false 1 16 (rows w8 a1.words),.sl false 4 72 (rows u5.cells a1.subs)]]),some (.arr 0 5 0 [[.int .i64 a1.kind,.str a1.name,.sl false 1 16 (rows w8 a1.words),.ref false (st.length+2) gs0 0 s0.1.length,.int .i64 0]]),some (.arr gs0 1 1 (rows bL s0.1))])
     () h (bu hsc)
     (fun gs2 s2 b2 h hx2=>?_) (fun gt2 t2 fr1 st1 h hb=>?_)
    ·unfold L3 at h
     refine cd h (fun hc h=>?_) fun hc h=>?_
     ·refine rn ?_
      obtain⟨fx,h⟩:=ck fx h
      obtain⟨fx,h⟩:=ck fx h
      refine dw [] 0 ?_
      refine rn ?_
      cases h
      exact F7 () (bu hsc)
     ·refine rn ?_
      cases h
      exact J1 () (bu hsc)
    ·try simp only[go_sem,fx]
     unfold T4 at h
     refine R8 hb ?_
     obtain⟨c28,FZ,h⟩:=iA h
     have fy:=(show rows bL s0.1++[[.bool t2]]=rows bL c28 from by rw[FZ];first|exact D8 (E:=bL) s0.1 [t2]|simp only[go_sem,rows,List.map_append,List.map_cons,List.map_nil])
     have fy:=fa fy (show s0.1.length+1=c28.length from by rw[FZ];simp)
     obtain⟨fx,h⟩:=ck fx h
     refine r1 ?_
     refine rn ?_
     cases h
     exact F7 (gs0+1) (bu hsc)
   ·refine rn ?_
    cases h
    exact J1 gs0 (bu hsc)
  ·try simp only[go_sem,fx]
   unfold L4 at h
   refine R8 hb ?_
   (repeat apply sq_)
   refine R8 (F:=[(0,.ref false o0 q0 0 l0.length),(2,.sl false 1 16 (rows w8 a2)),(4,.ptr st.length 0 0 0),(7,.int .i64 (↑l0.length:Int)),(8,.ptr (st.length+1) 0 0 0)]) (T:=(F2 st [(o0,(.arr q0 5 80 (rows u6.cells l0)))])++[some (.arr 0 4 0 [[.int .i64 a1.kind,.str a1.name,.sl false 1 16 (rows w8 a1.words),.sl false 4 72 (rows u5.cells a1.subs)]]),some (.arr 0 5 0 [[.int .i64 a1.kind,.str a1.name,.sl false 1 16 (rows w8 a1.words),.sl false 1 1 (rows bL t0),.int .i64 0]])]) (jG (by simp) (aZ hsc (by simp<;>omega)) (.lv (.live _ _ _ _ (.arr _ _ _ _ _ (.cons _ _ _ _ (.cons _ _ _ _ .s (.cons _ _ _ _ .s (.cons _ _ _ _ .s (.cons _ _ _ _ (.ref _ _ _ _ _ _ _ _ _ (T2.trans rfl) (dr (by first|decide|simp)) (by decide) (mW _) (by simp only[go_sem])) (.cons _ _ _ _ .s .nil))))) (.same _))) (.nil _))) (by simp<;>omega) ⟨.s,.s,.s,.s,.s,trivial⟩ (by simp<;>omega)) ?_
   obtain⟨c34,BU,h⟩:=iA h
   have fy:=(show rows u6.cells l0++[[.int .i64 a1.kind,.str a1.name,.sl false 1 16 (rows w8 a1.words),.sl false 1 1 (rows bL t0),.int .i64 0]]=rows u6.cells c34 from by rw[BU];first|exact D8 (E:=u6.cells) l0 [(u6.mk a1.kind a1.name a1.words t0 0)]|simp only[go_sem,rows,List.map_append,List.map_cons,List.map_nil])
   have fy:=fa fy (show l0.length+1=c34.length from by rw[BU];simp)
   obtain⟨fx,h⟩:=ck fx h
   refine r1 ?_
   refine rn ?_
   refine bB (D4 (y8 n) n a1 c34 l0) r (fun(gj3:Unit) (j3:(List Bs))=>[(0,.ref false o0 (q0+1) 0 c34.length),(4,.ptr st.length 0 0 0),(7,.int .i64 (↑l0.length:Int)),(12,.sl false 1 16 (rows w8 j3))]) (fun(gj3:Unit) (j3:(List Bs))=>(F2 st [(o0,(.arr (q0+1) 5 80 (rows u6.cells c34)))])++[some (.arr 0 4 0 [[.int .i64 a1.kind,.str a1.name,.sl false 1 16 (rows w8 a1.words),.sl false 4 72 (rows u5.cells a1.subs)]])]) (fun gj3 j3 fr1 st1 h hb=>?_) (fun hj3=>?_)
   ·try simp only[go_sem,fx]
    unfold D4 at h
    refine R8 hb ?_
    refine rn ?_
    refine B7 (body:=F8 (y8 n) a1 j3) (kk:=L5 l0) (n:=n) (s0:=(c34,0))
     (fun(gs5:Nat) (s5:(List u6)×Int)=>[(0,.ref false o0 gs5 0 s5.1.length),(4,.ptr st.length 0 0 0),(7,.int .i64 (↑l0.length:Int)),(12,.sl false 1 16 (rows w8 j3)),(14,.int .i64 s5.2)])
     (fun(gs5:Nat) (s5:(List u6)×Int)=>(F2 st [(o0,(.arr gs5 5 80 (rows u6.cells s5.1)))])++[some (.arr 0 4 0 [[.int .i64 a1.kind,.str a1.name,.sl false 1 16 (rows w8 a1.words),.sl false 4 72 (rows u5.cells a1.subs)]])])
     (fun(gt5:Nat) (t5:(List u6))=>[(0,.ref false o0 gt5 0 t5.length),(7,.int .i64 (↑l0.length:Int))])
     (fun(gt5:Nat) (t5:(List u6))=>(F2 st [(o0,(.arr gt5 5 80 (rows u6.cells t5)))]))
     (q0+1) h (bu hsc)
     (fun gs5 s5 b5 h hx5=>?_) (fun gt5 t5 fr1 st1 h hb=>?_)
    ·unfold F8 at h
     refine cd h (fun hc h=>?_) fun hc h=>?_
     ·obtain⟨fx,h⟩:=ck fx h
      refine rn ?_
      obtain⟨v68,hv68,h⟩:=Y8 h
      refine(pJ (ih _ _ _ _ hv68 _ _ gs5 hnd (by simp only[go_sem,fx]))).mono ?_
      rintro d1 st1 ⟨g69,rfl,rfl⟩
      refine rn ?_
      cases h
      exact F7 g69 (bu hsc)
     ·refine rn ?_
      cases h
      exact J1 gs5 (bu0 hsc)
    ·try simp only[go_sem,fx]
     unfold L5 at h
     refine R8 hb ?_
     obtain⟨fx,h⟩:=ck fx h
     have fy:=(show(rows u6.cells t5).getD l0.length []=u6.cells (get t5 l0.length)from zA (E:=u6.cells) (l:=t5) (k:=l0.length) (by first|omega|(simp;omega)))
     have fy:=fa fy (show l0.length<t5.length from by first|omega|(simp;omega))
     obtain⟨c73,Ga,h⟩:=iA h
     have fy:=fa fy (show(rows u6.cells t5).set l0.length [.int .i64 ((get t5 l0.length).kind),.str ((get t5 l0.length).name),.sl false 1 16 (rows w8 ((get t5 l0.length).words)),.sl false 1 1 (rows bL ((get t5 l0.length).bound)),.int .i64 (↑t5.length:Int)]=rows u6.cells c73 from by rw[Ga];first|exact IV (E:=u6.cells) _ _ _|simp only[go_sem,rows,List.map_set])
     refine r1 ?_
     have e75:D.ref false o0 gt5 0 t5.length=D.ref false o0 gt5 0 c73.length:=by simp[Ga]
     try simp only[e75]
     refine rr ?_
     exact fus (.ref false o0 gt5 0 c73.length) (.same _) h hsc (hr:=by rintro rfl;exact⟨gt5,rfl,rfl⟩)
   ·refine cd h (fun hc h=>?_) fun hc h=>?_
    ·refine rn ?_
     refine B7 (body:=L6 a2) (kk:=T5 (y8 n) n a1 c34 l0) (n:=n) (s0:=([a1.name],0))
      (fun(gs4:Nat) (s4:(List Bs)×Int)=>[(0,.ref false o0 (q0+1) 0 c34.length),(2,.sl false 1 16 (rows w8 a2)),(4,.ptr st.length 0 0 0),(7,.int .i64 (↑l0.length:Int)),(12,.ref false (st.length+3) gs4 0 s4.1.length),(13,.int .i64 s4.2)])
      (fun(gs4:Nat) (s4:(List Bs)×Int)=>(F2 st [(o0,(.arr (q0+1) 5 80 (rows u6.cells c34)))])++[some (.arr 0 4 0 [[.int .i64 a1.kind,.str a1.name,.sl false 1 16 (rows w8 a1.words),.sl false 4 72 (rows u5.cells a1.subs)]]),none,none,some (.arr gs4 1 16 (rows w8 s4.1))])
      (fun(gt4:Nat) (t4:(List Bs))=>[(0,.ref false o0 (q0+1) 0 c34.length),(4,.ptr st.length 0 0 0),(7,.int .i64 (↑l0.length:Int)),(12,.ref false (st.length+3) gt4 0 t4.length)])
      (fun(gt4:Nat) (t4:(List Bs))=>(F2 st [(o0,(.arr (q0+1) 5 80 (rows u6.cells c34)))])++[some (.arr 0 4 0 [[.int .i64 a1.kind,.str a1.name,.sl false 1 16 (rows w8 a1.words),.sl false 4 72 (rows u5.cells a1.subs)]]),none,none,some (.arr gt4 1 16 (rows w8 t4))])
      0 h (bu hsc)
      (fun gs4 s4 b4 h hx4=>?_) (fun gt4 t4 fr1 st1 h hb=>?_)
     ·unfold L6 at h
      refine cd h (fun hc h=>?_) fun hc h=>?_
      ·refine r0 ?_
       refine r0 ?_
       obtain⟨fx,h⟩:=ck fx h
       obtain⟨c58,Gb,h⟩:=iA h
       have fy:=(show rows w8 s4.1++[[.str (get a2 s4.2.toNat)]]=rows w8 c58 from by rw[Gb];first|exact D8 (E:=w8) s4.1 [(get a2 s4.2.toNat)]|simp only[go_sem,rows,List.map_append,List.map_cons,List.map_nil])
       have fy:=fa fy (show s4.1.length+1=c58.length from by rw[Gb];simp)
       obtain⟨fx,h⟩:=ck fx h
       refine r1 ?_
       refine rn ?_
       cases h
       exact F7 (gs4+1) (bu hsc)
      ·refine rn ?_
       cases h
       exact J1 gs4 (bu hsc)
     ·try simp only[go_sem,fx]
      unfold T5 at h
      refine hj3 () _ _ _ h ?_;exact(hb.trans (bu hsc (hf:=⟨.s,.s,.s,.ref _ _ _ _ _ _ _ _ _ (T2.trans rfl) (dr (by first|decide|simp)) (by decide) (mW _) (by simp only[go_sem]),trivial⟩)))
    ·refine r0 ?_
     refine hj3 () _ _ _ h ?_;exact(bu hsc)
end Go.Proofs.YtdjnbjnlnjhllaaDoor
