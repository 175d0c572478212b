import Derived.Test.YtdjnbjnlnjhllaaGreatDoorFMWalk4
set_option linter.unusedVariables false
set_option linter.unusedSimpArgs false
set_option maxHeartbeats 2000000
set_option maxRecDepth 100000
namespace Go.Proofs.YtdjnbjnlnjhllaaGreatDoor
open Go Go.Am
theorem p6e(n:Nat)(r:Bool)(h:i9U n=some r):Pure Tryz.prog gl 5 [] (.bool r):=by
 intro st
 unfold i9U at h
 have fx:=trivial
 refine fb 79 [.tmp 0] [0,1,2,3,4,5,6,7,8,39,40,41,44,47,48,49,52,53,54,55,56,57,60,61,62,63,64,65,68,69,70,73,74,75,76,77] Tryz.func5 fun hsc=>?_
 refine cl h (up (p6g _ _) (fun _=>(.cons _ _ _ _ .s (.cons _ _ _ _ (.i8S _ _ _ (by decide)) .nil)))) fun v1 h=>?_
 refine cl h (up (p6g _ _) (fun _=>(.cons _ _ _ _ .s (.cons _ _ _ _ (.i8S _ _ _ (by decide)) .nil)))) fun v2 h=>?_
 refine cl h (p4M _ _ _) fun v3 h=>?_
 refine r0 ?_
 refine r0 ?_
 (repeat apply sq_)
 refine p0E (F:=[(1,.ptr st.length 0 0 0),(2,.ptr (st.length+1) 0 0 0),(3,.ptr (st.length+3) 0 0 0)]) (T:=st++[some (.arr 0 7 0 [[.int .i64 v3.kind,.str v3.name,.sl false 1 16 (rows i8K v3.words),.sl false 4 72 (rows i8F.cells v3.subs),.i8S,.i8S,.sl false 1 16 [[.str [112]],[.str [113]]]]]),some (.arr 0 4 0 [[.int .i64 1,.str [],.i8S,.i8S]]),some (.arr 0 4 72 (rows i8F.cells [(i8F.mk 1 [] [] [])])),some (.arr 0 4 0 [[.int .i64 4,.str [],.i8S,.ref true (st.length+2) 0 0 1]])]) (r5T hsc (.lv (.lv (.live _ _ _ _ (.arr _ _ _ _ _ (.cons _ _ _ _ (.cons _ _ _ _ .s (.cons _ _ _ _ .s (.cons _ _ _ _ (.i8S _ _ _ (by decide)) (.cons _ _ _ _ (.i8S _ _ _ (by decide)) .nil)))) .nil)) (.lv (.nil _))))) (by simp) ⟨.s,.s,.s,trivial⟩ (by simp)) ?_
 (repeat apply sq_)
 refine p0E (F:=[(1,.ptr st.length 0 0 0),(2,.ptr (st.length+1) 0 0 0),(3,.ptr (st.length+3) 0 0 0)]) (T:=st++[some (.arr 0 7 0 [[.int .i64 v3.kind,.str v3.name,.sl false 1 16 (rows i8K v3.words),.sl false 4 72 (rows i8F.cells v3.subs),.i8S,.i8S,.sl false 1 16 [[.str [112]],[.str [113]]]]]),some (.arr 0 4 0 [[.int .i64 1,.str [],.i8S,.i8S]]),none,some (.arr 0 4 0 [[.int .i64 4,.str [],.i8S,.sl false 4 72 (rows i8F.cells [(i8F.mk 1 [] [] [])])]])]) (r5T hsc (.lv (.lv (.dead _ _ _ (.live _ _ _ _ (.arr _ _ _ _ _ (.cons _ _ _ _ (.cons _ _ _ _ .s (.cons _ _ _ _ .s (.cons _ _ _ _ .s (.cons _ _ _ _ (.ref _ _ _ _ _ _ _ _ _ (r0c.trans rfl) (r1p.trans rfl) (by decide) (p9b _) (by simp only[go_sem])) .nil)))) (.same _))) (.nil _))))) (by simp) ⟨.s,.s,.s,trivial⟩ (by simp)) ?_
 refine rs ?_
 refine dw [] 1 ?_
 obtain⟨v6,hv6,h⟩:=p3S h
 refine p3w ((p4M _ _ _ _ hv6).up (fun _=>(.cons _ _ _ _ .s (.cons _ _ _ _ (.agg _ _ (.cons _ _ _ _ .s (.cons _ _ _ _ .s (.cons _ _ _ _ (.i8S _ _ _ (by decide)) (.cons _ _ _ _ (.i8S _ _ _ (by decide)) .nil))))) (.cons _ _ _ _ (.agg _ _ (.cons _ _ _ _ .s (.cons _ _ _ _ .s (.cons _ _ _ _ (.i8S _ _ _ (by decide)) (.cons _ _ _ _ .s .nil))))) .nil)))) (.inr fun n=>by simp)) ?_
 try simp only[go_sem,fx]
 obtain⟨v7,hv7,h⟩:=p3S h
 refine p3w ((p8x n _ _ _ hv7).up (fun _=>(.cons _ _ _ _ (.agg _ _ (.cons _ _ _ _ .s (.cons _ _ _ _ .s (.cons _ _ _ _ .s (.cons _ _ _ _ .s (.cons _ _ _ _ (.i8S _ _ _ (by decide)) (.cons _ _ _ _ (.i8S _ _ _ (by decide)) (.cons _ _ _ _ .s .nil)))))))) (.cons _ _ _ _ .s .nil))) (.inr fun n=>by simp)) ?_
 try simp only[go_sem,fx]
 refine rs ?_
 refine dw [] 1 ?_
 obtain⟨v8,hv8,h⟩:=p3S h
 refine p3w ((p4M _ _ _ _ hv8).up (fun _=>(.cons _ _ _ _ .s (.cons _ _ _ _ (.agg _ _ (.cons _ _ _ _ .s (.cons _ _ _ _ .s (.cons _ _ _ _ (.i8S _ _ _ (by decide)) (.cons _ _ _ _ (.i8S _ _ _ (by decide)) .nil))))) (.cons _ _ _ _ (.agg _ _ (.cons _ _ _ _ .s (.cons _ _ _ _ .s (.cons _ _ _ _ (.i8S _ _ _ (by decide)) (.cons _ _ _ _ .s .nil))))) .nil)))) (.inr fun n=>by simp)) ?_
 try simp only[go_sem,fx]
 obtain⟨v9,hv9,h⟩:=p3S h
 refine p3w ((p8X n _ _ _ hv9).up (fun _=>(.cons _ _ _ _ (.agg _ _ (.cons _ _ _ _ .s (.cons _ _ _ _ .s (.cons _ _ _ _ .s (.cons _ _ _ _ .s (.cons _ _ _ _ (.i8S _ _ _ (by decide)) (.cons _ _ _ _ (.i8S _ _ _ (by decide)) (.cons _ _ _ _ .s .nil)))))))) (.cons _ _ _ _ .s .nil))) (.inr fun n=>by simp)) ?_
 try simp only[go_sem,fx]
 refine rs ?_
 obtain⟨fx,h⟩:=ck fx h
 refine dw [] 0 ?_
 obtain⟨v12,hv12,h⟩:=p3S h
 refine p8L (fun hG=>((p3z n _ _ _ (r4k hv12 (by simpa using hG))).up (fun _=>(.cons _ _ _ _ .s (.cons _ _ _ _ (.agg _ _ (.cons _ _ _ _ .s (.cons _ _ _ _ .s (.cons _ _ _ _ (.i8S _ _ _ (by decide)) (.cons _ _ _ _ (.i8S _ _ _ (by decide)) .nil))))) .nil))) (.inr fun n=>by simp))) ?_
 obtain⟨fx,h⟩:=ck fx h
 try simp only[go_sem,fx]
 obtain⟨v15,hv15,h⟩:=p3S h
 refine p8L (fun hG=>((p3z n _ _ _ (r4k hv15 (by simpa using hG))).up (fun _=>(.cons _ _ _ _ .s (.cons _ _ _ _ (.agg _ _ (.cons _ _ _ _ .s (.cons _ _ _ _ .s (.cons _ _ _ _ (.i8S _ _ _ (by decide)) (.cons _ _ _ _ .s .nil))))) .nil))) (.inr fun n=>by simp))) ?_
 obtain⟨fx,h⟩:=ck fx h
 try simp only[go_sem,fx]
 exact rt
theorem p8y(a0:Int)(r:Int)(h:p2e a0=some r):Pure Tryz.prog gl 56 [.int .i64 a0] (.int .i64 r):=by
 intro st
 unfold p2e at h
 have fx:=trivial
 refine fb 13 [.tmp 2] [0,2,6,7,8] Tryz.func56 fun hsc=>?_
 refine cd h (fun hc h=>?_) fun hc h=>?_
 ·exact rt
 ·refine r0 ?_
  obtain⟨fx,h⟩:=ck fx h
  have fy:=(show [[D.int .i64 0],[D.int .i64 0],[D.int .i64 0],[D.int .i64 0],[D.int .i64 1],[D.int .i64 2],[D.int .i64 2],[D.int .i64 2],[D.int .i64 1],[D.int .i64 1]].getD a0.toNat [D.int .i64 0]=[D.int .i64 (get [0,0,0,0,1,2,2,2,1,1] a0.toNat)]from u5e [0,0,0,0,1,2,2,2,1,1] _)
  refine r1 ?_
  exact rt
theorem p6h(n:Nat)(a0:Bs)(r:Bool)(h:p1I n a0=some r):Pure Tryz.prog gl 57 [.str a0] (.bool r):=by
 intro st
 unfold p1I at h
 have fx:=trivial
 refine fb 62 [.tmp 2] [0,2,3,4,5,10,11,12,13,17,25,26,27,28,35,36,37,38,41,42,43,44,47,48,49,50,55,56,57,58,59,60,61] Tryz.func57 fun hsc=>?_
 refine cd h (fun hc h=>?_) fun hc h=>?_
 ·exact rt
 ·refine rn ?_
  refine i8V (body:=p3o a0) (kk:=p4L) (n:=n) (s0:=0)
   (fun(gs0:Unit) (s0:Int)=>[(0,.str a0),(3,.int .i64 s0)])
   (fun(gs0:Unit) (s0:Int)=>st)
   (fun(gt0:Unit) (t0:Unit)=>[])
   (fun(gt0:Unit) (t0:Unit)=>st)
   () h (p7g hsc)
   (fun gs0 s0 b0 h hx0=>?_) (fun gt0 t0 fr1 st1 h hb=>?_)
  ·unfold p3o at h
   refine cd h (fun hc h=>?_) fun hc h=>?_
   ·obtain⟨fx,h⟩:=ck fx h
    refine cd h (fun hc h=>?_) fun hc h=>?_
    ·refine ra ?_
     cases h
     refine p0T ?_;have h:=congrArg some (hx0 _ rfl)
     exact rt
    ·refine rn ?_
     cases h
     exact i9h () (p7g hsc)
   ·refine rn ?_
    cases h
    exact i9r () (p7g hsc)
  ·try simp only[go_sem,fx]
   unfold p4L at h
   refine p0E hb ?_
   exact rt
theorem p7y(n:Nat)(a0:i8F)(a1:Bool)(r:i8N)(h:p2i n a0 a1=some r):Pure Tryz.prog gl 31 [.agg [.int .i64 a0.kind,.str a0.name,.sl false 1 16 (rows i8K a0.words),.sl false 4 72 (rows i8F.cells a0.subs)],.bool a1] (.agg [.int .i64 r.code,.int .i64 r.index]):=by
 intro st
 unfold p2i at h
 have fx:=trivial
 refine fb 150 [.cell 4 31] [0,1,2,4,5,6,7,8,9,10,11,12,13,15,16,22,43,44,45,46,49,52,57,58,59,62,63,64,67,68,69,74,75,76,77,79,86,87,88,89,90,93,94,95,96,97,98,101,102,103,104,105,109,110,111,112,114,115,116,117,122,125,134] Tryz.func31 fun hsc=>?_
 refine rn ?_
 refine i8V (body:=i9C n a1) (kk:=p3l) (n:=n) (s0:=([(i8J.mk a0 1)],0,1))
  (fun(gs0:Nat) (s0:(List i8J)×Int×Nat)=>[(1,.bool a1),(4,.ptr (st.length+1) 0 0 0),(5,.ref false (st.length+2) gs0 0 s0.2.2),(6,.int .i64 s0.2.1)])
  (fun(gs0:Nat) (s0:(List i8J)×Int×Nat)=>st++[none,some (.arr 0 2 0 [[.int .i64 0,.int .i64 0]]),some (.arr gs0 5 80 (rows i8J.cells s0.1))])
  (fun(gt0:Unit) (t0:Unit)=>[(4,.ptr (st.length+1) 0 0 0)])
  (fun(gt0:Unit) (t0:Unit)=>st++[none,some (.arr 0 2 0 [[.int .i64 0,.int .i64 0]])])
  0 h (bm hsc)
  (fun gs0 s0 b0 h hx0=>?_) (fun gt0 t0 fr1 st1 h hb=>?_)
 ·unfold i9C at h
  refine cd h (fun hc h=>?_) fun hc h=>?_
  ·refine r0 ?_
   refine r0 ?_
   obtain⟨fx,h⟩:=ck fx h
   obtain⟨fx,h⟩:=ck fx h
   have fy:=(show(rows i8J.cells s0.1).getD ((wr .i64 ((↑s0.2.2:Int)-1)).toNat) []=i8J.cells (get s0.1 ((wr .i64 ((↑s0.2.2:Int)-1)).toNat))from r0n (E:=i8J.cells) (l:=s0.1) (k:=(wr .i64 ((↑s0.2.2:Int)-1)).toNat) (by first|omega|(simp;omega)))
   have fy:=fa fy (show(wr .i64 ((↑s0.2.2:Int)-1)).toNat<s0.1.length from by first|omega|(simp;omega))
   refine r1 ?_
   obtain⟨fx,h⟩:=ck fx h
   refine cl h (p8y _) fun v34 h=>?_
   refine rn ?_
   refine p4c (p0i n s0) b0 (fun(gj7:Unit) (j7:Int)=>[(1,.bool a1),(4,.ptr (st.length+1) 0 0 0),(5,.ref false (st.length+2) gs0 0 ((wr .i64 ((↑s0.2.2:Int)-1)).toNat)),(6,.int .i64 s0.2.1),(7,.ptr (st.length+3) 0 0 0),(8,.ptr (st.length+4) 0 0 0),(9,.int .i64 j7)]) (fun(gj7:Unit) (j7:Int)=>st++[none,some (.arr 0 2 0 [[.int .i64 0,.int .i64 0]]),some (.arr gs0 5 80 (rows i8J.cells s0.1)),some (.arr 0 5 0 [[.int .i64 ((get s0.1 ((wr .i64 ((↑s0.2.2:Int)-1)).toNat)).f.kind),.str ((get s0.1 ((wr .i64 ((↑s0.2.2:Int)-1)).toNat)).f.name),.sl false 1 16 (rows i8K ((get s0.1 ((wr .i64 ((↑s0.2.2:Int)-1)).toNat)).f.words)),.sl false 4 72 (rows i8F.cells ((get s0.1 ((wr .i64 ((↑s0.2.2:Int)-1)).toNat)).f.subs)),.int .i64 ((get s0.1 ((wr .i64 ((↑s0.2.2:Int)-1)).toNat)).depth)]]),some (.arr 0 4 0 [[.int .i64 ((get s0.1 ((wr .i64 ((↑s0.2.2:Int)-1)).toNat)).f.kind),.str ((get s0.1 ((wr .i64 ((↑s0.2.2:Int)-1)).toNat)).f.name),.sl false 1 16 (rows i8K ((get s0.1 ((wr .i64 ((↑s0.2.2:Int)-1)).toNat)).f.words)),.sl false 4 72 (rows i8F.cells ((get s0.1 ((wr .i64 ((↑s0.2.2:Int)-1)).toNat)).f.subs))]])]) (fun gj7 j7 fr1 st1 h hb=>?_) (fun hj7=>?_)
   ·try simp only[go_sem,fx]
    unfold p0i at h
    refine p0E hb ?_
    refine rn ?_
    refine p4c (i9E n s0 j7) b0 (fun(gj8:Unit) (j8:Int)=>[(1,.bool a1),(4,.ptr (st.length+1) 0 0 0),(5,.ref false (st.length+2) gs0 0 ((wr .i64 ((↑s0.2.2:Int)-1)).toNat)),(6,.int .i64 s0.2.1),(7,.ptr (st.length+3) 0 0 0),(8,.ptr (st.length+4) 0 0 0),(9,.int .i64 j7),(10,.int .i64 j8),(11,.int .i64 0)]) (fun(gj8:Unit) (j8:Int)=>st++[none,some (.arr 0 2 0 [[.int .i64 0,.int .i64 0]]),some (.arr gs0 5 80 (rows i8J.cells s0.1)),some (.arr 0 5 0 [[.int .i64 ((get s0.1 ((wr .i64 ((↑s0.2.2:Int)-1)).toNat)).f.kind),.str ((get s0.1 ((wr .i64 ((↑s0.2.2:Int)-1)).toNat)).f.name),.sl false 1 16 (rows i8K ((get s0.1 ((wr .i64 ((↑s0.2.2:Int)-1)).toNat)).f.words)),.sl false 4 72 (rows i8F.cells ((get s0.1 ((wr .i64 ((↑s0.2.2:Int)-1)).toNat)).f.subs)),.int .i64 ((get s0.1 ((wr .i64 ((↑s0.2.2:Int)-1)).toNat)).depth)]]),some (.arr 0 4 0 [[.int .i64 ((get s0.1 ((wr .i64 ((↑s0.2.2:Int)-1)).toNat)).f.kind),.str ((get s0.1 ((wr .i64 ((↑s0.2.2:Int)-1)).toNat)).f.name),.sl false 1 16 (rows i8K ((get s0.1 ((wr .i64 ((↑s0.2.2:Int)-1)).toNat)).f.words)),.sl false 4 72 (rows i8F.cells ((get s0.1 ((wr .i64 ((↑s0.2.2:Int)-1)).toNat)).f.subs))]])]) (fun gj8 j8 fr1 st1 h hb=>?_) (fun hj8=>?_)
    ·try simp only[go_sem,fx]
     unfold i9E at h
     refine p0E hb ?_
     refine rn ?_
     refine p4c (i9D n s0 j7) b0 (fun(gj9:Unit) (j9:Int×Int)=>[(1,.bool a1),(4,.ptr (st.length+1) 0 0 0),(5,.ref false (st.length+2) gs0 0 ((wr .i64 ((↑s0.2.2:Int)-1)).toNat)),(6,.int .i64 s0.2.1),(7,.ptr (st.length+3) 0 0 0),(8,.ptr (st.length+4) 0 0 0),(9,.int .i64 j7),(10,.int .i64 j9.1),(11,.int .i64 j9.2)]) (fun(gj9:Unit) (j9:Int×Int)=>st++[none,some (.arr 0 2 0 [[.int .i64 0,.int .i64 0]]),some (.arr gs0 5 80 (rows i8J.cells s0.1)),some (.arr 0 5 0 [[.int .i64 ((get s0.1 ((wr .i64 ((↑s0.2.2:Int)-1)).toNat)).f.kind),.str ((get s0.1 ((wr .i64 ((↑s0.2.2:Int)-1)).toNat)).f.name),.sl false 1 16 (rows i8K ((get s0.1 ((wr .i64 ((↑s0.2.2:Int)-1)).toNat)).f.words)),.sl false 4 72 (rows i8F.cells ((get s0.1 ((wr .i64 ((↑s0.2.2:Int)-1)).toNat)).f.subs)),.int .i64 ((get s0.1 ((wr .i64 ((↑s0.2.2:Int)-1)).toNat)).depth)]]),some (.arr 0 4 0 [[.int .i64 ((get s0.1 ((wr .i64 ((↑s0.2.2:Int)-1)).toNat)).f.kind),.str ((get s0.1 ((wr .i64 ((↑s0.2.2:Int)-1)).toNat)).f.name),.sl false 1 16 (rows i8K ((get s0.1 ((wr .i64 ((↑s0.2.2:Int)-1)).toNat)).f.words)),.sl false 4 72 (rows i8F.cells ((get s0.1 ((wr .i64 ((↑s0.2.2:Int)-1)).toNat)).f.subs))]])]) (fun gj9 j9 fr1 st1 h hb=>?_) (fun hj9=>?_)
     ·try simp only[go_sem,fx]
      unfold i9D at h
      refine p0E hb ?_
      refine rn ?_
      refine p4c (i8T n s0) b0 (fun(w0R:Unit) (j10:Int)=>[(1,.bool a1),(4,.ptr (st.length+1) 0 0 0),(5,.ref false (st.length+2) gs0 0 ((wr .i64 ((↑s0.2.2:Int)-1)).toNat)),(6,.int .i64 s0.2.1),(7,.ptr (st.length+3) 0 0 0),(8,.ptr (st.length+4) 0 0 0),(13,.int .i64 j10)]) (fun(w0R:Unit) (j10:Int)=>st++[none,some (.arr 0 2 0 [[.int .i64 0,.int .i64 0]]),some (.arr gs0 5 80 (rows i8J.cells s0.1)),some (.arr 0 5 0 [[.int .i64 ((get s0.1 ((wr .i64 ((↑s0.2.2:Int)-1)).toNat)).f.kind),.str ((get s0.1 ((wr .i64 ((↑s0.2.2:Int)-1)).toNat)).f.name),.sl false 1 16 (rows i8K ((get s0.1 ((wr .i64 ((↑s0.2.2:Int)-1)).toNat)).f.words)),.sl false 4 72 (rows i8F.cells ((get s0.1 ((wr .i64 ((↑s0.2.2:Int)-1)).toNat)).f.subs)),.int .i64 ((get s0.1 ((wr .i64 ((↑s0.2.2:Int)-1)).toNat)).depth)]]),some (.arr 0 4 0 [[.int .i64 ((get s0.1 ((wr .i64 ((↑s0.2.2:Int)-1)).toNat)).f.kind),.str ((get s0.1 ((wr .i64 ((↑s0.2.2:Int)-1)).toNat)).f.name),.sl false 1 16 (rows i8K ((get s0.1 ((wr .i64 ((↑s0.2.2:Int)-1)).toNat)).f.words)),.sl false 4 72 (rows i8F.cells ((get s0.1 ((wr .i64 ((↑s0.2.2:Int)-1)).toNat)).f.subs))]])]) (fun w0R j10 fr1 st1 h hb=>?_) (fun u6n=>?_)
      ·try simp only[go_sem,fx]
       unfold i8T at h
       refine p0E hb ?_
       refine cd h (fun hc h=>?_) fun hc h=>?_
       ·refine ra ?_
        cases h
        refine p0T ?_;have h:=congrArg some (hx0 _ rfl)
        exact rt
       ·refine rn ?_
        refine i8V (body:=p1d s0) (kk:=p1e s0) (n:=n) (s0:=(s0.1,(wr .i64 ((↑(((get s0.1 ((wr .i64 ((↑s0.2.2:Int)-1)).toNat)).f.subs).length):Int)-1)),(wr .i64 ((↑s0.2.2:Int)-1)).toNat))
         (fun(r8S:Nat) (s12:(List i8J)×Int×Nat)=>[(1,.bool a1),(4,.ptr (st.length+1) 0 0 0),(5,.ref false (st.length+2) r8S 0 s12.2.2),(6,.int .i64 s0.2.1),(7,.ptr (st.length+3) 0 0 0),(8,.ptr (st.length+4) 0 0 0),(16,.int .i64 s12.2.1)])
         (fun(r8S:Nat) (s12:(List i8J)×Int×Nat)=>st++[none,some (.arr 0 2 0 [[.int .i64 0,.int .i64 0]]),some (.arr r8S 5 80 (rows i8J.cells s12.1)),some (.arr 0 5 0 [[.int .i64 ((get s0.1 ((wr .i64 ((↑s0.2.2:Int)-1)).toNat)).f.kind),.str ((get s0.1 ((wr .i64 ((↑s0.2.2:Int)-1)).toNat)).f.name),.sl false 1 16 (rows i8K ((get s0.1 ((wr .i64 ((↑s0.2.2:Int)-1)).toNat)).f.words)),.sl false 4 72 (rows i8F.cells ((get s0.1 ((wr .i64 ((↑s0.2.2:Int)-1)).toNat)).f.subs)),.int .i64 ((get s0.1 ((wr .i64 ((↑s0.2.2:Int)-1)).toNat)).depth)]]),some (.arr 0 4 0 [[.int .i64 ((get s0.1 ((wr .i64 ((↑s0.2.2:Int)-1)).toNat)).f.kind),.str ((get s0.1 ((wr .i64 ((↑s0.2.2:Int)-1)).toNat)).f.name),.sl false 1 16 (rows i8K ((get s0.1 ((wr .i64 ((↑s0.2.2:Int)-1)).toNat)).f.words)),.sl false 4 72 (rows i8F.cells ((get s0.1 ((wr .i64 ((↑s0.2.2:Int)-1)).toNat)).f.subs))]])])
         (fun(u4y:Nat) (t12:(List i8J)×Nat)=>[(1,.bool a1),(4,.ptr (st.length+1) 0 0 0),(5,.ref false (st.length+2) u4y 0 t12.2),(6,.int .i64 s0.2.1)])
         (fun(u4y:Nat) (t12:(List i8J)×Nat)=>st++[none,some (.arr 0 2 0 [[.int .i64 0,.int .i64 0]]),some (.arr u4y 5 80 (rows i8J.cells t12.1))])
         gs0 h (bm hsc)
         (fun r8S s12 b12 h w0S=>?_) (fun u4y t12 fr1 st1 h hb=>?_)
        ·unfold p1d at h
         refine cd h (fun hc h=>?_) fun hc h=>?_
         ·refine rn ?_
          obtain⟨fx,h⟩:=ck fx h
          obtain⟨fx,h⟩:=ck fx h
          obtain⟨c51,u8d,h⟩:=p5L h
          have fy:=(show rows i8J.cells (s12.1.take s12.2.2)++[[.int .i64 ((get ((get s0.1 ((wr .i64 ((↑s0.2.2:Int)-1)).toNat)).f.subs) s12.2.1.toNat).kind),.str ((get ((get s0.1 ((wr .i64 ((↑s0.2.2:Int)-1)).toNat)).f.subs) s12.2.1.toNat).name),.sl false 1 16 (rows i8K ((get ((get s0.1 ((wr .i64 ((↑s0.2.2:Int)-1)).toNat)).f.subs) s12.2.1.toNat).words)),.sl false 4 72 (rows i8F.cells ((get ((get s0.1 ((wr .i64 ((↑s0.2.2:Int)-1)).toNat)).f.subs) s12.2.1.toNat).subs)),.int .i64 (wr .i64 (((get s0.1 ((wr .i64 ((↑s0.2.2:Int)-1)).toNat)).depth)+1))]]=rows i8J.cells c51 from by rw[u8d];first|exact i9b (E:=i8J.cells) (s12.1.take s12.2.2) [(i8J.mk (get ((get s0.1 ((wr .i64 ((↑s0.2.2:Int)-1)).toNat)).f.subs) s12.2.1.toNat) (wr .i64 (((get s0.1 ((wr .i64 ((↑s0.2.2:Int)-1)).toNat)).depth)+1)))]|simp only[go_sem,rows,List.map_append,List.map_cons,List.map_nil])
          have fy:=fa fy (show s12.2.2+1=c51.length from by rw[u8d];simp<;>omega)
          obtain⟨fx,h⟩:=ck fx h
          refine dwy [] 2 ?_
          refine rn ?_
          cases h
          exact i9h (r8S+1) (bm hsc)
         ·refine rn ?_
          cases h
          exact i9r r8S (bm hsc)
        ·try simp only[go_sem,fx]
         unfold p1e at h
         refine p0E hb ?_
         refine rn ?_
         cases h
         exact i9h u4y (bm hsc)
      ·refine cd h (fun hc h=>?_) fun hc h=>?_
       ·refine r0 ?_
        refine u6n () _ _ _ h ?_;exact(bm hsc)
       ·refine cd h (fun hc h=>?_) fun hc h=>?_
        ·refine r0 ?_
         refine u6n () _ _ _ h ?_;exact(bm hsc)
        ·refine cd h (fun hc h=>?_) fun hc h=>?_
         ·refine r0 ?_
          refine u6n () _ _ _ h ?_;exact(bm hsc)
         ·refine rn ?_
          obtain⟨v35,hv35,h⟩:=p3S h
          refine p6K (fun hG=>(p6h n _ _ (r4k hv35 (by simpa using hG)))) ?_
          refine cd h (fun hc h=>?_) fun hc h=>?_
          ·refine r0 ?_
           refine u6n () _ _ _ h ?_;exact(bm hsc)
          ·refine cd h (fun hc h=>?_) fun hc h=>?_
           ·refine r0 ?_
            refine u6n () _ _ _ h ?_;exact(bm hsc)
           ·refine aln 114 fun hl11=>?_
            refine rng (body:=p1f n s0) (kk:=p1g n s0) (n:=((get s0.1 ((wr .i64 ((↑s0.2.2:Int)-1)).toNat)).f.words).length) (s0:=0)
             (fun(u6o:Unit) (k11:Nat) (s11:Int)=>[(1,.bool a1),(4,.ptr (st.length+1) 0 0 0),(5,.ref false (st.length+2) gs0 0 ((wr .i64 ((↑s0.2.2:Int)-1)).toNat)),(6,.int .i64 s0.2.1),(7,.ptr (st.length+3) 0 0 0),(8,.ptr (st.length+4) 0 0 0),(13,.int .i64 s11),(114,.sl false 1 16 (rows i8K ((get s0.1 ((wr .i64 ((↑s0.2.2:Int)-1)).toNat)).f.words))),(115,.int .i64 (↑(((get s0.1 ((wr .i64 ((↑s0.2.2:Int)-1)).toNat)).f.words).length):Int)),(116,.int .i64 (↑k11:Int))])
             (fun(u6o:Unit) (k11:Nat) (s11:Int)=>st++[none,some (.arr 0 2 0 [[.int .i64 0,.int .i64 0]]),some (.arr gs0 5 80 (rows i8J.cells s0.1)),some (.arr 0 5 0 [[.int .i64 ((get s0.1 ((wr .i64 ((↑s0.2.2:Int)-1)).toNat)).f.kind),.str ((get s0.1 ((wr .i64 ((↑s0.2.2:Int)-1)).toNat)).f.name),.sl false 1 16 (rows i8K ((get s0.1 ((wr .i64 ((↑s0.2.2:Int)-1)).toNat)).f.words)),.sl false 4 72 (rows i8F.cells ((get s0.1 ((wr .i64 ((↑s0.2.2:Int)-1)).toNat)).f.subs)),.int .i64 ((get s0.1 ((wr .i64 ((↑s0.2.2:Int)-1)).toNat)).depth)]]),some (.arr 0 4 0 [[.int .i64 ((get s0.1 ((wr .i64 ((↑s0.2.2:Int)-1)).toNat)).f.kind),.str ((get s0.1 ((wr .i64 ((↑s0.2.2:Int)-1)).toNat)).f.name),.sl false 1 16 (rows i8K ((get s0.1 ((wr .i64 ((↑s0.2.2:Int)-1)).toNat)).f.words)),.sl false 4 72 (rows i8F.cells ((get s0.1 ((wr .i64 ((↑s0.2.2:Int)-1)).toNat)).f.subs))]])])
             (fun(u8e:Unit) (t11:Int)=>[(1,.bool a1),(4,.ptr (st.length+1) 0 0 0),(5,.ref false (st.length+2) gs0 0 ((wr .i64 ((↑s0.2.2:Int)-1)).toNat)),(6,.int .i64 s0.2.1),(7,.ptr (st.length+3) 0 0 0),(8,.ptr (st.length+4) 0 0 0),(13,.int .i64 t11)])
             (fun(u8e:Unit) (t11:Int)=>st++[none,some (.arr 0 2 0 [[.int .i64 0,.int .i64 0]]),some (.arr gs0 5 80 (rows i8J.cells s0.1)),some (.arr 0 5 0 [[.int .i64 ((get s0.1 ((wr .i64 ((↑s0.2.2:Int)-1)).toNat)).f.kind),.str ((get s0.1 ((wr .i64 ((↑s0.2.2:Int)-1)).toNat)).f.name),.sl false 1 16 (rows i8K ((get s0.1 ((wr .i64 ((↑s0.2.2:Int)-1)).toNat)).f.words)),.sl false 4 72 (rows i8F.cells ((get s0.1 ((wr .i64 ((↑s0.2.2:Int)-1)).toNat)).f.subs)),.int .i64 ((get s0.1 ((wr .i64 ((↑s0.2.2:Int)-1)).toNat)).depth)]]),some (.arr 0 4 0 [[.int .i64 ((get s0.1 ((wr .i64 ((↑s0.2.2:Int)-1)).toNat)).f.kind),.str ((get s0.1 ((wr .i64 ((↑s0.2.2:Int)-1)).toNat)).f.name),.sl false 1 16 (rows i8K ((get s0.1 ((wr .i64 ((↑s0.2.2:Int)-1)).toNat)).f.words)),.sl false 4 72 (rows i8F.cells ((get s0.1 ((wr .i64 ((↑s0.2.2:Int)-1)).toNat)).f.subs))]])])
             () fx hl11 h (bm hsc)
             (fun u6o k11 s11 b11 fx h w2N=>?_) (fun u6o s11=>?_) (fun u8e t11 fr1 st1 h hb=>?_)
            ·unfold p1f at h
             refine ct ?_
             refine cl h (p6h n _) fun v37 h=>?_
             refine cd h (fun hc h=>?_) fun hc h=>?_
             ·refine rn ?_
              cases h
              exact p7A () (bm hsc)
             ·refine rn ?_
              cases h
              exact p7A () (bm hsc)
            ·refine cf ?_
             refine p7n ?_;simp only[go_sem,fx]
             exact⟨(),(bm hsc)⟩
            ·try simp only[go_sem,fx]
             unfold p1g at h
             refine u6n () _ _ _ h ?_;exact(hb.trans (bm hsc))
     ·refine cd h (fun hc h=>?_) fun hc h=>?_
      ·refine r0 ?_
       refine hj9 () _ _ _ h ?_;exact(bm hsc)
      ·refine r0 ?_
       refine hj9 () _ _ _ h ?_;exact(bm hsc)
    ·refine cd h (fun hc h=>?_) fun hc h=>?_
     ·refine r0 ?_
      refine hj8 () _ _ _ h ?_;exact(bm hsc)
     ·refine r0 ?_
      refine hj8 () _ _ _ h ?_;exact(bm hsc)
   ·refine cd h (fun hc h=>?_) fun hc h=>?_
    ·refine r0 ?_
     refine hj7 () _ _ _ h ?_;exact(bm hsc)
    ·refine r0 ?_
     refine hj7 () _ _ _ h ?_;exact(bm hsc)
  ·refine rn ?_
   cases h
   exact i9r () (bm hsc)
 ·try simp only[go_sem,fx]
  unfold p3l at h
  refine p0E hb ?_
  exact rt
theorem p4W(n:Nat)(a0:i8F)(r:i8N)(h:p0f n a0=some r):Pure Tryz.prog gl 9 [.agg [.int .i64 a0.kind,.str a0.name,.sl false 1 16 (rows i8K a0.words),.sl false 4 72 (rows i8F.cells a0.subs)]] (.agg [.int .i64 r.code,.int .i64 r.index]):=by
 intro st
 unfold p0f at h
 have fx:=trivial
 refine fb 5 [.cell 2 31] [0,1,2] Tryz.func9 fun hsc=>?_
 refine cl h (p7y n _ _) fun v1 h=>?_
 exact rt
theorem p8a:∀(n:Nat) (a1:i8F) (a2:(List Bs)) (l0:(List i8G)) (r:(List i8G)) (h:i9c n a1 a2 l0=some r),∀(st:St) (o0 q0:Nat) (hnd: [o0].Nodup) (p4J:Am.look st o0=some (.arr q0 5 80 (rows i8G.cells l0))),Am.Spec Tryz.prog gl 10 [.ref false o0 q0 0 l0.length,.agg [.int .i64 a1.kind,.str a1.name,.sl false 1 16 (rows i8K a1.words),.sl false 4 72 (rows i8F.cells a1.subs)],.sl false 1 16 (rows i8K a2)] st (fun d st'=>∃zo0:Nat,d= .ref false o0 zo0 0 r.length∧st'=puts st [(o0,(.arr zo0 5 80 (rows i8G.cells r)))]):=by
 intro n
 induction n with
 |zero=>intro a1 a2 l0 r h;cases h
 |succ n ih=>
  intro a1 a2 l0 r h st o0 q0 hnd p4J
  unfold i9c at h
  have ho0:=p0H p4J
  have fx:=idf ho0
  refine p7K ?_;refine fb 107 [.tmp 6] [0,1,2,4,6,7,8,9,10,11,12,13,14,28,34,39,40,41,42,43,44,45,46,47,48,65,66,67,68,75,89] Tryz.func10 fun hsc=>?_
  refine p6z (s':=(i9Q st [(o0,(.arr q0 5 80 (rows i8G.cells l0)))])) (i9B (by simp[p4J])) ?_
  refine r0 ?_
  refine r0 ?_
  refine r0 ?_
  refine r0 ?_
  (repeat apply sq_)
  refine p4S 1 1 ?_
  try simp only[List.append_assoc,List.cons_append,List.nil_append]
  refine p0E (F:=[(0,.ref false o0 q0 0 l0.length),(2,.sl false 1 16 (rows i8K a2)),(4,.ptr st.length 0 0 0),(7,.int .i64 (↑l0.length:Int)),(8,.ptr (st.length+1) 0 0 0),(9,.int .i64 0)]) (T:=(i9Q st [(o0,(.arr q0 5 80 (rows i8G.cells l0)))])++[some (.arr 0 4 0 [[.int .i64 a1.kind,.str a1.name,.sl false 1 16 (rows i8K a1.words),.sl false 4 72 (rows i8F.cells a1.subs)]]),some (.arr 0 5 0 [[.int .i64 a1.kind,.str a1.name,.sl false 1 16 (rows i8K a1.words),.ref false (st.length+2) 0 0 0,.int .i64 0]]),some (.arr 0 1 1 (rows p0x []))]) (p8p (by simp) (p4k hsc (by simp<;>omega)) (.lv (.live _ _ _ _ (.arr _ _ _ _ _ (.cons _ _ _ _ (.cons _ _ _ _ .s (.cons _ _ _ _ .s (.cons _ _ _ _ .s (.cons _ _ _ _ (.nref _ _ _ _ _ _ (p0c.trans rfl)) (.cons _ _ _ _ .s .nil))))) (.same _))) (.lv (.nil _)))) (by simp<;>omega) ⟨.s,.s,.s,.s,.s,.s,trivial⟩ (by simp<;>omega)) ?_
  (repeat apply sq_)
  refine i8V (body:=p1K n a1 a2) (kk:=p1M (i9c n) n l0 a1 a2) (n:=n) (s0:=([],0))
   (fun(gs0:Nat) (s0:(List Bool)×Int)=>[(0,.ref false o0 q0 0 l0.length),(2,.sl false 1 16 (rows i8K a2)),(4,.ptr st.length 0 0 0),(7,.int .i64 (↑l0.length:Int)),(8,.ptr (st.length+1) 0 0 0),(9,.int .i64 s0.2)])
   (fun(gs0:Nat) (s0:(List Bool)×Int)=>(i9Q st [(o0,(.arr q0 5 80 (rows i8G.cells l0)))])++[some (.arr 0 4 0 [[.int .i64 a1.kind,.str a1.name,.sl false 1 16 (rows i8K a1.words),.sl false 4 72 (rows i8F.cells a1.subs)]]),some (.arr 0 5 0 [[.int .i64 a1.kind,.str a1.name,.sl false 1 16 (rows i8K a1.words),.ref false (st.length+2) gs0 0 s0.1.length,.int .i64 0]]),some (.arr gs0 1 1 (rows p0x s0.1))])
   (fun(gt0:Nat) (t0:(List Bool))=>[(0,.ref false o0 q0 0 l0.length),(2,.sl false 1 16 (rows i8K a2)),(4,.ptr st.length 0 0 0),(7,.int .i64 (↑l0.length:Int)),(8,.ptr (st.length+1) 0 0 0)])
   (fun(gt0:Nat) (t0:(List Bool))=>(i9Q st [(o0,(.arr q0 5 80 (rows i8G.cells l0)))])++[some (.arr 0 4 0 [[.int .i64 a1.kind,.str a1.name,.sl false 1 16 (rows i8K a1.words),.sl false 4 72 (rows i8F.cells a1.subs)]]),some (.arr 0 5 0 [[.int .i64 a1.kind,.str a1.name,.sl false 1 16 (rows i8K a1.words),.ref false (st.length+2) gt0 0 t0.length,.int .i64 0]]),some (.arr gt0 1 1 (rows p0x t0))])
   0 h (bu hsc)
   (fun gs0 s0 b0 h hx0=>?_) (fun gt0 t0 fr1 st1 h hb=>?_)
  ·unfold p1K at h
   refine cd h (fun hc h=>?_) fun hc h=>?_
   ·refine rn ?_
    refine i8V (body:=p1L a2 s0 a1) (kk:=p3N s0) (n:=n) (s0:=(false,0))
     (fun(gs2:Unit) (s2:Bool×Int)=>[(0,.ref false o0 q0 0 l0.length),(2,.sl false 1 16 (rows i8K a2)),(4,.ptr st.length 0 0 0),(7,.int .i64 (↑l0.length:Int)),(8,.ptr (st.length+1) 0 0 0),(9,.int .i64 s0.2),(10,.bool s2.1),(11,.int .i64 s2.2)])
     (fun(gs2:Unit) (s2:Bool×Int)=>(i9Q st [(o0,(.arr q0 5 80 (rows i8G.cells l0)))])++[some (.arr 0 4 0 [[.int .i64 a1.kind,.str a1.name,.sl false 1 16 (rows i8K a1.words),.sl false 4 72 (rows i8F.cells a1.subs)]]),some (.arr 0 5 0 [[.int .i64 a1.kind,.str a1.name,.sl false 1 16 (rows i8K a1.words),.ref false (st.length+2) gs0 0 s0.1.length,.int .i64 0]]),some (.arr gs0 1 1 (rows p0x s0.1))])
     (fun(gt2:Unit) (t2:Bool)=>[(0,.ref false o0 q0 0 l0.length),(2,.sl false 1 16 (rows i8K a2)),(4,.ptr st.length 0 0 0),(7,.int .i64 (↑l0.length:Int)),(8,.ptr (st.length+1) 0 0 0),(9,.int .i64 s0.2),(10,.bool t2)])
     (fun(gt2:Unit) (t2:Bool)=>(i9Q st [(o0,(.arr q0 5 80 (rows i8G.cells l0)))])++[some (.arr 0 4 0 [[.int .i64 a1.kind,.str a1.name,.sl false 1 16 (rows i8K a1.words),.sl false 4 72 (rows i8F.cells a1.subs)]]),some (.arr 0 5 0 [[.int .i64 a1.kind,.str a1.name,.sl false 1 16 (rows i8K a1.words),.ref false (st.length+2) gs0 0 s0.1.length,.int .i64 0]]),some (.arr gs0 1 1 (rows p0x s0.1))])
     () h (bu hsc)
     (fun gs2 s2 b2 h hx2=>?_) (fun gt2 t2 fr1 st1 h hb=>?_)
    ·unfold p1L at h
     refine cd h (fun hc h=>?_) fun hc h=>?_
     ·refine rn ?_
      obtain⟨fx,h⟩:=ck fx h
      obtain⟨fx,h⟩:=ck fx h
      refine dw [] 0 ?_
      refine rn ?_
      cases h
      exact i9h () (bu hsc)
     ·refine rn ?_
      cases h
      exact i9r () (bu hsc)
    ·try simp only[go_sem,fx]
     unfold p3N at h
     refine p0E hb ?_
     obtain⟨c28,u8f,h⟩:=p5L h
     have fy:=(show rows p0x s0.1++[[.bool t2]]=rows p0x c28 from by rw[u8f];first|exact i9b (E:=p0x) s0.1 [t2]|simp only[go_sem,rows,List.map_append,List.map_cons,List.map_nil])
     have fy:=fa fy (show s0.1.length+1=c28.length from by rw[u8f];simp)
     obtain⟨fx,h⟩:=ck fx h
     refine r1 ?_
     refine rn ?_
     cases h
     exact i9h (gs0+1) (bu hsc)
   ·refine rn ?_
    cases h
    exact i9r gs0 (bu hsc)
  ·try simp only[go_sem,fx]
   unfold p1M at h
   refine p0E hb ?_
   (repeat apply sq_)
   refine p0E (F:=[(0,.ref false o0 q0 0 l0.length),(2,.sl false 1 16 (rows i8K a2)),(4,.ptr st.length 0 0 0),(7,.int .i64 (↑l0.length:Int)),(8,.ptr (st.length+1) 0 0 0)]) (T:=(i9Q st [(o0,(.arr q0 5 80 (rows i8G.cells l0)))])++[some (.arr 0 4 0 [[.int .i64 a1.kind,.str a1.name,.sl false 1 16 (rows i8K a1.words),.sl false 4 72 (rows i8F.cells a1.subs)]]),some (.arr 0 5 0 [[.int .i64 a1.kind,.str a1.name,.sl false 1 16 (rows i8K a1.words),.sl false 1 1 (rows p0x t0),.int .i64 0]])]) (p8p (by simp) (p4k hsc (by simp<;>omega)) (.lv (.live _ _ _ _ (.arr _ _ _ _ _ (.cons _ _ _ _ (.cons _ _ _ _ .s (.cons _ _ _ _ .s (.cons _ _ _ _ .s (.cons _ _ _ _ (.ref _ _ _ _ _ _ _ _ _ (p0c.trans rfl) (p5M (by first|decide|simp)) (by decide) (p9b _) (by simp only[go_sem])) (.cons _ _ _ _ .s .nil))))) (.same _))) (.nil _))) (by simp<;>omega) ⟨.s,.s,.s,.s,.s,trivial⟩ (by simp<;>omega)) ?_
   obtain⟨c34,u2i,h⟩:=p5L h
   have fy:=(show rows i8G.cells l0++[[.int .i64 a1.kind,.str a1.name,.sl false 1 16 (rows i8K a1.words),.sl false 1 1 (rows p0x t0),.int .i64 0]]=rows i8G.cells c34 from by rw[u2i];first|exact i9b (E:=i8G.cells) l0 [(i8G.mk a1.kind a1.name a1.words t0 0)]|simp only[go_sem,rows,List.map_append,List.map_cons,List.map_nil])
   have fy:=fa fy (show l0.length+1=c34.length from by rw[u2i];simp)
   obtain⟨fx,h⟩:=ck fx h
   refine r1 ?_
   refine rn ?_
   refine p4c (i9X (i9c n) n a1 c34 l0) r (fun(gj3:Unit) (j3:(List Bs))=>[(0,.ref false o0 (q0+1) 0 c34.length),(4,.ptr st.length 0 0 0),(7,.int .i64 (↑l0.length:Int)),(12,.sl false 1 16 (rows i8K j3))]) (fun(gj3:Unit) (j3:(List Bs))=>(i9Q st [(o0,(.arr (q0+1) 5 80 (rows i8G.cells c34)))])++[some (.arr 0 4 0 [[.int .i64 a1.kind,.str a1.name,.sl false 1 16 (rows i8K a1.words),.sl false 4 72 (rows i8F.cells a1.subs)]])]) (fun gj3 j3 fr1 st1 h hb=>?_) (fun hj3=>?_)
   ·try simp only[go_sem,fx]
    unfold i9X at h
    refine p0E hb ?_
    refine rn ?_
    refine i8V (body:=p0I (i9c n) a1 j3) (kk:=p1N l0) (n:=n) (s0:=(c34,0))
     (fun(gs5:Nat) (s5:(List i8G)×Int)=>[(0,.ref false o0 gs5 0 s5.1.length),(4,.ptr st.length 0 0 0),(7,.int .i64 (↑l0.length:Int)),(12,.sl false 1 16 (rows i8K j3)),(14,.int .i64 s5.2)])
     (fun(gs5:Nat) (s5:(List i8G)×Int)=>(i9Q st [(o0,(.arr gs5 5 80 (rows i8G.cells s5.1)))])++[some (.arr 0 4 0 [[.int .i64 a1.kind,.str a1.name,.sl false 1 16 (rows i8K a1.words),.sl false 4 72 (rows i8F.cells a1.subs)]])])
     (fun(gt5:Nat) (t5:(List i8G))=>[(0,.ref false o0 gt5 0 t5.length),(7,.int .i64 (↑l0.length:Int))])
     (fun(gt5:Nat) (t5:(List i8G))=>(i9Q st [(o0,(.arr gt5 5 80 (rows i8G.cells t5)))]))
     (q0+1) h (bu hsc)
     (fun gs5 s5 b5 h hx5=>?_) (fun gt5 t5 fr1 st1 h hb=>?_)
    ·unfold p0I at h
     refine cd h (fun hc h=>?_) fun hc h=>?_
     ·obtain⟨fx,h⟩:=ck fx h
      refine rn ?_
      obtain⟨v68,hv68,h⟩:=p3S h
      refine(r2u (ih _ _ _ _ hv68 _ _ gs5 hnd (by simp only[go_sem,fx]))).mono ?_
      rintro d1 st1 ⟨g69,rfl,rfl⟩
      refine rn ?_
      cases h
      exact i9h g69 (bu hsc)
     ·refine rn ?_
      cases h
      exact i9r gs5 (bu0 hsc)
    ·try simp only[go_sem,fx]
     unfold p1N at h
     refine p0E hb ?_
     obtain⟨fx,h⟩:=ck fx h
     have fy:=(show(rows i8G.cells t5).getD l0.length []=i8G.cells (get t5 l0.length)from r0n (E:=i8G.cells) (l:=t5) (k:=l0.length) (by first|omega|(simp;omega)))
     have fy:=fa fy (show l0.length<t5.length from by first|omega|(simp;omega))
     obtain⟨c73,u8g,h⟩:=p5L h
     have fy:=fa fy (show(rows i8G.cells t5).set l0.length [.int .i64 ((get t5 l0.length).kind),.str ((get t5 l0.length).name),.sl false 1 16 (rows i8K ((get t5 l0.length).words)),.sl false 1 1 (rows p0x ((get t5 l0.length).bound)),.int .i64 (↑t5.length:Int)]=rows i8G.cells c73 from by rw[u8g];first|exact u5d (E:=i8G.cells) _ _ _|simp only[go_sem,rows,List.map_set])
     refine r1 ?_
     have e75:D.ref false o0 gt5 0 t5.length=D.ref false o0 gt5 0 c73.length:=by simp[u8g]
     try simp only[e75]
     refine rr ?_
     exact fus (.ref false o0 gt5 0 c73.length) (.same _) h hsc (hr:=by rintro rfl;exact⟨gt5,rfl,rfl⟩)
   ·refine cd h (fun hc h=>?_) fun hc h=>?_
    ·refine rn ?_
     refine i8V (body:=p1O a2) (kk:=p3O (i9c n) n a1 c34 l0) (n:=n) (s0:=([a1.name],0))
      (fun(gs4:Nat) (s4:(List Bs)×Int)=>[(0,.ref false o0 (q0+1) 0 c34.length),(2,.sl false 1 16 (rows i8K a2)),(4,.ptr st.length 0 0 0),(7,.int .i64 (↑l0.length:Int)),(12,.ref false (st.length+3) gs4 0 s4.1.length),(13,.int .i64 s4.2)])
      (fun(gs4:Nat) (s4:(List Bs)×Int)=>(i9Q st [(o0,(.arr (q0+1) 5 80 (rows i8G.cells c34)))])++[some (.arr 0 4 0 [[.int .i64 a1.kind,.str a1.name,.sl false 1 16 (rows i8K a1.words),.sl false 4 72 (rows i8F.cells a1.subs)]]),none,none,some (.arr gs4 1 16 (rows i8K s4.1))])
      (fun(gt4:Nat) (t4:(List Bs))=>[(0,.ref false o0 (q0+1) 0 c34.length),(4,.ptr st.length 0 0 0),(7,.int .i64 (↑l0.length:Int)),(12,.ref false (st.length+3) gt4 0 t4.length)])
      (fun(gt4:Nat) (t4:(List Bs))=>(i9Q st [(o0,(.arr (q0+1) 5 80 (rows i8G.cells c34)))])++[some (.arr 0 4 0 [[.int .i64 a1.kind,.str a1.name,.sl false 1 16 (rows i8K a1.words),.sl false 4 72 (rows i8F.cells a1.subs)]]),none,none,some (.arr gt4 1 16 (rows i8K t4))])
      0 h (bu hsc)
      (fun gs4 s4 b4 h hx4=>?_) (fun gt4 t4 fr1 st1 h hb=>?_)
     ·unfold p1O at h
      refine cd h (fun hc h=>?_) fun hc h=>?_
      ·refine r0 ?_
       refine r0 ?_
       obtain⟨fx,h⟩:=ck fx h
       obtain⟨c58,u8h,h⟩:=p5L h
       have fy:=(show rows i8K s4.1++[[.str (get a2 s4.2.toNat)]]=rows i8K c58 from by rw[u8h];first|exact i9b (E:=i8K) s4.1 [(get a2 s4.2.toNat)]|simp only[go_sem,rows,List.map_append,List.map_cons,List.map_nil])
       have fy:=fa fy (show s4.1.length+1=c58.length from by rw[u8h];simp)
       obtain⟨fx,h⟩:=ck fx h
       refine r1 ?_
       refine rn ?_
       cases h
       exact i9h (gs4+1) (bu hsc)
      ·refine rn ?_
       cases h
       exact i9r gs4 (bu hsc)
     ·try simp only[go_sem,fx]
      unfold p3O at h
      refine hj3 () _ _ _ h ?_;exact(hb.trans (bu hsc (hf:=⟨.s,.s,.s,.ref _ _ _ _ _ _ _ _ _ (p0c.trans rfl) (p5M (by first|decide|simp)) (by decide) (p9b _) (by simp only[go_sem]),trivial⟩)))
    ·refine r0 ?_
     refine hj3 () _ _ _ h ?_;exact(bu hsc)
end Go.Proofs.YtdjnbjnlnjhllaaGreatDoor
