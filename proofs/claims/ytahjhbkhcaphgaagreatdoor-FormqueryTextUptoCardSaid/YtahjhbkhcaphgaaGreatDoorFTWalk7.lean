import Derived.Test.YtahjhbkhcaphgaaGreatDoorFTWalk5
import Derived.Test.YtahjhbkhcaphgaaGreatDoorFTWalk6
set_option linter.unusedVariables false
set_option linter.unusedSimpArgs false
set_option maxHeartbeats 2000000
set_option maxRecDepth 100000
namespace Go.Proofs.YtahjhbkhcaphgaaGreatDoor
open Go Go.Am
theorem hC(n:Nat)(a0:Bs)(r:Bool)(h:P5 n a0=some r):Pure Tryz.prog gl 21 [.str a0] (.bool r):=by
 intro st
 unfold P5 at h
 have fx:=trivial
 refine fb 51 [.tmp 2] [0,2,3,4,5,9,18,19,22,23,24,25,26,27,28,29,30,31,32,33,34,35,36,37,38,39,42,47,48,49] Tryz.func21 fun hsc=>?_
 refine rn ?_
 refine D6 (body:=K1 a0) (kk:=R2 a0) (n:=n) (s0:=0)
  (fun(gs0:Unit) (s0:Int)=>[(0,.str a0),(3,.int .i64 s0)])
  (fun(gs0:Unit) (s0:Int)=>st)
  (fun(gt0:Unit) (t0:Unit)=>[(0,.str a0)])
  (fun(gt0:Unit) (t0:Unit)=>st)
  () h (jP hsc)
  (fun gs0 s0 b0 h hx0=>?_) (fun gt0 t0 fr1 st1 h hb=>?_)
 ·unfold K1 at h
  refine cd h (fun hc h=>?_) fun hc h=>?_
  ·obtain⟨fx,h⟩:=ck fx h
   refine cd h (fun hc h=>?_) fun hc h=>?_
   ·refine ra ?_
    cases h
    refine bS ?_;have h:=congrArg some (hx0 _ rfl)
    exact rt
   ·refine rn ?_
    cases h
    exact I6 () (jP hsc)
  ·refine rn ?_
   cases h
   exact J9 () (jP hsc)
 ·try simp only[go_sem,fx]
  unfold R2 at h
  refine R6 hb ?_
  exact rt
theorem fS(n:Nat)(a0:(List Bs))(a1:Bs)(r:Int)(h:T6 n a0 a1=some r):Pure Tryz.prog gl 22 [.sl false 1 16 (rows w9 a0),.str a1] (.int .i64 r):=by
 intro st
 unfold T6 at h
 have fx:=trivial
 refine fb 19 [.tmp 4] [0,1,4,5,9,17] Tryz.func22 fun hsc=>?_
 refine rn ?_
 refine D6 (body:=N3 a0 a1) (kk:=V9) (n:=n) (s0:=0)
  (fun(gs0:Unit) (s0:Int)=>[(0,.sl false 1 16 (rows w9 a0)),(1,.str a1),(5,.int .i64 s0)])
  (fun(gs0:Unit) (s0:Int)=>st)
  (fun(gt0:Unit) (t0:Unit)=>[])
  (fun(gt0:Unit) (t0:Unit)=>st)
  () h (jP hsc)
  (fun gs0 s0 b0 h hx0=>?_) (fun gt0 t0 fr1 st1 h hb=>?_)
 ·unfold N3 at h
  refine cd h (fun hc h=>?_) fun hc h=>?_
  ·obtain⟨fx,h⟩:=ck fx h
   refine cd h (fun hc h=>?_) fun hc h=>?_
   ·refine ra ?_
    cases h
    refine bS ?_;have h:=congrArg some (hx0 _ rfl)
    exact rt
   ·refine rn ?_
    cases h
    exact I6 () (jP hsc)
  ·refine rn ?_
   cases h
   exact J9 () (jP hsc)
 ·try simp only[go_sem,fx]
  unfold V9 at h
  refine R6 hb ?_
  exact rt
theorem fT(n:Nat)(a1:Bs)(l0:(List Bs))(r:Int)(h:T7 n a1 l0=some r):∀(st:St) (o0 q0:Nat) (hnd: [o0].Nodup) (R8:Am.look st o0=some (.arr q0 1 16 (rows w9 l0))),Am.Spec Tryz.prog gl 22 [.ref false o0 q0 0 l0.length,.str a1] st (fun d st'=>d= .int .i64 r∧st'=puts st []):=by
 intro st o0 q0 hnd R8
 unfold T7 at h
 have ho0:=F2 R8
 have fx:=idf ho0
 refine fb 19 [.tmp 4] [0,1,4,5,9,17] Tryz.func22 fun hsc=>?_
 refine aO (s':=(E8 st [(o0,(.arr q0 1 16 (rows w9 l0)))])) (C5 (by simp[R8])) ?_
 refine rn ?_
 refine D6 (body:=N4 l0 a1) (kk:=W0) (n:=n) (s0:=0)
  (fun(gs0:Unit) (s0:Int)=>[(0,.ref false o0 q0 0 l0.length),(1,.str a1),(5,.int .i64 s0)])
  (fun(gs0:Unit) (s0:Int)=>(E8 st [(o0,(.arr q0 1 16 (rows w9 l0)))]))
  (fun(gt0:Unit) (t0:Unit)=>[])
  (fun(gt0:Unit) (t0:Unit)=>(E8 st [(o0,(.arr q0 1 16 (rows w9 l0)))]))
  () h (xw hsc)
  (fun gs0 s0 b0 h hx0=>?_) (fun gt0 t0 fr1 st1 h hb=>?_)
 ·unfold N4 at h
  refine cd h (fun hc h=>?_) fun hc h=>?_
  ·refine r0 ?_
   refine r0 ?_
   obtain⟨fx,h⟩:=ck fx h
   have fy:=(show(rows w9 l0).getD s0.toNat []=w9 (get l0 s0.toNat)from Bt (E:=w9) (l:=l0) (k:=s0.toNat) (by first|omega|(simp;omega)))
   have fy:=fa fy (show s0.toNat<l0.length from by first|omega|(simp;omega))
   refine r1 ?_
   refine cd h (fun hc h=>?_) fun hc h=>?_
   ·refine ra ?_
    cases h
    refine bS ?_;have h:=congrArg some (hx0 _ rfl)
    refine rr ?_
    exact fus (.int .i64 s0) (.same _) h hsc (hr:=by rintro rfl;exact⟨rfl,C5 (by simp[R8])⟩)
   ·refine rn ?_
    cases h
    exact I6 () (xw hsc)
  ·refine rn ?_
   cases h
   exact J9 () (xw hsc)
 ·try simp only[go_sem,fx]
  unfold W0 at h
  refine R6 hb ?_
  refine rr ?_
  exact fus (.int .i64 (-1)) (.same _) h hsc (hr:=by rintro rfl;exact⟨rfl,C5 (by simp[R8])⟩)
theorem dJ(n:Nat)(a0:w8)(r:x6)(h:G3 n a0=some r):Pure Tryz.prog gl 6 [.agg [.int .i64 a0.form.kind,.str a0.form.name,.sl false 1 16 (rows w9 a0.form.words),.sl false 4 72 (rows u6.cells a0.form.subs),.sl false 1 16 (rows w9 a0.words),.sl false 1 16 (rows w9 a0.B1),.sl false 1 16 (rows w9 a0.parts)]] (.agg [.int .i64 r.code,.int .i64 r.index]):=by
 intro st
 unfold G3 at h
 have fx:=trivial
 refine kP ?_;refine fb 254 [.cell 2 30] [0,1,2,3,4,5,6,7,8,9,10,11,12,13,14,15,16,17,18,19,25,41,46,59,72,89,97,102,113,119,124,132,137,138,139,140,141,142,143,144,145,146,147,148,149,150,151,152,153,154,155,156,157,158,159,160,169,170,171,172,173,174,175,176,177,178,179,182,183,184,185,186,187,188,196,197,201,208,218,219,220,221,222,223,224,234,235,236,237,238,239,240,241,242,243] Tryz.func6 fun hsc=>?_
 refine rn ?_
 obtain⟨v1,hv1,h⟩:=M1 h
 refine(nh (eZ n _ _ hv1)).to ?_
 refine cd h (fun hc h=>?_) fun hc h=>?_
 ·exact rt
 ·refine rn ?_
  refine dw [] 0 ?_
  refine cd h (fun hc h=>?_) fun hc h=>?_
  ·exact rt
  ·refine rn ?_
   refine D6 (body:=O9 a0) (kk:=H9 n a0) (n:=n) (s0:=([],0))
    (fun(gs0:Nat) (s0:(List Bs)×Int)=>[(1,.ptr st.length 0 0 0),(2,.ptr (st.length+1) 0 0 0),(4,.int .i64 (↑a0.words.length:Int)),(5,.int .i64 (↑a0.B1.length:Int)),(6,.int .i64 (↑a0.parts.length:Int)),(7,.ref false (st.length+3) gs0 0 s0.1.length),(8,.int .i64 s0.2)])
    (fun(gs0:Nat) (s0:(List Bs)×Int)=>st++[some (.arr 0 7 0 [[.int .i64 a0.form.kind,.str a0.form.name,.sl false 1 16 (rows w9 a0.form.words),.sl false 4 72 (rows u6.cells a0.form.subs),.sl false 1 16 (rows w9 a0.words),.sl false 1 16 (rows w9 a0.B1),.sl false 1 16 (rows w9 a0.parts)]]),some (.arr 0 2 0 [[.int .i64 0,.int .i64 0]]),none,some (.arr gs0 1 16 (rows w9 s0.1))])
    (fun(gt0:Nat) (t0:(List Bs))=>[(1,.ptr st.length 0 0 0),(2,.ptr (st.length+1) 0 0 0),(4,.int .i64 (↑a0.words.length:Int)),(5,.int .i64 (↑a0.B1.length:Int)),(6,.int .i64 (↑a0.parts.length:Int)),(7,.ref false (st.length+3) gt0 0 t0.length)])
    (fun(gt0:Nat) (t0:(List Bs))=>st++[some (.arr 0 7 0 [[.int .i64 a0.form.kind,.str a0.form.name,.sl false 1 16 (rows w9 a0.form.words),.sl false 4 72 (rows u6.cells a0.form.subs),.sl false 1 16 (rows w9 a0.words),.sl false 1 16 (rows w9 a0.B1),.sl false 1 16 (rows w9 a0.parts)]]),some (.arr 0 2 0 [[.int .i64 0,.int .i64 0]]),none,some (.arr gt0 1 16 (rows w9 t0))])
    0 h (bm hsc)
    (fun gs0 s0 b0 h hx0=>?_) (fun gt0 t0 fr1 st1 h hb=>?_)
   ·unfold O9 at h
    refine cd h (fun hc h=>?_) fun hc h=>?_
    ·refine r0 ?_
     refine r0 ?_
     obtain⟨fx,h⟩:=ck fx h
     obtain⟨c20,Mg,h⟩:=gG h
     have fy:=(show rows w9 s0.1++[[.str (get a0.words s0.2.toNat)]]=rows w9 c20 from by rw[Mg];first|exact F1 (E:=w9) s0.1 [(get a0.words s0.2.toNat)]|simp only[go_sem,rows,List.map_append,List.map_cons,List.map_nil])
     have fy:=fa fy (show s0.1.length+1=c20.length from by rw[Mg];simp)
     obtain⟨fx,h⟩:=ck fx h
     refine r1 ?_
     refine rn ?_
     cases h
     exact I6 (gs0+1) (bm hsc)
    ·refine rn ?_
     cases h
     exact J9 gs0 (bm hsc)
   ·try simp only[go_sem,fx]
    unfold H9 at h
    refine R6 hb ?_
    refine rn ?_
    refine D6 (body:=P0 a0) (kk:=I0 n a0) (n:=n) (s0:=(t0,0))
     (fun(gs1:Nat) (s1:(List Bs)×Int)=>[(1,.ptr st.length 0 0 0),(2,.ptr (st.length+1) 0 0 0),(4,.int .i64 (↑a0.words.length:Int)),(5,.int .i64 (↑a0.B1.length:Int)),(6,.int .i64 (↑a0.parts.length:Int)),(7,.ref false (st.length+3) gs1 0 s1.1.length),(9,.int .i64 s1.2)])
     (fun(gs1:Nat) (s1:(List Bs)×Int)=>st++[some (.arr 0 7 0 [[.int .i64 a0.form.kind,.str a0.form.name,.sl false 1 16 (rows w9 a0.form.words),.sl false 4 72 (rows u6.cells a0.form.subs),.sl false 1 16 (rows w9 a0.words),.sl false 1 16 (rows w9 a0.B1),.sl false 1 16 (rows w9 a0.parts)]]),some (.arr 0 2 0 [[.int .i64 0,.int .i64 0]]),none,some (.arr gs1 1 16 (rows w9 s1.1))])
     (fun(gt1:Nat) (t1:(List Bs))=>[(1,.ptr st.length 0 0 0),(2,.ptr (st.length+1) 0 0 0),(4,.int .i64 (↑a0.words.length:Int)),(5,.int .i64 (↑a0.B1.length:Int)),(6,.int .i64 (↑a0.parts.length:Int)),(7,.ref false (st.length+3) gt1 0 t1.length)])
     (fun(gt1:Nat) (t1:(List Bs))=>st++[some (.arr 0 7 0 [[.int .i64 a0.form.kind,.str a0.form.name,.sl false 1 16 (rows w9 a0.form.words),.sl false 4 72 (rows u6.cells a0.form.subs),.sl false 1 16 (rows w9 a0.words),.sl false 1 16 (rows w9 a0.B1),.sl false 1 16 (rows w9 a0.parts)]]),some (.arr 0 2 0 [[.int .i64 0,.int .i64 0]]),none,some (.arr gt1 1 16 (rows w9 t1))])
     gt0 h (bm hsc)
     (fun gs1 s1 b1 h hx1=>?_) (fun gt1 t1 fr1 st1 h hb=>?_)
    ·unfold P0 at h
     refine cd h (fun hc h=>?_) fun hc h=>?_
     ·refine r0 ?_
      refine r0 ?_
      obtain⟨fx,h⟩:=ck fx h
      obtain⟨c35,Mh,h⟩:=gG h
      have fy:=(show rows w9 s1.1++[[.str (get a0.B1 s1.2.toNat)]]=rows w9 c35 from by rw[Mh];first|exact F1 (E:=w9) s1.1 [(get a0.B1 s1.2.toNat)]|simp only[go_sem,rows,List.map_append,List.map_cons,List.map_nil])
      have fy:=fa fy (show s1.1.length+1=c35.length from by rw[Mh];simp)
      obtain⟨fx,h⟩:=ck fx h
      refine r1 ?_
      refine rn ?_
      cases h
      exact I6 (gs1+1) (bm hsc)
     ·refine rn ?_
      cases h
      exact J9 gs1 (bm hsc)
    ·try simp only[go_sem,fx]
     unfold I0 at h
     refine R6 hb ?_
     refine rn ?_
     refine D6 (body:=P1 a0) (kk:=I3 n a0) (n:=n) (s0:=(t1,0))
      (fun(gs2:Nat) (s2:(List Bs)×Int)=>[(1,.ptr st.length 0 0 0),(2,.ptr (st.length+1) 0 0 0),(4,.int .i64 (↑a0.words.length:Int)),(5,.int .i64 (↑a0.B1.length:Int)),(6,.int .i64 (↑a0.parts.length:Int)),(7,.ref false (st.length+3) gs2 0 s2.1.length),(10,.int .i64 s2.2)])
      (fun(gs2:Nat) (s2:(List Bs)×Int)=>st++[some (.arr 0 7 0 [[.int .i64 a0.form.kind,.str a0.form.name,.sl false 1 16 (rows w9 a0.form.words),.sl false 4 72 (rows u6.cells a0.form.subs),.sl false 1 16 (rows w9 a0.words),.sl false 1 16 (rows w9 a0.B1),.sl false 1 16 (rows w9 a0.parts)]]),some (.arr 0 2 0 [[.int .i64 0,.int .i64 0]]),none,some (.arr gs2 1 16 (rows w9 s2.1))])
      (fun(gt2:Nat) (t2:(List Bs))=>[(1,.ptr st.length 0 0 0),(2,.ptr (st.length+1) 0 0 0),(4,.int .i64 (↑a0.words.length:Int)),(5,.int .i64 (↑a0.B1.length:Int)),(7,.ref false (st.length+3) gt2 0 t2.length)])
      (fun(gt2:Nat) (t2:(List Bs))=>st++[some (.arr 0 7 0 [[.int .i64 a0.form.kind,.str a0.form.name,.sl false 1 16 (rows w9 a0.form.words),.sl false 4 72 (rows u6.cells a0.form.subs),.sl false 1 16 (rows w9 a0.words),.sl false 1 16 (rows w9 a0.B1),.sl false 1 16 (rows w9 a0.parts)]]),some (.arr 0 2 0 [[.int .i64 0,.int .i64 0]]),none,some (.arr gt2 1 16 (rows w9 t2))])
      gt1 h (bm hsc)
      (fun gs2 s2 b2 h hx2=>?_) (fun gt2 t2 fr1 st1 h hb=>?_)
     ·unfold P1 at h
      refine cd h (fun hc h=>?_) fun hc h=>?_
      ·refine r0 ?_
       refine r0 ?_
       obtain⟨fx,h⟩:=ck fx h
       obtain⟨c50,Mi,h⟩:=gG h
       have fy:=(show rows w9 s2.1++[[.str (get a0.parts s2.2.toNat)]]=rows w9 c50 from by rw[Mi];first|exact F1 (E:=w9) s2.1 [(get a0.parts s2.2.toNat)]|simp only[go_sem,rows,List.map_append,List.map_cons,List.map_nil])
       have fy:=fa fy (show s2.1.length+1=c50.length from by rw[Mi];simp)
       obtain⟨fx,h⟩:=ck fx h
       refine r1 ?_
       refine rn ?_
       cases h
       exact I6 (gs2+1) (bm hsc)
      ·refine rn ?_
       cases h
       exact J9 gs2 (bm hsc)
     ·try simp only[go_sem,fx]
      unfold I3 at h
      refine R6 hb ?_
      refine rn ?_
      obtain⟨v55,hv55,h⟩:=M1 h
      refine(nh ((gZ n _ _ _ hv55).up (fun _=>(.cons _ _ _ _ .s (.cons _ _ _ _ .s (.cons _ _ _ _ (.y5 _ _ _ (by decide)) .nil)))) (.inr fun n=>by simp))).to ?_
      refine rn ?_
      refine D6 (body:=D3 n t2 v55 a0) (kk:=I4 n v55 a0) (n:=n) (s0:=0)
       (fun(gs3:Unit) (s3:Int)=>[(1,.ptr st.length 0 0 0),(2,.ptr (st.length+1) 0 0 0),(4,.int .i64 (↑a0.words.length:Int)),(5,.int .i64 (↑a0.B1.length:Int)),(7,.ref false (st.length+3) gt2 0 t2.length),(11,.sl false 5 80 (rows u7.cells v55)),(12,.int .i64 s3)])
       (fun(gs3:Unit) (s3:Int)=>st++[some (.arr 0 7 0 [[.int .i64 a0.form.kind,.str a0.form.name,.sl false 1 16 (rows w9 a0.form.words),.sl false 4 72 (rows u6.cells a0.form.subs),.sl false 1 16 (rows w9 a0.words),.sl false 1 16 (rows w9 a0.B1),.sl false 1 16 (rows w9 a0.parts)]]),some (.arr 0 2 0 [[.int .i64 0,.int .i64 0]]),none,some (.arr gt2 1 16 (rows w9 t2))])
       (fun(gt3:Unit) (t3:Unit)=>[(1,.ptr st.length 0 0 0),(2,.ptr (st.length+1) 0 0 0),(11,.sl false 5 80 (rows u7.cells v55))])
       (fun(gt3:Unit) (t3:Unit)=>st++[some (.arr 0 7 0 [[.int .i64 a0.form.kind,.str a0.form.name,.sl false 1 16 (rows w9 a0.form.words),.sl false 4 72 (rows u6.cells a0.form.subs),.sl false 1 16 (rows w9 a0.words),.sl false 1 16 (rows w9 a0.B1),.sl false 1 16 (rows w9 a0.parts)]]),some (.arr 0 2 0 [[.int .i64 0,.int .i64 0]])])
       () h (bm hsc)
       (fun gs3 s3 b3 h hx3=>?_) (fun gt3 t3 fr1 st1 h hb=>?_)
      ·unfold D3 at h
       refine cd h (fun hc h=>?_) fun hc h=>?_
       ·refine r0 ?_
        refine r0 ?_
        obtain⟨fx,h⟩:=ck fx h
        have fy:=(show(rows w9 t2).getD s3.toNat []=w9 (get t2 s3.toNat)from Bt (E:=w9) (l:=t2) (k:=s3.toNat) (by first|omega|(simp;omega)))
        have fy:=fa fy (show s3.toNat<t2.length from by first|omega|(simp;omega))
        refine r1 ?_
        obtain⟨v115,hv115,h⟩:=M1 h
        refine(nh (hC n _ _ hv115)).to ?_
        try simp only[go_sem,fx,fy]
        refine cd h (fun hc h=>?_) fun hc h=>?_
        ·refine ra ?_
         cases h
         refine bS ?_;have h:=congrArg some (hx3 _ rfl)
         exact rt
        ·refine rn ?_
         refine D6 (body:=E2 s3 t2) (kk:=H7 n v55 s3 a0 t2) (n:=n) (s0:=0)
          (fun(gs8:Unit) (s8:Int)=>[(1,.ptr st.length 0 0 0),(2,.ptr (st.length+1) 0 0 0),(4,.int .i64 (↑a0.words.length:Int)),(5,.int .i64 (↑a0.B1.length:Int)),(7,.ref false (st.length+3) gt2 0 t2.length),(11,.sl false 5 80 (rows u7.cells v55)),(12,.int .i64 s3),(13,.int .i64 s8)])
          (fun(gs8:Unit) (s8:Int)=>st++[some (.arr 0 7 0 [[.int .i64 a0.form.kind,.str a0.form.name,.sl false 1 16 (rows w9 a0.form.words),.sl false 4 72 (rows u6.cells a0.form.subs),.sl false 1 16 (rows w9 a0.words),.sl false 1 16 (rows w9 a0.B1),.sl false 1 16 (rows w9 a0.parts)]]),some (.arr 0 2 0 [[.int .i64 0,.int .i64 0]]),none,some (.arr gt2 1 16 (rows w9 t2))])
          (fun(gt8:Unit) (t8:Unit)=>[(1,.ptr st.length 0 0 0),(2,.ptr (st.length+1) 0 0 0),(4,.int .i64 (↑a0.words.length:Int)),(5,.int .i64 (↑a0.B1.length:Int)),(7,.ref false (st.length+3) gt2 0 t2.length),(11,.sl false 5 80 (rows u7.cells v55)),(12,.int .i64 s3)])
          (fun(gt8:Unit) (t8:Unit)=>st++[some (.arr 0 7 0 [[.int .i64 a0.form.kind,.str a0.form.name,.sl false 1 16 (rows w9 a0.form.words),.sl false 4 72 (rows u6.cells a0.form.subs),.sl false 1 16 (rows w9 a0.words),.sl false 1 16 (rows w9 a0.B1),.sl false 1 16 (rows w9 a0.parts)]]),some (.arr 0 2 0 [[.int .i64 0,.int .i64 0]]),none,some (.arr gt2 1 16 (rows w9 t2))])
          () h (bm hsc)
          (fun gs8 s8 b8 h hx8=>?_) (fun gt8 t8 fr1 st1 h hb=>?_)
         ·unfold E2 at h
          refine cd h (fun hc h=>?_) fun hc h=>?_
          ·refine rn ?_
           obtain⟨fx,h⟩:=ck fx h
           have fy:=(show(rows w9 t2).getD s8.toNat []=w9 (get t2 s8.toNat)from Bt (E:=w9) (l:=t2) (k:=s8.toNat) (by first|omega|(simp;omega)))
           have fy:=fa fy (show s8.toNat<t2.length from by first|omega|(simp;omega))
           have fy:=fa fy (show(rows w9 t2).getD s3.toNat []=w9 (get t2 s3.toNat)from Bt (E:=w9) (l:=t2) (k:=s3.toNat) (by first|omega|(simp;omega)))
           have fy:=fa fy (show s3.toNat<t2.length from by first|omega|(simp;omega))
           refine dwy [] 0 ?_
           refine cd h (fun hc h=>?_) fun hc h=>?_
           ·refine ra ?_
            cases h
            refine bS ?_;obtain rfl:=hx8 _ rfl;try simp only[go_sem,fx]
            refine bS ?_;have h:=congrArg some (hx3 _ rfl)
            exact rt
           ·refine rn ?_
            cases h
            exact I6 () (bm hsc)
          ·refine rn ?_
           cases h
           exact J9 () (bm hsc)
         ·try simp only[go_sem,fx]
          unfold H7 at h
          refine R6 hb ?_
          refine rn ?_
          refine D6 (body:=D2 n v55 s3 a0 t2) (kk:=H8 a0 s3) (n:=n) (s0:=(false,false,0))
           (fun(gs9:Unit) (s9:Bool×Bool×Int)=>[(1,.ptr st.length 0 0 0),(2,.ptr (st.length+1) 0 0 0),(4,.int .i64 (↑a0.words.length:Int)),(5,.int .i64 (↑a0.B1.length:Int)),(7,.ref false (st.length+3) gt2 0 t2.length),(11,.sl false 5 80 (rows u7.cells v55)),(12,.int .i64 s3),(14,.bool s9.1),(15,.bool s9.2.1),(16,.int .i64 s9.2.2)])
           (fun(gs9:Unit) (s9:Bool×Bool×Int)=>st++[some (.arr 0 7 0 [[.int .i64 a0.form.kind,.str a0.form.name,.sl false 1 16 (rows w9 a0.form.words),.sl false 4 72 (rows u6.cells a0.form.subs),.sl false 1 16 (rows w9 a0.words),.sl false 1 16 (rows w9 a0.B1),.sl false 1 16 (rows w9 a0.parts)]]),some (.arr 0 2 0 [[.int .i64 0,.int .i64 0]]),none,some (.arr gt2 1 16 (rows w9 t2))])
           (fun(gt9:Unit) (t9:Bool×Bool)=>[(1,.ptr st.length 0 0 0),(2,.ptr (st.length+1) 0 0 0),(4,.int .i64 (↑a0.words.length:Int)),(5,.int .i64 (↑a0.B1.length:Int)),(7,.ref false (st.length+3) gt2 0 t2.length),(11,.sl false 5 80 (rows u7.cells v55)),(12,.int .i64 s3),(14,.bool t9.1),(15,.bool t9.2)])
           (fun(gt9:Unit) (t9:Bool×Bool)=>st++[some (.arr 0 7 0 [[.int .i64 a0.form.kind,.str a0.form.name,.sl false 1 16 (rows w9 a0.form.words),.sl false 4 72 (rows u6.cells a0.form.subs),.sl false 1 16 (rows w9 a0.words),.sl false 1 16 (rows w9 a0.B1),.sl false 1 16 (rows w9 a0.parts)]]),some (.arr 0 2 0 [[.int .i64 0,.int .i64 0]]),none,some (.arr gt2 1 16 (rows w9 t2))])
           () h (bm hsc)
           (fun gs9 s9 b9 h hx9=>?_) (fun gt9 t9 fr1 st1 h hb=>?_)
          ·unfold D2 at h
           refine cd h (fun hc h=>?_) fun hc h=>?_
           ·refine cd h (fun hc h=>?_) fun hc h=>?_
            ·refine rn ?_
             refine D6 (body:=C8 s9 v55 s3 t2) (kk:=G6 s9) (n:=n) (s0:=(s9.1,0))
              (fun(Gu:Unit) (s11:Bool×Int)=>[(1,.ptr st.length 0 0 0),(2,.ptr (st.length+1) 0 0 0),(4,.int .i64 (↑a0.words.length:Int)),(5,.int .i64 (↑a0.B1.length:Int)),(7,.ref false (st.length+3) gt2 0 t2.length),(11,.sl false 5 80 (rows u7.cells v55)),(12,.int .i64 s3),(14,.bool s11.1),(15,.bool s9.2.1),(16,.int .i64 s9.2.2),(17,.int .i64 s11.2)])
              (fun(Gu:Unit) (s11:Bool×Int)=>st++[some (.arr 0 7 0 [[.int .i64 a0.form.kind,.str a0.form.name,.sl false 1 16 (rows w9 a0.form.words),.sl false 4 72 (rows u6.cells a0.form.subs),.sl false 1 16 (rows w9 a0.words),.sl false 1 16 (rows w9 a0.B1),.sl false 1 16 (rows w9 a0.parts)]]),some (.arr 0 2 0 [[.int .i64 0,.int .i64 0]]),none,some (.arr gt2 1 16 (rows w9 t2))])
              (fun(Jj:Unit) (t11:Bool)=>[(1,.ptr st.length 0 0 0),(2,.ptr (st.length+1) 0 0 0),(4,.int .i64 (↑a0.words.length:Int)),(5,.int .i64 (↑a0.B1.length:Int)),(7,.ref false (st.length+3) gt2 0 t2.length),(11,.sl false 5 80 (rows u7.cells v55)),(12,.int .i64 s3),(14,.bool t11),(15,.bool s9.2.1),(16,.int .i64 s9.2.2)])
              (fun(Jj:Unit) (t11:Bool)=>st++[some (.arr 0 7 0 [[.int .i64 a0.form.kind,.str a0.form.name,.sl false 1 16 (rows w9 a0.form.words),.sl false 4 72 (rows u6.cells a0.form.subs),.sl false 1 16 (rows w9 a0.words),.sl false 1 16 (rows w9 a0.B1),.sl false 1 16 (rows w9 a0.parts)]]),some (.arr 0 2 0 [[.int .i64 0,.int .i64 0]]),none,some (.arr gt2 1 16 (rows w9 t2))])
              () h (bm hsc)
              (fun Gu s11 b11 h Oz=>?_) (fun Jj t11 fr1 st1 h hb=>?_)
             ·unfold C8 at h
              obtain⟨fx,h⟩:=ck fx h
              refine cd h (fun hc h=>?_) fun hc h=>?_
              ·refine rn ?_
               obtain⟨fx,h⟩:=ck fx h
               obtain⟨fx,h⟩:=ck fx h
               have fy:=(show(rows w9 t2).getD s3.toNat []=w9 (get t2 s3.toNat)from Bt (E:=w9) (l:=t2) (k:=s3.toNat) (by first|omega|(simp;omega)))
               have fy:=fa fy (show s3.toNat<t2.length from by first|omega|(simp;omega))
               obtain⟨fx,h⟩:=ck fx h
               refine dwy [] 0 ?_
               refine rn ?_
               cases h
               exact I6 () (bm hsc)
              ·refine rn ?_
               cases h
               exact J9 () (bm hsc)
             ·try simp only[go_sem,fx]
              unfold G6 at h
              refine R6 hb ?_
              refine rn ?_
              cases h
              exact I6 () (bm hsc)
            ·refine rs ?_
             obtain⟨fx,h⟩:=ck fx h
             obtain⟨fx,h⟩:=ck fx h
             have fy:=(show(rows w9 t2).getD s3.toNat []=w9 (get t2 s3.toNat)from Bt (E:=w9) (l:=t2) (k:=s3.toNat) (by first|omega|(simp;omega)))
             have fy:=fa fy (show s3.toNat<t2.length from by first|omega|(simp;omega))
             refine dwy [] 0 ?_
             refine cd h (fun hc h=>?_) fun hc h=>?_
             ·refine rn ?_
              cases h
              exact I6 () (bm hsc)
             ·refine rn ?_
              cases h
              exact I6 () (bm hsc)
           ·refine rn ?_
            cases h
            exact J9 () (bm hsc)
          ·try simp only[go_sem,fx]
           unfold H8 at h
           refine R6 hb ?_
           refine cd h (fun hc h=>?_) fun hc h=>?_
           ·refine ra ?_
            cases h
            refine bS ?_;have h:=congrArg some (hx3 _ rfl)
            exact rt
           ·refine cd h (fun hc h=>?_) fun hc h=>?_
            ·refine ra ?_
             cases h
             refine bS ?_;have h:=congrArg some (hx3 _ rfl)
             exact rt
            ·refine rn ?_
             cases h
             exact I6 () (bm hsc)
       ·refine rn ?_
        cases h
        exact J9 () (bm hsc)
      ·try simp only[go_sem,fx]
       unfold I4 at h
       refine R6 hb ?_
       refine rn ?_
       refine D6 (body:=C9 n v55 a0) (kk:=O1) (n:=n) (s0:=([],0))
        (fun(wH:Nat) (s12:(List Bs)×Int)=>[(1,.ptr st.length 0 0 0),(2,.ptr (st.length+1) 0 0 0),(11,.sl false 5 80 (rows u7.cells v55)),(18,.ref false (st.length+2) wH 0 s12.1.length),(19,.int .i64 s12.2)])
        (fun(wH:Nat) (s12:(List Bs)×Int)=>st++[some (.arr 0 7 0 [[.int .i64 a0.form.kind,.str a0.form.name,.sl false 1 16 (rows w9 a0.form.words),.sl false 4 72 (rows u6.cells a0.form.subs),.sl false 1 16 (rows w9 a0.words),.sl false 1 16 (rows w9 a0.B1),.sl false 1 16 (rows w9 a0.parts)]]),some (.arr 0 2 0 [[.int .i64 0,.int .i64 0]]),some (.arr wH 1 16 (rows w9 s12.1))])
        (fun(DT:Unit) (t12:Unit)=>[(2,.ptr (st.length+1) 0 0 0)])
        (fun(DT:Unit) (t12:Unit)=>st++[none,some (.arr 0 2 0 [[.int .i64 0,.int .i64 0]])])
        0 h (bm hsc)
        (fun wH s12 b12 h Mf=>?_) (fun DT t12 fr1 st1 h hb=>?_)
       ·unfold C9 at h
        refine cd h (fun hc h=>?_) fun hc h=>?_
        ·obtain⟨fx,h⟩:=ck fx h
         refine cd h (fun hc h=>?_) fun hc h=>?_
         ·refine rs ?_
          refine dw [6] 0 ?_
          obtain⟨v195,hv195,h⟩:=M1 h
          refine gn [(st.length+2)] (fun st2 h2=>(qV (fT n _ _ _ hv195 st2 _ wH (by simp) ((h2 _ (by simp)).trans (lC.trans rfl))))) (by simp) (by simp only[List.mem_cons,List.not_mem_nil,or_false,forall_eq_or_imp,forall_eq];exact⟨by first|omega|(simp<;>omega),_,(lC.trans rfl),Ob.noConfusion⟩) (by simp) ?_
          try simp only[go_sem,fx]
          obtain⟨v196,hv196,h⟩:=M1 h
          refine mY (fun hG=>(nh (fS n _ _ _ (pE hv196 (by simpa using hG))))) ?_
          try simp only[go_sem,fx]
          try refine⟨by first|omega|(simp<;>omega),?_⟩
          refine cd h (fun hc h=>?_) fun hc h=>?_
          ·refine ra ?_
           cases h
           refine bS ?_;have h:=congrArg some (Mf _ rfl)
           exact rt
          ·refine r0 ?_
           obtain⟨c198,Jo,h⟩:=gG h
           have fy:=(show rows w9 s12.1++[[.str ((get v55 s12.2.toNat).name)]]=rows w9 c198 from by rw[Jo];first|exact F1 (E:=w9) s12.1 [(get v55 s12.2.toNat).name]|simp only[go_sem,rows,List.map_append,List.map_cons,List.map_nil])
           have fy:=fa fy (show s12.1.length+1=c198.length from by rw[Jo];simp)
           obtain⟨fx,h⟩:=ck fx h
           refine r1 ?_
           refine rn ?_
           cases h
           exact I6 (wH+1) (bm hsc)
         ·refine rn ?_
          cases h
          exact I6 wH (bm hsc)
        ·refine rn ?_
         cases h
         exact J9 () (bm hsc)
       ·try simp only[go_sem,fx]
        unfold O1 at h
        refine R6 hb ?_
        exact rt
end Go.Proofs.YtahjhbkhcaphgaaGreatDoor
