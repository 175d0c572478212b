import Derived.Test.YtdjnbjnlnjhllaaDoorFQWalk5
set_option linter.unusedVariables false
set_option linter.unusedSimpArgs false
set_option maxHeartbeats 2000000
set_option maxRecDepth 100000
namespace Go.Proofs.YtdjnbjnlnjhllaaDoor
open Go Go.Am
theorem ga(n:Nat)(a1:u5)(a2:(List Bs))(r:(List u6))(h:O4 n a1 a2=some r):Pure Tryd.prog gl 27 [.y6,.agg [.int .i64 a1.kind,.str a1.name,.sl false 1 16 (rows w8 a1.words),.sl false 4 72 (rows u5.cells a1.subs)],.sl false 1 16 (rows w8 a2)] (.sl false 5 80 (rows u6.cells r)):=by
 intro st
 unfold O4 at h
 have fx:=trivial
 refine jI ?_;refine fb 107 [.tmp 6] [0,1,2,4,6,7,8,9,10,11,12,13,14,28,34,39,40,41,42,43,44,45,46,47,48,65,66,67,68,75,89] Tryd.func27 fun hsc=>?_
 refine r0 ?_
 refine r0 ?_
 refine r0 ?_
 refine r0 ?_
 (repeat apply sq_)
 refine ep 1 1 ?_
 try simp only[List.append_assoc,List.cons_append,List.nil_append]
 refine R8 (F:=[(0,.y6),(2,.sl false 1 16 (rows w8 a2)),(4,.ptr st.length 0 0 0),(7,.int .i64 0),(8,.ptr (st.length+1) 0 0 0),(9,.int .i64 0)]) (T:=st++[some (.arr 0 4 0 [[.int .i64 a1.kind,.str a1.name,.sl false 1 16 (rows w8 a1.words),.sl false 4 72 (rows u5.cells a1.subs)]]),some (.arr 0 5 0 [[.int .i64 a1.kind,.str a1.name,.sl false 1 16 (rows w8 a1.words),.ref false (st.length+2) 0 0 0,.int .i64 0]]),some (.arr 0 1 1 (rows bL []))]) (vP hsc (.lv (.live _ _ _ _ (.arr _ _ _ _ _ (.cons _ _ _ _ (.cons _ _ _ _ .s (.cons _ _ _ _ .s (.cons _ _ _ _ .s (.cons _ _ _ _ (.nref _ _ _ _ _ _ (nV.trans rfl)) (.cons _ _ _ _ .s .nil))))) (.same _))) (.lv (.nil _)))) (by simp) ⟨.s,.s,.s,.s,.s,.s,trivial⟩ (by simp)) ?_
 (repeat apply sq_)
 refine B7 (body:=O6 n a1 a2) (kk:=O8 n a1 a2) (n:=n) (s0:=([],0))
  (fun(gs0:Nat) (s0:(List Bool)×Int)=>[(0,.y6),(2,.sl false 1 16 (rows w8 a2)),(4,.ptr st.length 0 0 0),(7,.int .i64 0),(8,.ptr (st.length+1) 0 0 0),(9,.int .i64 s0.2)])
  (fun(gs0:Nat) (s0:(List Bool)×Int)=>st++[some (.arr 0 4 0 [[.int .i64 a1.kind,.str a1.name,.sl false 1 16 (rows w8 a1.words),.sl false 4 72 (rows u5.cells a1.subs)]]),some (.arr 0 5 0 [[.int .i64 a1.kind,.str a1.name,.sl false 1 16 (rows w8 a1.words),.ref false (st.length+2) gs0 0 s0.1.length,.int .i64 0]]),some (.arr gs0 1 1 (rows bL s0.1))])
  (fun(gt0:Nat) (t0:(List Bool))=>[(0,.y6),(2,.sl false 1 16 (rows w8 a2)),(4,.ptr st.length 0 0 0),(7,.int .i64 0),(8,.ptr (st.length+1) 0 0 0)])
  (fun(gt0:Nat) (t0:(List Bool))=>st++[some (.arr 0 4 0 [[.int .i64 a1.kind,.str a1.name,.sl false 1 16 (rows w8 a1.words),.sl false 4 72 (rows u5.cells a1.subs)]]),some (.arr 0 5 0 [[.int .i64 a1.kind,.str a1.name,.sl false 1 16 (rows w8 a1.words),.ref false (st.length+2) gt0 0 t0.length,.int .i64 0]]),some (.arr gt0 1 1 (rows bL t0))])
  0 h (bm hsc)
  (fun gs0 s0 b0 h hx0=>?_) (fun gt0 t0 fr1 st1 h hb=>?_)
 ·unfold O6 at h
  refine cd h (fun hc h=>?_) fun hc h=>?_
  ·refine rn ?_
   refine B7 (body:=O7 a2 s0 a1) (kk:=W6 s0) (n:=n) (s0:=(false,0))
    (fun(gs2:Unit) (s2:Bool×Int)=>[(0,.y6),(2,.sl false 1 16 (rows w8 a2)),(4,.ptr st.length 0 0 0),(7,.int .i64 0),(8,.ptr (st.length+1) 0 0 0),(9,.int .i64 s0.2),(10,.bool s2.1),(11,.int .i64 s2.2)])
    (fun(gs2:Unit) (s2:Bool×Int)=>st++[some (.arr 0 4 0 [[.int .i64 a1.kind,.str a1.name,.sl false 1 16 (rows w8 a1.words),.sl false 4 72 (rows u5.cells a1.subs)]]),some (.arr 0 5 0 [[.int .i64 a1.kind,.str a1.name,.sl false 1 16 (rows w8 a1.words),.ref false (st.length+2) gs0 0 s0.1.length,.int .i64 0]]),some (.arr gs0 1 1 (rows bL s0.1))])
    (fun(gt2:Unit) (t2:Bool)=>[(0,.y6),(2,.sl false 1 16 (rows w8 a2)),(4,.ptr st.length 0 0 0),(7,.int .i64 0),(8,.ptr (st.length+1) 0 0 0),(9,.int .i64 s0.2),(10,.bool t2)])
    (fun(gt2:Unit) (t2:Bool)=>st++[some (.arr 0 4 0 [[.int .i64 a1.kind,.str a1.name,.sl false 1 16 (rows w8 a1.words),.sl false 4 72 (rows u5.cells a1.subs)]]),some (.arr 0 5 0 [[.int .i64 a1.kind,.str a1.name,.sl false 1 16 (rows w8 a1.words),.ref false (st.length+2) gs0 0 s0.1.length,.int .i64 0]]),some (.arr gs0 1 1 (rows bL s0.1))])
    () h (bm hsc)
    (fun gs2 s2 b2 h hx2=>?_) (fun gt2 t2 fr1 st1 h hb=>?_)
   ·unfold O7 at h
    refine cd h (fun hc h=>?_) fun hc h=>?_
    ·refine rn ?_
     obtain⟨fx,h⟩:=ck fx h
     obtain⟨fx,h⟩:=ck fx h
     refine dw [] 0 ?_
     refine rn ?_
     cases h
     exact F7 () (bm hsc)
    ·refine rn ?_
     cases h
     exact J1 () (bm hsc)
   ·try simp only[go_sem,fx]
    unfold W6 at h
    refine R8 hb ?_
    obtain⟨c28,FZ,h⟩:=iA h
    have fy:=(show rows bL s0.1++[[.bool t2]]=rows bL c28 from by rw[FZ];first|exact D8 (E:=bL) s0.1 [t2]|simp only[go_sem,rows,List.map_append,List.map_cons,List.map_nil])
    have fy:=fa fy (show s0.1.length+1=c28.length from by rw[FZ];simp)
    obtain⟨fx,h⟩:=ck fx h
    refine r1 ?_
    refine rn ?_
    cases h
    exact F7 (gs0+1) (bm hsc)
  ·refine rn ?_
   cases h
   exact J1 gs0 (bm hsc)
 ·try simp only[go_sem,fx]
  unfold O8 at h
  refine R8 hb ?_
  (repeat apply sq_)
  refine R8 (F:=[(0,.y6),(2,.sl false 1 16 (rows w8 a2)),(4,.ptr st.length 0 0 0),(7,.int .i64 0),(8,.ptr (st.length+1) 0 0 0)]) (T:=st++[some (.arr 0 4 0 [[.int .i64 a1.kind,.str a1.name,.sl false 1 16 (rows w8 a1.words),.sl false 4 72 (rows u5.cells a1.subs)]]),some (.arr 0 5 0 [[.int .i64 a1.kind,.str a1.name,.sl false 1 16 (rows w8 a1.words),.sl false 1 1 (rows bL t0),.int .i64 0]])]) (vP hsc (.lv (.live _ _ _ _ (.arr _ _ _ _ _ (.cons _ _ _ _ (.cons _ _ _ _ .s (.cons _ _ _ _ .s (.cons _ _ _ _ .s (.cons _ _ _ _ (.ref _ _ _ _ _ _ _ _ _ (nV.trans rfl) (mX (by first|decide|simp)) (by decide) (mW _) (by simp only[go_sem])) (.cons _ _ _ _ .s .nil))))) (.same _))) (.nil _))) (by simp) ⟨.s,.s,.s,.s,.s,trivial⟩ (by simp)) ?_
  obtain⟨c34,BU,h⟩:=iA h
  obtain⟨fx,h⟩:=ck fx h
  refine r0 ?_
  have e37:D.ref false (st.length+3) 0 0 1=D.ref false (st.length+3) 0 0 c34.length:=by simp[BU]
  have e38: [[.int .i64 a1.kind,.str a1.name,.sl false 1 16 (rows w8 a1.words),.sl false 1 1 (rows bL t0),.int .i64 0]]=rows u6.cells c34:=by rw[BU];first|rfl|simp only[go_sem,rows,List.map_cons,List.map_nil]
  try simp only[e37,e38]
  refine rn ?_
  refine bB (E6 n a1 c34) r (fun(gj3:Unit) (j3:(List Bs))=>[(0,.ref false (st.length+3) 0 0 c34.length),(4,.ptr st.length 0 0 0),(7,.int .i64 0),(12,.sl false 1 16 (rows w8 j3))]) (fun(gj3:Unit) (j3:(List Bs))=>st++[some (.arr 0 4 0 [[.int .i64 a1.kind,.str a1.name,.sl false 1 16 (rows w8 a1.words),.sl false 4 72 (rows u5.cells a1.subs)]]),none,none,some (.arr 0 5 80 (rows u6.cells c34))]) (fun gj3 j3 fr1 st1 h hb=>?_) (fun hj3=>?_)
  ·try simp only[go_sem,fx]
   unfold E6 at h
   refine R8 hb ?_
   refine rn ?_
   refine B7 (body:=J3 n a1 j3) (kk:=O9) (n:=n) (s0:=(c34,0))
    (fun(gs5:Nat) (s5:(List u6)×Int)=>[(0,.ref false (st.length+3) gs5 0 s5.1.length),(4,.ptr st.length 0 0 0),(7,.int .i64 0),(12,.sl false 1 16 (rows w8 j3)),(14,.int .i64 s5.2)])
    (fun(gs5:Nat) (s5:(List u6)×Int)=>st++[some (.arr 0 4 0 [[.int .i64 a1.kind,.str a1.name,.sl false 1 16 (rows w8 a1.words),.sl false 4 72 (rows u5.cells a1.subs)]]),none,none,some (.arr gs5 5 80 (rows u6.cells s5.1))])
    (fun(gt5:Nat) (t5:(List u6))=>[(0,.ref false (st.length+3) gt5 0 t5.length),(7,.int .i64 0)])
    (fun(gt5:Nat) (t5:(List u6))=>st++[none,none,none,some (.arr gt5 5 80 (rows u6.cells t5))])
    0 h (bm hsc)
    (fun gs5 s5 b5 h hx5=>?_) (fun gt5 t5 fr1 st1 h hb=>?_)
   ·unfold J3 at h
    refine cd h (fun hc h=>?_) fun hc h=>?_
    ·obtain⟨fx,h⟩:=ck fx h
     refine rn ?_
     obtain⟨v68,hv68,h⟩:=Y8 h
     refine(pJ (eR n _ _ _ _ hv68 _ _ gs5 (by simp) (kU.trans rfl))).mono ?_
     rintro d1 st1 ⟨g69,rfl,rfl⟩
     refine rn ?_
     cases h
     exact F7 g69 (bm hsc)
    ·refine rn ?_
     cases h
     exact J1 gs5 (bm hsc)
   ·try simp only[go_sem,fx]
    unfold O9 at h
    refine R8 hb ?_
    obtain⟨fx,h⟩:=ck fx h
    have fy:=(show(rows u6.cells t5).getD 0 []=u6.cells (get t5 0)from zA (E:=u6.cells) (l:=t5) (k:=0) (by first|omega|(simp;omega)))
    have fy:=fa fy (show 0<t5.length from by first|omega|(simp;omega))
    obtain⟨c73,Ga,h⟩:=iA h
    have fy:=fa fy (show(rows u6.cells t5).set 0 [.int .i64 ((get t5 0).kind),.str ((get t5 0).name),.sl false 1 16 (rows w8 ((get t5 0).words)),.sl false 1 1 (rows bL ((get t5 0).bound)),.int .i64 (↑t5.length:Int)]=rows u6.cells c73 from by rw[Ga];first|exact IV (E:=u6.cells) _ _ _|simp only[go_sem,rows,List.map_set])
    refine r1 ?_
    have e75:D.ref false (st.length+3) gt5 0 t5.length=D.ref false (st.length+3) gt5 0 c73.length:=by simp[Ga]
    try simp only[e75]
    refine rr ?_
    exact fo (.sl false 5 80 (rows u6.cells c73)) (.ref _ _ _ _ _ _ _ _ _ (nV.trans rfl) zy (by decide) (mW _) (by simp only[go_sem])) h hsc
  ·refine cd h (fun hc h=>?_) fun hc h=>?_
   ·refine rn ?_
    refine B7 (body:=P0 a2) (kk:=W7 n a1 c34) (n:=n) (s0:=([a1.name],0))
     (fun(gs4:Nat) (s4:(List Bs)×Int)=>[(0,.ref false (st.length+3) 0 0 c34.length),(2,.sl false 1 16 (rows w8 a2)),(4,.ptr st.length 0 0 0),(7,.int .i64 0),(12,.ref false (st.length+4) gs4 0 s4.1.length),(13,.int .i64 s4.2)])
     (fun(gs4:Nat) (s4:(List Bs)×Int)=>st++[some (.arr 0 4 0 [[.int .i64 a1.kind,.str a1.name,.sl false 1 16 (rows w8 a1.words),.sl false 4 72 (rows u5.cells a1.subs)]]),none,none,some (.arr 0 5 80 (rows u6.cells c34)),some (.arr gs4 1 16 (rows w8 s4.1))])
     (fun(gt4:Nat) (t4:(List Bs))=>[(0,.ref false (st.length+3) 0 0 c34.length),(4,.ptr st.length 0 0 0),(7,.int .i64 0),(12,.ref false (st.length+4) gt4 0 t4.length)])
     (fun(gt4:Nat) (t4:(List Bs))=>st++[some (.arr 0 4 0 [[.int .i64 a1.kind,.str a1.name,.sl false 1 16 (rows w8 a1.words),.sl false 4 72 (rows u5.cells a1.subs)]]),none,none,some (.arr 0 5 80 (rows u6.cells c34)),some (.arr gt4 1 16 (rows w8 t4))])
     0 h (bm hsc)
     (fun gs4 s4 b4 h hx4=>?_) (fun gt4 t4 fr1 st1 h hb=>?_)
    ·unfold P0 at h
     refine cd h (fun hc h=>?_) fun hc h=>?_
     ·refine r0 ?_
      refine r0 ?_
      obtain⟨fx,h⟩:=ck fx h
      obtain⟨c58,Gb,h⟩:=iA h
      have fy:=(show rows w8 s4.1++[[.str (get a2 s4.2.toNat)]]=rows w8 c58 from by rw[Gb];first|exact D8 (E:=w8) s4.1 [(get a2 s4.2.toNat)]|simp only[go_sem,rows,List.map_append,List.map_cons,List.map_nil])
      have fy:=fa fy (show s4.1.length+1=c58.length from by rw[Gb];simp)
      obtain⟨fx,h⟩:=ck fx h
      refine r1 ?_
      refine rn ?_
      cases h
      exact F7 (gs4+1) (bm hsc)
     ·refine rn ?_
      cases h
      exact J1 gs4 (bm hsc)
    ·try simp only[go_sem,fx]
     unfold W7 at h
     refine hj3 () _ _ _ h ?_;exact(hb.trans (bm hsc (hf:=⟨.s,.s,.s,.ref _ _ _ _ _ _ _ _ _ (nV.trans rfl) (mX (by first|decide|simp)) (by decide) (mW _) (by simp only[go_sem]),trivial⟩)))
   ·refine r0 ?_
    refine hj3 () _ _ _ h ?_;exact(bm hsc)
theorem gb(n:Nat)(a0:Bs)(r:Bool)(h:O5 n a0=some r):Pure Tryd.prog gl 28 [.str a0] (.bool r):=by
 intro st
 unfold O5 at h
 have fx:=trivial
 refine fb 51 [.tmp 2] [0,2,3,4,5,9,18,19,22,23,24,25,26,27,28,29,30,31,32,33,34,35,36,37,38,39,42,47,48,49] Tryd.func28 fun hsc=>?_
 refine rn ?_
 refine B7 (body:=J4 a0) (kk:=P4 a0) (n:=n) (s0:=0)
  (fun(gs0:Unit) (s0:Int)=>[(0,.str a0),(3,.int .i64 s0)])
  (fun(gs0:Unit) (s0:Int)=>st)
  (fun(gt0:Unit) (t0:Unit)=>[(0,.str a0)])
  (fun(gt0:Unit) (t0:Unit)=>st)
  () h (fM hsc)
  (fun gs0 s0 b0 h hx0=>?_) (fun gt0 t0 fr1 st1 h hb=>?_)
 ·unfold J4 at h
  refine cd h (fun hc h=>?_) fun hc h=>?_
  ·obtain⟨fx,h⟩:=ck fx h
   refine cd h (fun hc h=>?_) fun hc h=>?_
   ·refine ra ?_
    cases h
    refine Y9 ?_;have h:=congrArg some (hx0 _ rfl)
    exact rt
   ·refine rn ?_
    cases h
    exact F7 () (fM hsc)
  ·refine rn ?_
   cases h
   exact J1 () (fM hsc)
 ·try simp only[go_sem,fx]
  unfold P4 at h
  refine R8 hb ?_
  exact rt
theorem eS(n:Nat)(a0:(List Bs))(a1:Bs)(r:Int)(h:R6 n a0 a1=some r):Pure Tryd.prog gl 29 [.sl false 1 16 (rows w8 a0),.str a1] (.int .i64 r):=by
 intro st
 unfold R6 at h
 have fx:=trivial
 refine fb 19 [.tmp 4] [0,1,4,5,9,17] Tryd.func29 fun hsc=>?_
 refine rn ?_
 refine B7 (body:=L9 a0 a1) (kk:=T6) (n:=n) (s0:=0)
  (fun(gs0:Unit) (s0:Int)=>[(0,.sl false 1 16 (rows w8 a0)),(1,.str a1),(5,.int .i64 s0)])
  (fun(gs0:Unit) (s0:Int)=>st)
  (fun(gt0:Unit) (t0:Unit)=>[])
  (fun(gt0:Unit) (t0:Unit)=>st)
  () h (fM hsc)
  (fun gs0 s0 b0 h hx0=>?_) (fun gt0 t0 fr1 st1 h hb=>?_)
 ·unfold L9 at h
  refine cd h (fun hc h=>?_) fun hc h=>?_
  ·obtain⟨fx,h⟩:=ck fx h
   refine cd h (fun hc h=>?_) fun hc h=>?_
   ·refine ra ?_
    cases h
    refine Y9 ?_;have h:=congrArg some (hx0 _ rfl)
    exact rt
   ·refine rn ?_
    cases h
    exact F7 () (fM hsc)
  ·refine rn ?_
   cases h
   exact J1 () (fM hsc)
 ·try simp only[go_sem,fx]
  unfold T6 at h
  refine R8 hb ?_
  exact rt
theorem eT(n:Nat)(a1:Bs)(l0:(List Bs))(r:Int)(h:R7 n a1 l0=some r):∀(st:St) (o0 q0:Nat) (hnd: [o0].Nodup) (aG:Am.look st o0=some (.arr q0 1 16 (rows w8 l0))),Am.Spec Tryd.prog gl 29 [.ref false o0 q0 0 l0.length,.str a1] st (fun d st'=>d= .int .i64 r∧st'=puts st []):=by
 intro st o0 q0 hnd aG
 unfold R7 at h
 have ho0:=J2 aG
 have fx:=idf ho0
 refine fb 19 [.tmp 4] [0,1,4,5,9,17] Tryd.func29 fun hsc=>?_
 refine dG (s':=(F2 st [(o0,(.arr q0 1 16 (rows w8 l0)))])) (D7 (by simp[aG])) ?_
 refine rn ?_
 refine B7 (body:=M0 l0 a1) (kk:=T7) (n:=n) (s0:=0)
  (fun(gs0:Unit) (s0:Int)=>[(0,.ref false o0 q0 0 l0.length),(1,.str a1),(5,.int .i64 s0)])
  (fun(gs0:Unit) (s0:Int)=>(F2 st [(o0,(.arr q0 1 16 (rows w8 l0)))]))
  (fun(gt0:Unit) (t0:Unit)=>[])
  (fun(gt0:Unit) (t0:Unit)=>(F2 st [(o0,(.arr q0 1 16 (rows w8 l0)))]))
  () h (zB hsc)
  (fun gs0 s0 b0 h hx0=>?_) (fun gt0 t0 fr1 st1 h hb=>?_)
 ·unfold M0 at h
  refine cd h (fun hc h=>?_) fun hc h=>?_
  ·refine r0 ?_
   refine r0 ?_
   obtain⟨fx,h⟩:=ck fx h
   have fy:=(show(rows w8 l0).getD s0.toNat []=w8 (get l0 s0.toNat)from zA (E:=w8) (l:=l0) (k:=s0.toNat) (by first|omega|(simp;omega)))
   have fy:=fa fy (show s0.toNat<l0.length from by first|omega|(simp;omega))
   refine r1 ?_
   refine cd h (fun hc h=>?_) fun hc h=>?_
   ·refine ra ?_
    cases h
    refine Y9 ?_;have h:=congrArg some (hx0 _ rfl)
    refine rr ?_
    exact fus (.int .i64 s0) (.same _) h hsc (hr:=by rintro rfl;exact⟨rfl,D7 (by simp[aG])⟩)
   ·refine rn ?_
    cases h
    exact F7 () (zB hsc)
  ·refine rn ?_
   cases h
   exact J1 () (zB hsc)
 ·try simp only[go_sem,fx]
  unfold T7 at h
  refine R8 hb ?_
  refine rr ?_
  exact fus (.int .i64 (-1)) (.same _) h hsc (hr:=by rintro rfl;exact⟨rfl,D7 (by simp[aG])⟩)
theorem cP(n:Nat)(a0:w6)(r:w9)(h:F0 n a0=some r):Pure Tryd.prog gl 9 [.agg [.int .i64 a0.form.kind,.str a0.form.name,.sl false 1 16 (rows w8 a0.form.words),.sl false 4 72 (rows u5.cells a0.form.subs),.sl false 1 16 (rows w8 a0.words),.sl false 1 16 (rows w8 a0.y5),.sl false 1 16 (rows w8 a0.parts)]] (.agg [.int .i64 r.code,.int .i64 r.index]):=by
 intro st
 unfold F0 at h
 have fx:=trivial
 refine jI ?_;refine fb 254 [.cell 2 30] [0,1,2,3,4,5,6,7,8,9,10,11,12,13,14,15,16,17,18,19,25,41,46,59,72,89,97,102,113,119,124,132,137,138,139,140,141,142,143,144,145,146,147,148,149,150,151,152,153,154,155,156,157,158,159,160,169,170,171,172,173,174,175,176,177,178,179,182,183,184,185,186,187,188,196,197,201,208,218,219,220,221,222,223,224,234,235,236,237,238,239,240,241,242,243] Tryd.func9 fun hsc=>?_
 refine rn ?_
 obtain⟨v1,hv1,h⟩:=Y8 h
 refine(lM (dR n _ _ hv1)).to ?_
 refine cd h (fun hc h=>?_) fun hc h=>?_
 ·exact rt
 ·refine rn ?_
  refine dw [] 0 ?_
  refine cd h (fun hc h=>?_) fun hc h=>?_
  ·exact rt
  ·refine rn ?_
   refine B7 (body:=N8 a0) (kk:=G1 n a0) (n:=n) (s0:=([],0))
    (fun(gs0:Nat) (s0:(List Bs)×Int)=>[(1,.ptr st.length 0 0 0),(2,.ptr (st.length+1) 0 0 0),(4,.int .i64 (↑a0.words.length:Int)),(5,.int .i64 (↑a0.y5.length:Int)),(6,.int .i64 (↑a0.parts.length:Int)),(7,.ref false (st.length+3) gs0 0 s0.1.length),(8,.int .i64 s0.2)])
    (fun(gs0:Nat) (s0:(List Bs)×Int)=>st++[some (.arr 0 7 0 [[.int .i64 a0.form.kind,.str a0.form.name,.sl false 1 16 (rows w8 a0.form.words),.sl false 4 72 (rows u5.cells a0.form.subs),.sl false 1 16 (rows w8 a0.words),.sl false 1 16 (rows w8 a0.y5),.sl false 1 16 (rows w8 a0.parts)]]),some (.arr 0 2 0 [[.int .i64 0,.int .i64 0]]),none,some (.arr gs0 1 16 (rows w8 s0.1))])
    (fun(gt0:Nat) (t0:(List Bs))=>[(1,.ptr st.length 0 0 0),(2,.ptr (st.length+1) 0 0 0),(4,.int .i64 (↑a0.words.length:Int)),(5,.int .i64 (↑a0.y5.length:Int)),(6,.int .i64 (↑a0.parts.length:Int)),(7,.ref false (st.length+3) gt0 0 t0.length)])
    (fun(gt0:Nat) (t0:(List Bs))=>st++[some (.arr 0 7 0 [[.int .i64 a0.form.kind,.str a0.form.name,.sl false 1 16 (rows w8 a0.form.words),.sl false 4 72 (rows u5.cells a0.form.subs),.sl false 1 16 (rows w8 a0.words),.sl false 1 16 (rows w8 a0.y5),.sl false 1 16 (rows w8 a0.parts)]]),some (.arr 0 2 0 [[.int .i64 0,.int .i64 0]]),none,some (.arr gt0 1 16 (rows w8 t0))])
    0 h (bm hsc)
    (fun gs0 s0 b0 h hx0=>?_) (fun gt0 t0 fr1 st1 h hb=>?_)
   ·unfold N8 at h
    refine cd h (fun hc h=>?_) fun hc h=>?_
    ·refine r0 ?_
     refine r0 ?_
     obtain⟨fx,h⟩:=ck fx h
     obtain⟨c20,Jq,h⟩:=iA h
     have fy:=(show rows w8 s0.1++[[.str (get a0.words s0.2.toNat)]]=rows w8 c20 from by rw[Jq];first|exact D8 (E:=w8) s0.1 [(get a0.words s0.2.toNat)]|simp only[go_sem,rows,List.map_append,List.map_cons,List.map_nil])
     have fy:=fa fy (show s0.1.length+1=c20.length from by rw[Jq];simp)
     obtain⟨fx,h⟩:=ck fx h
     refine r1 ?_
     refine rn ?_
     cases h
     exact F7 (gs0+1) (bm hsc)
    ·refine rn ?_
     cases h
     exact J1 gs0 (bm hsc)
   ·try simp only[go_sem,fx]
    unfold G1 at h
    refine R8 hb ?_
    refine rn ?_
    refine B7 (body:=N9 a0) (kk:=G2 n a0) (n:=n) (s0:=(t0,0))
     (fun(gs1:Nat) (s1:(List Bs)×Int)=>[(1,.ptr st.length 0 0 0),(2,.ptr (st.length+1) 0 0 0),(4,.int .i64 (↑a0.words.length:Int)),(5,.int .i64 (↑a0.y5.length:Int)),(6,.int .i64 (↑a0.parts.length:Int)),(7,.ref false (st.length+3) gs1 0 s1.1.length),(9,.int .i64 s1.2)])
     (fun(gs1:Nat) (s1:(List Bs)×Int)=>st++[some (.arr 0 7 0 [[.int .i64 a0.form.kind,.str a0.form.name,.sl false 1 16 (rows w8 a0.form.words),.sl false 4 72 (rows u5.cells a0.form.subs),.sl false 1 16 (rows w8 a0.words),.sl false 1 16 (rows w8 a0.y5),.sl false 1 16 (rows w8 a0.parts)]]),some (.arr 0 2 0 [[.int .i64 0,.int .i64 0]]),none,some (.arr gs1 1 16 (rows w8 s1.1))])
     (fun(gt1:Nat) (t1:(List Bs))=>[(1,.ptr st.length 0 0 0),(2,.ptr (st.length+1) 0 0 0),(4,.int .i64 (↑a0.words.length:Int)),(5,.int .i64 (↑a0.y5.length:Int)),(6,.int .i64 (↑a0.parts.length:Int)),(7,.ref false (st.length+3) gt1 0 t1.length)])
     (fun(gt1:Nat) (t1:(List Bs))=>st++[some (.arr 0 7 0 [[.int .i64 a0.form.kind,.str a0.form.name,.sl false 1 16 (rows w8 a0.form.words),.sl false 4 72 (rows u5.cells a0.form.subs),.sl false 1 16 (rows w8 a0.words),.sl false 1 16 (rows w8 a0.y5),.sl false 1 16 (rows w8 a0.parts)]]),some (.arr 0 2 0 [[.int .i64 0,.int .i64 0]]),none,some (.arr gt1 1 16 (rows w8 t1))])
     gt0 h (bm hsc)
     (fun gs1 s1 b1 h hx1=>?_) (fun gt1 t1 fr1 st1 h hb=>?_)
    ·unfold N9 at h
     refine cd h (fun hc h=>?_) fun hc h=>?_
     ·refine r0 ?_
      refine r0 ?_
      obtain⟨fx,h⟩:=ck fx h
      obtain⟨c35,Jr,h⟩:=iA h
      have fy:=(show rows w8 s1.1++[[.str (get a0.y5 s1.2.toNat)]]=rows w8 c35 from by rw[Jr];first|exact D8 (E:=w8) s1.1 [(get a0.y5 s1.2.toNat)]|simp only[go_sem,rows,List.map_append,List.map_cons,List.map_nil])
      have fy:=fa fy (show s1.1.length+1=c35.length from by rw[Jr];simp)
      obtain⟨fx,h⟩:=ck fx h
      refine r1 ?_
      refine rn ?_
      cases h
      exact F7 (gs1+1) (bm hsc)
     ·refine rn ?_
      cases h
      exact J1 gs1 (bm hsc)
    ·try simp only[go_sem,fx]
     unfold G2 at h
     refine R8 hb ?_
     refine rn ?_
     refine B7 (body:=O1 a0) (kk:=G3 n a0) (n:=n) (s0:=(t1,0))
      (fun(gs2:Nat) (s2:(List Bs)×Int)=>[(1,.ptr st.length 0 0 0),(2,.ptr (st.length+1) 0 0 0),(4,.int .i64 (↑a0.words.length:Int)),(5,.int .i64 (↑a0.y5.length:Int)),(6,.int .i64 (↑a0.parts.length:Int)),(7,.ref false (st.length+3) gs2 0 s2.1.length),(10,.int .i64 s2.2)])
      (fun(gs2:Nat) (s2:(List Bs)×Int)=>st++[some (.arr 0 7 0 [[.int .i64 a0.form.kind,.str a0.form.name,.sl false 1 16 (rows w8 a0.form.words),.sl false 4 72 (rows u5.cells a0.form.subs),.sl false 1 16 (rows w8 a0.words),.sl false 1 16 (rows w8 a0.y5),.sl false 1 16 (rows w8 a0.parts)]]),some (.arr 0 2 0 [[.int .i64 0,.int .i64 0]]),none,some (.arr gs2 1 16 (rows w8 s2.1))])
      (fun(gt2:Nat) (t2:(List Bs))=>[(1,.ptr st.length 0 0 0),(2,.ptr (st.length+1) 0 0 0),(4,.int .i64 (↑a0.words.length:Int)),(5,.int .i64 (↑a0.y5.length:Int)),(7,.ref false (st.length+3) gt2 0 t2.length)])
      (fun(gt2:Nat) (t2:(List Bs))=>st++[some (.arr 0 7 0 [[.int .i64 a0.form.kind,.str a0.form.name,.sl false 1 16 (rows w8 a0.form.words),.sl false 4 72 (rows u5.cells a0.form.subs),.sl false 1 16 (rows w8 a0.words),.sl false 1 16 (rows w8 a0.y5),.sl false 1 16 (rows w8 a0.parts)]]),some (.arr 0 2 0 [[.int .i64 0,.int .i64 0]]),none,some (.arr gt2 1 16 (rows w8 t2))])
      gt1 h (bm hsc)
      (fun gs2 s2 b2 h hx2=>?_) (fun gt2 t2 fr1 st1 h hb=>?_)
     ·unfold O1 at h
      refine cd h (fun hc h=>?_) fun hc h=>?_
      ·refine r0 ?_
       refine r0 ?_
       obtain⟨fx,h⟩:=ck fx h
       obtain⟨c50,Js,h⟩:=iA h
       have fy:=(show rows w8 s2.1++[[.str (get a0.parts s2.2.toNat)]]=rows w8 c50 from by rw[Js];first|exact D8 (E:=w8) s2.1 [(get a0.parts s2.2.toNat)]|simp only[go_sem,rows,List.map_append,List.map_cons,List.map_nil])
       have fy:=fa fy (show s2.1.length+1=c50.length from by rw[Js];simp)
       obtain⟨fx,h⟩:=ck fx h
       refine r1 ?_
       refine rn ?_
       cases h
       exact F7 (gs2+1) (bm hsc)
      ·refine rn ?_
       cases h
       exact J1 gs2 (bm hsc)
     ·try simp only[go_sem,fx]
      unfold G3 at h
      refine R8 hb ?_
      refine rn ?_
      obtain⟨v55,hv55,h⟩:=Y8 h
      refine(lM ((ga n _ _ _ hv55).up (fun _=>(.cons _ _ _ _ .s (.cons _ _ _ _ .s (.cons _ _ _ _ (.y6 _ _ _ (by decide)) .nil)))) (.inr fun n=>by simp))).to ?_
      refine rn ?_
      refine B7 (body:=B5 n t2 v55 a0) (kk:=G4 n v55 a0) (n:=n) (s0:=0)
       (fun(gs3:Unit) (s3:Int)=>[(1,.ptr st.length 0 0 0),(2,.ptr (st.length+1) 0 0 0),(4,.int .i64 (↑a0.words.length:Int)),(5,.int .i64 (↑a0.y5.length:Int)),(7,.ref false (st.length+3) gt2 0 t2.length),(11,.sl false 5 80 (rows u6.cells v55)),(12,.int .i64 s3)])
       (fun(gs3:Unit) (s3:Int)=>st++[some (.arr 0 7 0 [[.int .i64 a0.form.kind,.str a0.form.name,.sl false 1 16 (rows w8 a0.form.words),.sl false 4 72 (rows u5.cells a0.form.subs),.sl false 1 16 (rows w8 a0.words),.sl false 1 16 (rows w8 a0.y5),.sl false 1 16 (rows w8 a0.parts)]]),some (.arr 0 2 0 [[.int .i64 0,.int .i64 0]]),none,some (.arr gt2 1 16 (rows w8 t2))])
       (fun(gt3:Unit) (t3:Unit)=>[(1,.ptr st.length 0 0 0),(2,.ptr (st.length+1) 0 0 0),(11,.sl false 5 80 (rows u6.cells v55))])
       (fun(gt3:Unit) (t3:Unit)=>st++[some (.arr 0 7 0 [[.int .i64 a0.form.kind,.str a0.form.name,.sl false 1 16 (rows w8 a0.form.words),.sl false 4 72 (rows u5.cells a0.form.subs),.sl false 1 16 (rows w8 a0.words),.sl false 1 16 (rows w8 a0.y5),.sl false 1 16 (rows w8 a0.parts)]]),some (.arr 0 2 0 [[.int .i64 0,.int .i64 0]])])
       () h (bm hsc)
       (fun gs3 s3 b3 h hx3=>?_) (fun gt3 t3 fr1 st1 h hb=>?_)
      ·unfold B5 at h
       refine cd h (fun hc h=>?_) fun hc h=>?_
       ·refine r0 ?_
        refine r0 ?_
        obtain⟨fx,h⟩:=ck fx h
        have fy:=(show(rows w8 t2).getD s3.toNat []=w8 (get t2 s3.toNat)from zA (E:=w8) (l:=t2) (k:=s3.toNat) (by first|omega|(simp;omega)))
        have fy:=fa fy (show s3.toNat<t2.length from by first|omega|(simp;omega))
        refine r1 ?_
        obtain⟨v115,hv115,h⟩:=Y8 h
        refine(lM (gb n _ _ hv115)).to ?_
        try simp only[go_sem,fx,fy]
        refine cd h (fun hc h=>?_) fun hc h=>?_
        ·refine ra ?_
         cases h
         refine Y9 ?_;have h:=congrArg some (hx3 _ rfl)
         exact rt
        ·refine rn ?_
         refine B7 (body:=D0 s3 t2) (kk:=F9 n v55 s3 a0 t2) (n:=n) (s0:=0)
          (fun(gs8:Unit) (s8:Int)=>[(1,.ptr st.length 0 0 0),(2,.ptr (st.length+1) 0 0 0),(4,.int .i64 (↑a0.words.length:Int)),(5,.int .i64 (↑a0.y5.length:Int)),(7,.ref false (st.length+3) gt2 0 t2.length),(11,.sl false 5 80 (rows u6.cells v55)),(12,.int .i64 s3),(13,.int .i64 s8)])
          (fun(gs8:Unit) (s8:Int)=>st++[some (.arr 0 7 0 [[.int .i64 a0.form.kind,.str a0.form.name,.sl false 1 16 (rows w8 a0.form.words),.sl false 4 72 (rows u5.cells a0.form.subs),.sl false 1 16 (rows w8 a0.words),.sl false 1 16 (rows w8 a0.y5),.sl false 1 16 (rows w8 a0.parts)]]),some (.arr 0 2 0 [[.int .i64 0,.int .i64 0]]),none,some (.arr gt2 1 16 (rows w8 t2))])
          (fun(gt8:Unit) (t8:Unit)=>[(1,.ptr st.length 0 0 0),(2,.ptr (st.length+1) 0 0 0),(4,.int .i64 (↑a0.words.length:Int)),(5,.int .i64 (↑a0.y5.length:Int)),(7,.ref false (st.length+3) gt2 0 t2.length),(11,.sl false 5 80 (rows u6.cells v55)),(12,.int .i64 s3)])
          (fun(gt8:Unit) (t8:Unit)=>st++[some (.arr 0 7 0 [[.int .i64 a0.form.kind,.str a0.form.name,.sl false 1 16 (rows w8 a0.form.words),.sl false 4 72 (rows u5.cells a0.form.subs),.sl false 1 16 (rows w8 a0.words),.sl false 1 16 (rows w8 a0.y5),.sl false 1 16 (rows w8 a0.parts)]]),some (.arr 0 2 0 [[.int .i64 0,.int .i64 0]]),none,some (.arr gt2 1 16 (rows w8 t2))])
          () h (bm hsc)
          (fun gs8 s8 b8 h hx8=>?_) (fun gt8 t8 fr1 st1 h hb=>?_)
         ·unfold D0 at h
          refine cd h (fun hc h=>?_) fun hc h=>?_
          ·refine rn ?_
           obtain⟨fx,h⟩:=ck fx h
           have fy:=(show(rows w8 t2).getD s8.toNat []=w8 (get t2 s8.toNat)from zA (E:=w8) (l:=t2) (k:=s8.toNat) (by first|omega|(simp;omega)))
           have fy:=fa fy (show s8.toNat<t2.length from by first|omega|(simp;omega))
           have fy:=fa fy (show(rows w8 t2).getD s3.toNat []=w8 (get t2 s3.toNat)from zA (E:=w8) (l:=t2) (k:=s3.toNat) (by first|omega|(simp;omega)))
           have fy:=fa fy (show s3.toNat<t2.length from by first|omega|(simp;omega))
           refine dwy [] 0 ?_
           refine cd h (fun hc h=>?_) fun hc h=>?_
           ·refine ra ?_
            cases h
            refine Y9 ?_;obtain rfl:=hx8 _ rfl;try simp only[go_sem,fx]
            refine Y9 ?_;have h:=congrArg some (hx3 _ rfl)
            exact rt
           ·refine rn ?_
            cases h
            exact F7 () (bm hsc)
          ·refine rn ?_
           cases h
           exact J1 () (bm hsc)
         ·try simp only[go_sem,fx]
          unfold F9 at h
          refine R8 hb ?_
          refine rn ?_
          refine B7 (body:=B4 n v55 s3 a0 t2) (kk:=G0 a0 s3) (n:=n) (s0:=(false,false,0))
           (fun(gs9:Unit) (s9:Bool×Bool×Int)=>[(1,.ptr st.length 0 0 0),(2,.ptr (st.length+1) 0 0 0),(4,.int .i64 (↑a0.words.length:Int)),(5,.int .i64 (↑a0.y5.length:Int)),(7,.ref false (st.length+3) gt2 0 t2.length),(11,.sl false 5 80 (rows u6.cells v55)),(12,.int .i64 s3),(14,.bool s9.1),(15,.bool s9.2.1),(16,.int .i64 s9.2.2)])
           (fun(gs9:Unit) (s9:Bool×Bool×Int)=>st++[some (.arr 0 7 0 [[.int .i64 a0.form.kind,.str a0.form.name,.sl false 1 16 (rows w8 a0.form.words),.sl false 4 72 (rows u5.cells a0.form.subs),.sl false 1 16 (rows w8 a0.words),.sl false 1 16 (rows w8 a0.y5),.sl false 1 16 (rows w8 a0.parts)]]),some (.arr 0 2 0 [[.int .i64 0,.int .i64 0]]),none,some (.arr gt2 1 16 (rows w8 t2))])
           (fun(gt9:Unit) (t9:Bool×Bool)=>[(1,.ptr st.length 0 0 0),(2,.ptr (st.length+1) 0 0 0),(4,.int .i64 (↑a0.words.length:Int)),(5,.int .i64 (↑a0.y5.length:Int)),(7,.ref false (st.length+3) gt2 0 t2.length),(11,.sl false 5 80 (rows u6.cells v55)),(12,.int .i64 s3),(14,.bool t9.1),(15,.bool t9.2)])
           (fun(gt9:Unit) (t9:Bool×Bool)=>st++[some (.arr 0 7 0 [[.int .i64 a0.form.kind,.str a0.form.name,.sl false 1 16 (rows w8 a0.form.words),.sl false 4 72 (rows u5.cells a0.form.subs),.sl false 1 16 (rows w8 a0.words),.sl false 1 16 (rows w8 a0.y5),.sl false 1 16 (rows w8 a0.parts)]]),some (.arr 0 2 0 [[.int .i64 0,.int .i64 0]]),none,some (.arr gt2 1 16 (rows w8 t2))])
           () h (bm hsc)
           (fun gs9 s9 b9 h hx9=>?_) (fun gt9 t9 fr1 st1 h hb=>?_)
          ·unfold B4 at h
           refine cd h (fun hc h=>?_) fun hc h=>?_
           ·refine cd h (fun hc h=>?_) fun hc h=>?_
            ·refine rn ?_
             refine B7 (body:=B1 s9 v55 s3 t2) (kk:=F4 s9) (n:=n) (s0:=(s9.1,0))
              (fun(DS:Unit) (s11:Bool×Int)=>[(1,.ptr st.length 0 0 0),(2,.ptr (st.length+1) 0 0 0),(4,.int .i64 (↑a0.words.length:Int)),(5,.int .i64 (↑a0.y5.length:Int)),(7,.ref false (st.length+3) gt2 0 t2.length),(11,.sl false 5 80 (rows u6.cells v55)),(12,.int .i64 s3),(14,.bool s11.1),(15,.bool s9.2.1),(16,.int .i64 s9.2.2),(17,.int .i64 s11.2)])
              (fun(DS:Unit) (s11:Bool×Int)=>st++[some (.arr 0 7 0 [[.int .i64 a0.form.kind,.str a0.form.name,.sl false 1 16 (rows w8 a0.form.words),.sl false 4 72 (rows u5.cells a0.form.subs),.sl false 1 16 (rows w8 a0.words),.sl false 1 16 (rows w8 a0.y5),.sl false 1 16 (rows w8 a0.parts)]]),some (.arr 0 2 0 [[.int .i64 0,.int .i64 0]]),none,some (.arr gt2 1 16 (rows w8 t2))])
              (fun(FY:Unit) (t11:Bool)=>[(1,.ptr st.length 0 0 0),(2,.ptr (st.length+1) 0 0 0),(4,.int .i64 (↑a0.words.length:Int)),(5,.int .i64 (↑a0.y5.length:Int)),(7,.ref false (st.length+3) gt2 0 t2.length),(11,.sl false 5 80 (rows u6.cells v55)),(12,.int .i64 s3),(14,.bool t11),(15,.bool s9.2.1),(16,.int .i64 s9.2.2)])
              (fun(FY:Unit) (t11:Bool)=>st++[some (.arr 0 7 0 [[.int .i64 a0.form.kind,.str a0.form.name,.sl false 1 16 (rows w8 a0.form.words),.sl false 4 72 (rows u5.cells a0.form.subs),.sl false 1 16 (rows w8 a0.words),.sl false 1 16 (rows w8 a0.y5),.sl false 1 16 (rows w8 a0.parts)]]),some (.arr 0 2 0 [[.int .i64 0,.int .i64 0]]),none,some (.arr gt2 1 16 (rows w8 t2))])
              () h (bm hsc)
              (fun DS s11 b11 h KL=>?_) (fun FY t11 fr1 st1 h hb=>?_)
             ·unfold B1 at h
              obtain⟨fx,h⟩:=ck fx h
              refine cd h (fun hc h=>?_) fun hc h=>?_
              ·refine rn ?_
               obtain⟨fx,h⟩:=ck fx h
               obtain⟨fx,h⟩:=ck fx h
               have fy:=(show(rows w8 t2).getD s3.toNat []=w8 (get t2 s3.toNat)from zA (E:=w8) (l:=t2) (k:=s3.toNat) (by first|omega|(simp;omega)))
               have fy:=fa fy (show s3.toNat<t2.length from by first|omega|(simp;omega))
               obtain⟨fx,h⟩:=ck fx h
               refine dwy [] 0 ?_
               refine rn ?_
               cases h
               exact F7 () (bm hsc)
              ·refine rn ?_
               cases h
               exact J1 () (bm hsc)
             ·try simp only[go_sem,fx]
              unfold F4 at h
              refine R8 hb ?_
              refine rn ?_
              cases h
              exact F7 () (bm hsc)
            ·refine rs ?_
             obtain⟨fx,h⟩:=ck fx h
             obtain⟨fx,h⟩:=ck fx h
             have fy:=(show(rows w8 t2).getD s3.toNat []=w8 (get t2 s3.toNat)from zA (E:=w8) (l:=t2) (k:=s3.toNat) (by first|omega|(simp;omega)))
             have fy:=fa fy (show s3.toNat<t2.length from by first|omega|(simp;omega))
             refine dwy [] 0 ?_
             refine cd h (fun hc h=>?_) fun hc h=>?_
             ·refine rn ?_
              cases h
              exact F7 () (bm hsc)
             ·refine rn ?_
              cases h
              exact F7 () (bm hsc)
           ·refine rn ?_
            cases h
            exact J1 () (bm hsc)
          ·try simp only[go_sem,fx]
           unfold G0 at h
           refine R8 hb ?_
           refine cd h (fun hc h=>?_) fun hc h=>?_
           ·refine ra ?_
            cases h
            refine Y9 ?_;have h:=congrArg some (hx3 _ rfl)
            exact rt
           ·refine cd h (fun hc h=>?_) fun hc h=>?_
            ·refine ra ?_
             cases h
             refine Y9 ?_;have h:=congrArg some (hx3 _ rfl)
             exact rt
            ·refine rn ?_
             cases h
             exact F7 () (bm hsc)
       ·refine rn ?_
        cases h
        exact J1 () (bm hsc)
      ·try simp only[go_sem,fx]
       unfold G4 at h
       refine R8 hb ?_
       refine rn ?_
       refine B7 (body:=B2 n v55 a0) (kk:=M9) (n:=n) (s0:=([],0))
        (fun(uT:Nat) (s12:(List Bs)×Int)=>[(1,.ptr st.length 0 0 0),(2,.ptr (st.length+1) 0 0 0),(11,.sl false 5 80 (rows u6.cells v55)),(18,.ref false (st.length+2) uT 0 s12.1.length),(19,.int .i64 s12.2)])
        (fun(uT:Nat) (s12:(List Bs)×Int)=>st++[some (.arr 0 7 0 [[.int .i64 a0.form.kind,.str a0.form.name,.sl false 1 16 (rows w8 a0.form.words),.sl false 4 72 (rows u5.cells a0.form.subs),.sl false 1 16 (rows w8 a0.words),.sl false 1 16 (rows w8 a0.y5),.sl false 1 16 (rows w8 a0.parts)]]),some (.arr 0 2 0 [[.int .i64 0,.int .i64 0]]),some (.arr uT 1 16 (rows w8 s12.1))])
        (fun(BW:Unit) (t12:Unit)=>[(2,.ptr (st.length+1) 0 0 0)])
        (fun(BW:Unit) (t12:Unit)=>st++[none,some (.arr 0 2 0 [[.int .i64 0,.int .i64 0]])])
        0 h (bm hsc)
        (fun uT s12 b12 h Jp=>?_) (fun BW t12 fr1 st1 h hb=>?_)
       ·unfold B2 at h
        refine cd h (fun hc h=>?_) fun hc h=>?_
        ·obtain⟨fx,h⟩:=ck fx h
         refine cd h (fun hc h=>?_) fun hc h=>?_
         ·refine rs ?_
          refine dw [6] 0 ?_
          obtain⟨v195,hv195,h⟩:=Y8 h
          refine oE [(st.length+2)] (fun st2 h2=>(pJ (eT n _ _ _ hv195 st2 _ uT (by simp) ((h2 _ (by simp)).trans (kU.trans rfl))))) (by simp) (by simp only[List.mem_cons,List.not_mem_nil,or_false,forall_eq_or_imp,forall_eq];exact⟨by first|omega|(simp<;>omega),_,(kU.trans rfl),Ob.noConfusion⟩) (by simp) ?_
          try simp only[go_sem,fx]
          obtain⟨v196,hv196,h⟩:=Y8 h
          refine ec (fun hG=>(lM (eS n _ _ _ (pH hv196 (by simpa using hG))))) ?_
          try simp only[go_sem,fx]
          try refine⟨by first|omega|(simp<;>omega),?_⟩
          refine cd h (fun hc h=>?_) fun hc h=>?_
          ·refine ra ?_
           cases h
           refine Y9 ?_;have h:=congrArg some (Jp _ rfl)
           exact rt
          ·refine r0 ?_
           obtain⟨c198,Gc,h⟩:=iA h
           have fy:=(show rows w8 s12.1++[[.str ((get v55 s12.2.toNat).name)]]=rows w8 c198 from by rw[Gc];first|exact D8 (E:=w8) s12.1 [(get v55 s12.2.toNat).name]|simp only[go_sem,rows,List.map_append,List.map_cons,List.map_nil])
           have fy:=fa fy (show s12.1.length+1=c198.length from by rw[Gc];simp)
           obtain⟨fx,h⟩:=ck fx h
           refine r1 ?_
           refine rn ?_
           cases h
           exact F7 (uT+1) (bm hsc)
         ·refine rn ?_
          cases h
          exact F7 uT (bm hsc)
        ·refine rn ?_
         cases h
         exact J1 () (bm hsc)
       ·try simp only[go_sem,fx]
        unfold M9 at h
        refine R8 hb ?_
        exact rt
end Go.Proofs.YtdjnbjnlnjhllaaDoor
