import Derived.Test.YtfacbpehlibilaaGreatDoorTZWalk5
set_option linter.unusedVariables false
set_option linter.unusedSimpArgs false
set_option maxHeartbeats 2000000
set_option maxRecDepth 100000
namespace Go.Proofs.YtfacbpehlibilaaGreatDoor
open Go Go.Am
theorem qp(n:Nat)(a0:w9)(a1:u5)(r:(List w5)×Bool)(h:eW n a0 a1=some r):Pure Tryz.prog gl 89 [.agg [.int .i64 a0.form.kind,.str a0.form.name,.sl false 1 16 (rows w7 a0.form.words),.sl false 4 72 (rows u5.cells a0.form.subs),.sl false 1 16 (rows w7 a0.words),.sl false 1 16 (rows w7 a0.C4),.sl false 1 16 (rows w7 a0.parts)],.agg [.int .i64 a1.kind,.str a1.name,.sl false 1 16 (rows w7 a1.words),.sl false 4 72 (rows u5.cells a1.subs)]] (.tup [.sl false 6 104 (rows w5.cells r.1),.bool r.2]):=by
 intro st
 unfold eW at h
 have fx:=trivial
 refine fb 83 [.tmp 4,.tmp 5] [0,1,2,3,4,5,6,7,8,9,11,13,14,24,27,28,29,30,47,48,49,50,61,62,63,64,65,72] Tryz.func89 fun hsc=>?_
 refine cl h (oA n _) fun v1 h=>?_
 refine rn ?_
 obtain⟨v2,hv2,h⟩:=P8 h
 refine(pK n _ _ _ _ _ hv2 _ _ (by simp) (jm.trans rfl)).mono ?_
 rintro d1 st1 ⟨rfl,rfl⟩
 refine cd h (fun hc h=>?_) fun hc h=>?_
 ·refine rr ?_
  exact fo (.tup [.sl false 6 104 (rows w5.cells []),.bool false]) (.tup _ _ (.cons _ _ _ _ (.A9 _ _ _ (by decide)) (.cons _ _ _ _ .s .nil)) rfl) h hsc
 ·refine cl h (J8 n _) fun v3 h=>?_
  try simp only[go_sem,fx]
  (repeat apply sq_)
  refine W6 1 16 ?_
  try simp only[List.append_assoc,List.cons_append,List.nil_append]
  refine Q9 (F:=[(6,.mp (st.length+2)),(7,.ptr (st.length+3) 0 0 0),(8,.A9),(9,.ref false (st.length+4) 0 0 0),(27,.sl false 1 16 (rows w7 v3)),(28,.int .i64 (↑v3.length:Int)),(29,.int .i64 0)]) (T:=st++[some (.arr 0 7 0 [[.int .i64 a0.form.kind,.str a0.form.name,.sl false 1 16 (rows w7 a0.form.words),.sl false 4 72 (rows u5.cells a0.form.subs),.sl false 1 16 (rows w7 a0.words),.sl false 1 16 (rows w7 a0.C4),.sl false 1 16 (rows w7 a0.parts)]]),some (.arr 0 4 0 [[.int .i64 a1.kind,.str a1.name,.sl false 1 16 (rows w7 a1.words),.sl false 4 72 (rows u5.cells a1.subs)]]),some (.mps true (mrw w5.cells v2.2)),some (.arr 0 7 0 [[.int .i64 v1.form.kind,.str v1.form.name,.sl false 1 16 (rows w7 v1.form.words),.sl false 4 72 (rows u5.cells v1.form.subs),.sl false 1 16 (rows w7 v1.words),.sl false 1 16 (rows w7 v1.C4),.sl false 1 16 (rows w7 v1.parts)]]),some (.arr 0 1 16 (rows w7 []))]) (BL hsc (.lv (.lv (.lv (.lv (.lv (.nil _)))))) (by simp) ⟨.s,.s,.s,.nref _ _ _ _ _ _ (oD.trans rfl),.s,.s,.s,trivial⟩ (by simp)) ?_
  refine aln 27 fun hl0=>?_
  refine rng (body:=dz v3 v2) (kk:=dD n v1 v2) (n:=v3.length) (s0:=[])
   (fun(gs0:Nat) (k0:Nat) (s0:(List Bs))=>[(6,.mp (st.length+2)),(7,.ptr (st.length+3) 0 0 0),(8,.A9),(9,.ref false (st.length+4) gs0 0 s0.length),(27,.sl false 1 16 (rows w7 v3)),(28,.int .i64 (↑v3.length:Int)),(29,.int .i64 (↑k0:Int))])
   (fun(gs0:Nat) (k0:Nat) (s0:(List Bs))=>st++[none,none,some (.mps true (mrw w5.cells v2.2)),some (.arr 0 7 0 [[.int .i64 v1.form.kind,.str v1.form.name,.sl false 1 16 (rows w7 v1.form.words),.sl false 4 72 (rows u5.cells v1.form.subs),.sl false 1 16 (rows w7 v1.words),.sl false 1 16 (rows w7 v1.C4),.sl false 1 16 (rows w7 v1.parts)]]),some (.arr gs0 1 16 (rows w7 s0))])
   (fun(gt0:Nat) (t0:(List Bs))=>[(6,.mp (st.length+2)),(7,.ptr (st.length+3) 0 0 0),(8,.A9),(9,.ref false (st.length+4) gt0 0 t0.length)])
   (fun(gt0:Nat) (t0:(List Bs))=>st++[none,none,some (.mps true (mrw w5.cells v2.2)),some (.arr 0 7 0 [[.int .i64 v1.form.kind,.str v1.form.name,.sl false 1 16 (rows w7 v1.form.words),.sl false 4 72 (rows u5.cells v1.form.subs),.sl false 1 16 (rows w7 v1.words),.sl false 1 16 (rows w7 v1.C4),.sl false 1 16 (rows w7 v1.parts)]]),some (.arr gt0 1 16 (rows w7 t0))])
   0 fx hl0 h (bm hsc)
   (fun gs0 k0 s0 b0 fx h hx0=>?_) (fun gs0 s0=>?_) (fun gt0 t0 fr1 st1 h hb=>?_)
  ·unfold dz at h
   refine ct ?_
   refine r0 ?_
   refine r0 ?_
   refine r0 ?_
   obtain⟨c11,Pa,h⟩:=gX h
   have fy:=(show rows w7 s0++[[.str (((assoc (get v3 k0) v2.2).getD default).text)]]=rows w7 c11 from by rw[Pa];first|exact E1 (E:=w7) s0 [((assoc (get v3 k0) v2.2).getD default).text]|simp only[go_sem,rows,List.map_append,List.map_cons,List.map_nil])
   have fy:=fa fy (show s0.length+1=c11.length from by rw[Pa];simp)
   obtain⟨fx,h⟩:=ck fx h
   refine r1 ?_
   refine rn ?_
   cases h
   exact eE (gs0+1) (bm hsc)
  ·refine cf ?_
   refine fA ?_;simp only[go_sem,fx]
   exact⟨gs0,(bm hsc)⟩
  ·try simp only[go_sem,fx]
   unfold dD at h
   refine Q9 hb ?_
   refine rs ?_
   refine dw [] 1 ?_
   obtain⟨v16,hv16,h⟩:=P8 h
   refine cj (gD _ _ hv16) ?_
   try simp only[go_sem,fx]
   obtain⟨v17,hv17,h⟩:=P8 h
   refine cj (J8 n _ _ hv17) ?_
   try simp only[go_sem,fx]
   obtain⟨v19,hv19,h⟩:=P8 h
   refine cj (uO _ _ hv19) ?_
   try simp only[go_sem,fx]
   (repeat apply sq_)
   refine W6 6 104 ?_
   try simp only[List.append_assoc,List.cons_append,List.nil_append]
   refine Q9 (F:=[(6,.mp (st.length+2)),(7,.ptr (st.length+3) 0 0 0),(8,.ref false (st.length+6) 0 0 0),(9,.ref false (st.length+4) gt0 0 t0.length),(47,.sl false 1 16 (rows w7 v19)),(48,.int .i64 (↑v19.length:Int)),(49,.int .i64 0)]) (T:=st++[none,none,some (.mps true (mrw w5.cells v2.2)),some (.arr 0 7 0 [[.int .i64 v1.form.kind,.str v1.form.name,.sl false 1 16 (rows w7 v1.form.words),.sl false 4 72 (rows u5.cells v1.form.subs),.sl false 1 16 (rows w7 v1.words),.sl false 1 16 (rows w7 v1.C4),.sl false 1 16 (rows w7 v1.parts)]]),some (.arr gt0 1 16 (rows w7 t0)),none,some (.arr 0 6 104 (rows w5.cells []))]) (BL hsc (.dead _ _ _ (.dead _ _ _ (.lv (.lv (.lv (.dead _ _ _ (.lv (.nil _)))))))) (by simp) ⟨.s,.s,.nref _ _ _ _ _ _ (oD.trans rfl),.s,.s,.s,.s,trivial⟩ (by simp)) ?_
   refine aln 47 fun hl1=>?_
   refine rng (body:=dF n v1 v19 v2 t0) (kk:=dG) (n:=v19.length) (s0:=[])
    (fun(gs1:Nat) (k1:Nat) (s1:(List w5))=>[(6,.mp (st.length+2)),(7,.ptr (st.length+3) 0 0 0),(8,.ref false (st.length+6) gs1 0 s1.length),(9,.ref false (st.length+4) gt0 0 t0.length),(47,.sl false 1 16 (rows w7 v19)),(48,.int .i64 (↑v19.length:Int)),(49,.int .i64 (↑k1:Int))])
    (fun(gs1:Nat) (k1:Nat) (s1:(List w5))=>st++[none,none,some (.mps true (mrw w5.cells v2.2)),some (.arr 0 7 0 [[.int .i64 v1.form.kind,.str v1.form.name,.sl false 1 16 (rows w7 v1.form.words),.sl false 4 72 (rows u5.cells v1.form.subs),.sl false 1 16 (rows w7 v1.words),.sl false 1 16 (rows w7 v1.C4),.sl false 1 16 (rows w7 v1.parts)]]),some (.arr gt0 1 16 (rows w7 t0)),none,some (.arr gs1 6 104 (rows w5.cells s1))])
    (fun(gt1:Nat) (t1:(List w5))=>[(8,.ref false (st.length+6) gt1 0 t1.length)])
    (fun(gt1:Nat) (t1:(List w5))=>st++[none,none,none,none,none,none,some (.arr gt1 6 104 (rows w5.cells t1))])
    0 fx hl1 h (bm hsc)
    (fun gs1 k1 s1 b1 fx h hx1=>?_) (fun gs1 s1=>?_) (fun gt1 t1 fr1 st1 h hb=>?_)
   ·unfold dF at h
    refine ct ?_
    refine cl h (A8 _ _) fun v38 h=>?_
    refine rn ?_
    obtain⟨v39,hv39,h⟩:=P8 h
    refine NH (fun hG=>(fT _ _ _ (qj hv39 (by simpa using hG)) _ _ gt0 (by simp) (jm.trans rfl))) (fun hF=>by obtain rfl:=Ta hv39 (by simpa using hF);simp only[go_sem,fx]) ?_
    refine cd h (fun hc h=>?_) fun hc h=>?_
    ·refine ra ?_
     cases h
     refine L0 ?_;have h:=congrArg some (hx1 _ rfl)
     refine rr ?_
     exact fo (.tup [.sl false 6 104 (rows w5.cells []),.bool false]) (.tup _ _ (.cons _ _ _ _ (.A9 _ _ _ (by decide)) (.cons _ _ _ _ .s .nil)) rfl) h hsc
    ·obtain⟨fx,h⟩:=ck fx h
     refine cl h (A8 _ _) fun v42 h=>?_
     refine cd h (fun hc h=>?_) fun hc h=>?_
     ·refine cl h (tH n _) fun v43 h=>?_
      try simp only[go_sem,fx]
      obtain⟨c45,Sj,h⟩:=gX h
      have fy:=(show rows w5.cells s1++[[.str ((get v19 k1).drop 1),.str (((assoc (get v19 k1) v2.2).getD default).text),.int .i64 v43.kind,.str v43.name,.sl false 1 16 (rows w7 v43.words),.sl false 4 72 (rows u5.cells v43.subs)]]=rows w5.cells c45 from by rw[Sj];first|exact E1 (E:=w5.cells) s1 [(w5.mk ((get v19 k1).drop 1) (((assoc (get v19 k1) v2.2).getD default).text) v43)]|simp only[go_sem,rows,List.map_append,List.map_cons,List.map_nil])
      have fy:=fa fy (show s1.length+1=c45.length from by rw[Sj];simp)
      obtain⟨fx,h⟩:=ck fx h
      refine r1 ?_
      refine rn ?_
      cases h
      exact eE (gs1+1) (bm hsc)
     ·refine r0 ?_
      obtain⟨c51,Sk,h⟩:=gX h
      have fy:=(show rows w5.cells s1++[[.str ((get v19 k1).drop 1),.str (((assoc (get v19 k1) v2.2).getD default).text),.int .i64 (((assoc (get v19 k1) v2.2).getD default).form.kind),.str (((assoc (get v19 k1) v2.2).getD default).form.name),.sl false 1 16 (rows w7 (((assoc (get v19 k1) v2.2).getD default).form.words)),.sl false 4 72 (rows u5.cells (((assoc (get v19 k1) v2.2).getD default).form.subs))]]=rows w5.cells c51 from by rw[Sk];first|exact E1 (E:=w5.cells) s1 [(w5.mk ((get v19 k1).drop 1) (((assoc (get v19 k1) v2.2).getD default).text) (((assoc (get v19 k1) v2.2).getD default).form))]|simp only[go_sem,rows,List.map_append,List.map_cons,List.map_nil])
      have fy:=fa fy (show s1.length+1=c51.length from by rw[Sk];simp)
      obtain⟨fx,h⟩:=ck fx h
      refine r1 ?_
      refine rn ?_
      cases h
      exact eE (gs1+1) (bm hsc)
   ·refine cf ?_
    refine fA ?_;simp only[go_sem,fx]
    exact⟨gs1,(bm hsc)⟩
   ·try simp only[go_sem,fx]
    unfold dG at h
    refine Q9 hb ?_
    refine rr ?_
    exact fo (.tup [.sl false 6 104 (rows w5.cells t1),.bool true]) (.tup _ _ (.cons _ _ _ _ (.ref _ _ _ _ _ _ _ _ _ (oD.trans rfl) DP (by decide) (jS _) (by simp only[go_sem])) (.cons _ _ _ _ .s .nil)) rfl) h hsc
theorem fz(a0:(List w5))(a1:Bs)(r:Bs)(h:N3 a0 a1=some r):Pure Tryz.prog gl 112 [.sl false 6 104 (rows w5.cells a0),.str a1] (.str r):=by
 intro st
 unfold N3 at h
 have fx:=trivial
 refine fb 21 [.tmp 4] [0,1,4,6,7,8,9,10,16] Tryz.func112 fun hsc=>?_
 refine aln 7 fun hl0=>?_
 refine rng (body:=Y6 a0 a1) (kk:=bR a1) (n:=a0.length) (s0:=())
  (fun(gs0:Unit) (k0:Nat) (s0:Unit)=>[(1,.str a1),(7,.sl false 6 104 (rows w5.cells a0)),(8,.int .i64 (↑a0.length:Int)),(9,.int .i64 (↑k0:Int))])
  (fun(gs0:Unit) (k0:Nat) (s0:Unit)=>st)
  (fun(gt0:Unit) (t0:Unit)=>[(1,.str a1)])
  (fun(gt0:Unit) (t0:Unit)=>st)
  () fx hl0 h (nM hsc)
  (fun gs0 k0 s0 b0 fx h hx0=>?_) (fun gs0 s0=>?_) (fun gt0 t0 fr1 st1 h hb=>?_)
 ·unfold Y6 at h
  refine ct ?_
  refine cd h (fun hc h=>?_) fun hc h=>?_
  ·refine ra ?_
   cases h
   refine L0 ?_;have h:=congrArg some (hx0 _ rfl)
   exact rt
  ·refine rn ?_
   cases h
   exact eE () (bm0 hsc)
 ·refine cf ?_
  refine fA ?_;simp only[go_sem,fx]
  exact⟨(),(nM hsc)⟩
 ·try simp only[go_sem,fx]
  unfold bR at h
  refine Q9 hb ?_
  exact rt
theorem pL:∀(n:Nat) (a0:u5) (a1:Bs) (m1:(List (Bs×Bs))) (wQ:Int) (wR:Bs) (wS:(List Bs)) (wT:(List u5)) (wU:(List Bs)) (wV:(List Bs)) (wW:(List Bs)) (r:(List (Bs×Bs))) (h:P7 n a0 a1 m1 wQ wR wS wT wU wV wW=some r),∀(st:St) (o0 o1 o2 o3:Nat) (hnd: [o0,o1,o2,o3].Nodup) (M9:Am.look st o0=some (.arr 0 1 0 [[.mp o1]])) (Z6:Am.look st o1=some (.mps false (mrw w7 m1))) (bY:Am.look st o2=some (.arr 0 7 0 [[.int .i64 wQ,.str wR,.sl false 1 16 (rows w7 wS),.sl false 4 72 (rows u5.cells wT),.sl false 1 16 (rows w7 wU),.sl false 1 16 (rows w7 wV),.sl false 1 16 (rows w7 wW)]])) (jx:Am.look st o3=some (.arr 0 1 0 [[.fn 143 [] [.ptr o0 0 0 0,.ptr o2 0 0 0,.ptr o3 0 0 0]]])),Am.Spec Tryz.prog gl 143 [.agg [.int .i64 a0.kind,.str a0.name,.sl false 1 16 (rows w7 a0.words),.sl false 4 72 (rows u5.cells a0.subs)],.str a1,.ptr o0 0 0 0,.ptr o2 0 0 0,.ptr o3 0 0 0] st (fun d st'=>d= .tup []∧st'=puts st [(o0,(.arr 0 1 0 [[.mp o1]])),(o1,(.mps false (mrw w7 r))),(o2,(.arr 0 7 0 [[.int .i64 wQ,.str wR,.sl false 1 16 (rows w7 wS),.sl false 4 72 (rows u5.cells wT),.sl false 1 16 (rows w7 wU),.sl false 1 16 (rows w7 wV),.sl false 1 16 (rows w7 wW)]])),(o3,(.arr 0 1 0 [[.fn 143 [] [.ptr o0 0 0 0,.ptr o2 0 0 0,.ptr o3 0 0 0]]]))]):=by
 intro n
 induction n with
 |zero=>intro a0 a1 m1 wQ wR wS wT wU wV wW r h;cases h
 |succ n ih=>
  intro a0 a1 m1 wQ wR wS wT wU wV wW r h st o0 o1 o2 o3 hnd M9 Z6 bY jx
  unfold P7 at h
  have ho0:=B3 M9
  have ho1:=B3 Z6
  have ho2:=B3 bY
  have ho3:=B3 jx
  have fx:=fa (fa (fa (fa (idf ho0) (idf ho1)) (idf ho2)) (idf ho3)) (nd4 hnd)
  refine fb 45 [] [0,1,2,3,4,5,8,9,10,21,22,23,24,30,31,32,33] Tryz.func143 fun hsc=>?_
  refine bD (s':=(B8 st [(o0,(.arr 0 1 0 [[.mp o1]])),(o1,(.mps false (mrw w7 m1))),(o2,(.arr 0 7 0 [[.int .i64 wQ,.str wR,.sl false 1 16 (rows w7 wS),.sl false 4 72 (rows u5.cells wT),.sl false 1 16 (rows w7 wU),.sl false 1 16 (rows w7 wV),.sl false 1 16 (rows w7 wW)]])),(o3,(.arr 0 1 0 [[.fn 143 [] [.ptr o0 0 0 0,.ptr o2 0 0 0,.ptr o3 0 0 0]]]))])) (C7 (by simp[M9,Z6,bY,jx])) ?_
  refine rn ?_
  obtain⟨v1,hv1,h⟩:=P8 h
  refine aV (fun hG=>(S0 _ _ _ (qj hv1 (by simpa using hG)))) ?_
  refine rn ?_
  refine eC (aP (P7 n) a1 a0 wQ wR wS wT wU wV wW) r (fun(gj0:Unit) (j0:(List (Bs×Bs)))=>[(1,.str a1),(4,.ptr o3 0 0 0),(5,.ptr st.length 0 0 0)]) (fun(gj0:Unit) (j0:(List (Bs×Bs)))=>(B8 st [(o0,(.arr 0 1 0 [[.mp o1]])),(o1,(.mps false (mrw w7 j0))),(o2,(.arr 0 7 0 [[.int .i64 wQ,.str wR,.sl false 1 16 (rows w7 wS),.sl false 4 72 (rows u5.cells wT),.sl false 1 16 (rows w7 wU),.sl false 1 16 (rows w7 wV),.sl false 1 16 (rows w7 wW)]])),(o3,(.arr 0 1 0 [[.fn 143 [] [.ptr o0 0 0 0,.ptr o2 0 0 0,.ptr o3 0 0 0]]]))])++[some (.arr 0 4 0 [[.int .i64 a0.kind,.str a0.name,.sl false 1 16 (rows w7 a0.words),.sl false 4 72 (rows u5.cells a0.subs)]])]) (fun gj0 j0 fr1 st1 h hb=>?_) (fun hj0=>?_)
  ·try simp only[go_sem,fx]
   unfold aP at h
   refine Q9 hb ?_
   refine aln 30 fun hl1=>?_
   refine rng (body:=fO (P7 n) a1 a0 wQ wR wS wT wU wV wW) (kk:=fP) (n:=a0.subs.length) (s0:=j0)
    (fun(gs1:Unit) (k1:Nat) (s1:(List (Bs×Bs)))=>[(1,.str a1),(4,.ptr o3 0 0 0),(30,.sl false 4 72 (rows u5.cells a0.subs)),(31,.int .i64 (↑a0.subs.length:Int)),(32,.int .i64 (↑k1:Int))])
    (fun(gs1:Unit) (k1:Nat) (s1:(List (Bs×Bs)))=>(B8 st [(o0,(.arr 0 1 0 [[.mp o1]])),(o1,(.mps false (mrw w7 s1))),(o2,(.arr 0 7 0 [[.int .i64 wQ,.str wR,.sl false 1 16 (rows w7 wS),.sl false 4 72 (rows u5.cells wT),.sl false 1 16 (rows w7 wU),.sl false 1 16 (rows w7 wV),.sl false 1 16 (rows w7 wW)]])),(o3,(.arr 0 1 0 [[.fn 143 [] [.ptr o0 0 0 0,.ptr o2 0 0 0,.ptr o3 0 0 0]]]))]))
    (fun(gt1:Unit) (t1:(List (Bs×Bs)))=>[])
    (fun(gt1:Unit) (t1:(List (Bs×Bs)))=>(B8 st [(o0,(.arr 0 1 0 [[.mp o1]])),(o1,(.mps false (mrw w7 t1))),(o2,(.arr 0 7 0 [[.int .i64 wQ,.str wR,.sl false 1 16 (rows w7 wS),.sl false 4 72 (rows u5.cells wT),.sl false 1 16 (rows w7 wU),.sl false 1 16 (rows w7 wV),.sl false 1 16 (rows w7 wW)]])),(o3,(.arr 0 1 0 [[.fn 143 [] [.ptr o0 0 0 0,.ptr o2 0 0 0,.ptr o3 0 0 0]]]))]))
    () fx hl1 h (bu0 hsc)
    (fun gs1 k1 s1 b1 fx h hx1=>?_) (fun gs1 s1=>?_) (fun gt1 t1 fr1 st1 h hb=>?_)
   ·unfold fO at h
    refine ct ?_
    refine rn ?_
    refine dw [6] 0 ?_
    obtain⟨v7,hv7,h⟩:=P8 h
    refine cj (pI _ _ hv7) ?_
    obtain⟨fx,h⟩:=ck fx h
    try simp only[go_sem,fx]
    obtain⟨v9,hv9,h⟩:=P8 h
    refine gO [o0,o1,o2,o3] (fun st2 h2=>(ih _ _ _ _ _ _ _ _ _ _ _ hv9 st2 _ _ _ _ hnd ((h2 _ (by simp)).trans (by simp only[go_sem,fx])) ((h2 _ (by simp)).trans (by simp only[go_sem,fx])) ((h2 _ (by simp)).trans (by simp only[go_sem,fx])) ((h2 _ (by simp)).trans (by simp only[go_sem,fx])))) (by simp) (by simp only[List.mem_cons,List.not_mem_nil,or_false,forall_eq_or_imp,forall_eq];exact⟨⟨by first|omega|(simp<;>omega),_,(by simp only[go_sem,fx]<;>rfl),Ob.noConfusion⟩,⟨by first|omega|(simp<;>omega),_,(by simp only[go_sem,fx]<;>rfl),Ob.noConfusion⟩,⟨by first|omega|(simp<;>omega),_,(by simp only[go_sem,fx]<;>rfl),Ob.noConfusion⟩,⟨by first|omega|(simp<;>omega),_,(by simp only[go_sem,fx]<;>rfl),Ob.noConfusion⟩⟩) (by simp) ?_
    try simp only[go_sem,fx]
    try refine⟨by first|omega|(simp<;>omega),?_⟩
    refine rn ?_
    cases h
    exact eE () (bu0 hsc)
   ·refine cf ?_
    refine fA ?_;simp only[go_sem,fx]
    exact⟨(),(Fh hsc)⟩
   ·try simp only[go_sem,fx]
    unfold fP at h
    refine qE hb ?_
    refine rr ?_
    exact fus (.tup []) (.same _) h hsc
  ·refine cd h (fun hc h=>?_) fun hc h=>?_
   ·obtain⟨c2,hc2,h⟩:=gX h
    have fy:=(show B6 a0.name [.str a1] (mrw w7 m1)=mrw w7 c2 from by rw[hc2];exact jq (κ:=Bs) (E:=w7) a0.name a1 m1)
    refine r1 ?_
    refine hj0 () _ _ _ h ?_;exact(bu hsc)
   ·refine r0 ?_
    refine hj0 () _ _ _ h ?_;exact(bu hsc)
theorem qq(n:Nat)(a0:w9)(r:(List (Bs×Bs)))(h:cF n a0=some r):∀st:St,Am.Spec Tryz.prog gl 113 [.agg [.int .i64 a0.form.kind,.str a0.form.name,.sl false 1 16 (rows w7 a0.form.words),.sl false 4 72 (rows u5.cells a0.form.subs),.sl false 1 16 (rows w7 a0.words),.sl false 1 16 (rows w7 a0.C4),.sl false 1 16 (rows w7 a0.parts)]] st (fun d st'=>d= .mp (st.length+1)∧st'=st++[none,some (.mps false (mrw w7 r))]):=by
 intro st
 unfold cF at h
 have fx:=trivial
 refine fb 12 [.tmp 2] [0,1,2,3,4] Tryz.func113 fun hsc=>?_
 refine rn ?_
 obtain⟨v1,hv1,h⟩:=P8 h
 refine(pL n _ _ _ _ _ _ _ _ _ _ _ hv1 _ _ _ _ _ (by simp) (jm.trans rfl) (jm.trans rfl) (ga.trans rfl) (jm.trans rfl)).mono ?_
 rintro d1 st1 ⟨rfl,rfl⟩
 refine rr ?_
 exact fnw [none,some (.mps false (mrw w7 v1))] (.mp (st.length+1)) (.same _) h hsc
theorem lx(a0:(List w6))(r:Int×Int×Bool)(h:dV a0=some r):Pure Tryz.prog gl 91 [.sl false 6 88 (rows w6.cells a0)] (.tup [.int .i64 r.1,.int .i64 r.2.1,.bool r.2.2]):=by
 intro st
 unfold dV at h
 have fx:=trivial
 refine fb 33 [.tmp 2,.tmp 3,.tmp 4] [0,2,3,4,5,6,8,9,10,11,12,30,31] Tryz.func91 fun hsc=>?_
 refine aln 9 fun hl0=>?_
 refine rng (body:=eU a0) (kk:=eV) (n:=a0.length) (s0:=(1,0))
  (fun(gs0:Unit) (k0:Nat) (s0:Int×Int)=>[(5,.int .i64 s0.1),(6,.int .i64 s0.2),(9,.sl false 6 88 (rows w6.cells a0)),(10,.int .i64 (↑a0.length:Int)),(11,.int .i64 (↑k0:Int))])
  (fun(gs0:Unit) (k0:Nat) (s0:Int×Int)=>st)
  (fun(gt0:Unit) (t0:Int×Int)=>[(5,.int .i64 t0.1),(6,.int .i64 t0.2)])
  (fun(gt0:Unit) (t0:Int×Int)=>st)
  () fx hl0 h (nM hsc)
  (fun gs0 k0 s0 b0 fx h hx0=>?_) (fun gs0 s0=>?_) (fun gt0 t0 fr1 st1 h hb=>?_)
 ·unfold eU at h
  refine ct ?_
  refine rn ?_
  refine dw [] 0 ?_
  refine rn ?_
  cases h
  exact eE () (bm0 hsc)
 ·refine cf ?_
  refine fA ?_;simp only[go_sem,fx]
  exact⟨(),(nM hsc)⟩
 ·try simp only[go_sem,fx]
  unfold eV at h
  refine Q9 hb ?_
  exact rt
set_option maxHeartbeats 30000000 in
set_option maxRecDepth 100000 in
theorem oB(B4:(u5)→(Bs)→((List u6))→(Int)→((List (Bs×Int)))→((List u7))→Option (w6×Bool×Int×(List u7)))(cB:∀(a1:u5) (a2:Bs) (B7:(List u6)) (D7:Int) (m1:(List (Bs×Int))) (l2:(List u7)) (r:w6×Bool×Int×(List u7)) (h:B4 a1 a2 B7 D7 m1 l2=some r),∀(st:St) (o0 o1 o2 q2:Nat) (hnd: [o0,o1,o2].Nodup) (M9:Am.look st o0=some (.arr 0 4 0 [[.sl false 11 216 (rows u6.cells B7),.mp o1,.ref false o2 (q2+l2.length) 0 l2.length,.int .i64 D7]])) (Z6:Am.look st o1=some (.mps false (mrw bX m1))) (bY:Am.look st o2=some (.arr (q2+l2.length) 2 16 (rows u7.cells l2))),Am.Spec Tryz.prog gl 65 [.ptr o0 0 0 0,.agg [.int .i64 a1.kind,.str a1.name,.sl false 1 16 (rows w7 a1.words),.sl false 4 72 (rows u5.cells a1.subs)],.str a2] st (fun d st'=>d= .tup [.agg [.int .i64 r.1.form.kind,.str r.1.form.name,.sl false 1 16 (rows w7 r.1.form.words),.sl false 4 72 (rows u5.cells r.1.form.subs),.int .i64 r.1.nodes,.int .i64 r.1.depth],.bool r.2.1]∧st'=puts st [(o0,(.arr 0 4 0 [[.sl false 11 216 (rows u6.cells B7),.mp o1,.ref false o2 (q2+r.2.2.2.length) 0 r.2.2.2.length,.int .i64 r.2.2.1]])),(o1,(.mps false (mrw bX m1))),(o2,(.arr (q2+r.2.2.2.length) 2 16 (rows u7.cells r.2.2.2)))])):∀(n:Nat) (a0:u5) (a1:(List Bs)) (B7:Int) (M6:Bs) (M7:(List Bs)) (D7:(List u5)) (L3:(List Bs)) (M4:(List Bs)) (M8:(List Bs)) (cQ:Int) (cR:Bs) (cS:(List Bs)) (K0:(List u5)) (m2:(List (Bs×w6))) (Y9:(List w5)) (V6:Int) (aQ:Int) (jL:Int) (lU:(List u6)) (ql:Int) (m9:(List (Bs×Int))) (l10:(List u7)) (cK:Bs) (m13:(List (Bs×Bs))) (m15:(List (Bs×Bs))) (r:w6×Bool×Int×(List u7)×(List (Bs×w6))) (h:J1 B4 n a0 a1 B7 M6 M7 D7 L3 M4 M8 cQ cR cS K0 m2 Y9 V6 aQ jL lU ql m9 l10 cK m13 m15=some r),∀(st:St) (o0 o1 o2 o3 o4 o5 o6 o7 o8 o9 o10 o11 o12 o13 o14 o15 o16 o17 q10:Nat) (hnd: [o0,o1,o2,o3,o4,o5,o6,o7,o8,o9,o10,o11,o12,o13,o14,o15,o16,o17].Nodup) (M9:Am.look st o0=some (.arr 0 11 0 [[.int .i64 B7,.str M6,.sl false 1 16 (rows w7 M7),.sl false 4 72 (rows u5.cells D7),.sl false 1 16 (rows w7 L3),.sl false 1 16 (rows w7 M4),.sl false 1 16 (rows w7 M8),.int .i64 cQ,.str cR,.sl false 1 16 (rows w7 cS),.sl false 4 72 (rows u5.cells K0)]])) (Z6:Am.look st o1=some (.arr 0 1 0 [[.mp o2]])) (bY:Am.look st o2=some (.mps true (mrw w6.cells m2))) (jx:Am.look st o3=some (.arr 0 1 0 [[.sl false 6 104 (rows w5.cells Y9)]])) (ou:Am.look st o4=some (.arr 0 1 0 [[.int .i64 V6]])) (wX:Am.look st o5=some (.arr 0 1 0 [[.int .i64 aQ]])) (Rf:Am.look st o6=some (.arr 0 1 0 [[.int .i64 jL]])) (Rg:Am.look st o7=some (.arr 0 1 0 [[.ptr o8 0 0 0]])) (Rh:Am.look st o8=some (.arr 0 4 0 [[.sl false 11 216 (rows u6.cells lU),.mp o9,.ref false o10 (q10+l10.length) 0 l10.length,.int .i64 ql]])) (Ri:Am.look st o9=some (.mps false (mrw bX m9))) (LG:Am.look st o10=some (.arr (q10+l10.length) 2 16 (rows u7.cells l10))) (LH:Am.look st o11=some (.arr 0 1 0 [[.str cK]])) (LI:Am.look st o12=some (.arr 0 1 0 [[.mp o13]])) (LJ:Am.look st o13=some (.mps false (mrw w7 m13))) (LK:Am.look st o14=some (.arr 0 1 0 [[.mp o15]])) (LL:Am.look st o15=some (.mps false (mrw w7 m15))) (LM:Am.look st o16=some (.arr 0 1 0 [[.fn 112 [] []]])) (LN:Am.look st o17=some (.arr 0 1 0 [[.fn 114 [] [.ptr o0 0 0 0,.ptr o1 0 0 0,.ptr o3 0 0 0,.ptr o4 0 0 0,.ptr o5 0 0 0,.ptr o6 0 0 0,.ptr o7 0 0 0,.ptr o11 0 0 0,.ptr o12 0 0 0,.ptr o14 0 0 0,.ptr o16 0 0 0,.ptr o17 0 0 0]]])),Am.Spec Tryz.prog gl 114 [.agg [.int .i64 a0.kind,.str a0.name,.sl false 1 16 (rows w7 a0.words),.sl false 4 72 (rows u5.cells a0.subs)],.sl false 1 16 (rows w7 a1),.ptr o0 0 0 0,.ptr o1 0 0 0,.ptr o3 0 0 0,.ptr o4 0 0 0,.ptr o5 0 0 0,.ptr o6 0 0 0,.ptr o7 0 0 0,.ptr o11 0 0 0,.ptr o12 0 0 0,.ptr o14 0 0 0,.ptr o16 0 0 0,.ptr o17 0 0 0] st (fun d st'=>d= .tup [.agg [.int .i64 r.1.form.kind,.str r.1.form.name,.sl false 1 16 (rows w7 r.1.form.words),.sl false 4 72 (rows u5.cells r.1.form.subs),.int .i64 r.1.nodes,.int .i64 r.1.depth],.bool r.2.1]∧st'=puts st [(o0,(.arr 0 11 0 [[.int .i64 B7,.str M6,.sl false 1 16 (rows w7 M7),.sl false 4 72 (rows u5.cells D7),.sl false 1 16 (rows w7 L3),.sl false 1 16 (rows w7 M4),.sl false 1 16 (rows w7 M8),.int .i64 cQ,.str cR,.sl false 1 16 (rows w7 cS),.sl false 4 72 (rows u5.cells K0)]])),(o1,(.arr 0 1 0 [[.mp o2]])),(o2,(.mps true (mrw w6.cells r.2.2.2.2))),(o3,(.arr 0 1 0 [[.sl false 6 104 (rows w5.cells Y9)]])),(o4,(.arr 0 1 0 [[.int .i64 V6]])),(o5,(.arr 0 1 0 [[.int .i64 aQ]])),(o6,(.arr 0 1 0 [[.int .i64 jL]])),(o7,(.arr 0 1 0 [[.ptr o8 0 0 0]])),(o8,(.arr 0 4 0 [[.sl false 11 216 (rows u6.cells lU),.mp o9,.ref false o10 (q10+r.2.2.2.1.length) 0 r.2.2.2.1.length,.int .i64 r.2.2.1]])),(o9,(.mps false (mrw bX m9))),(o10,(.arr (q10+r.2.2.2.1.length) 2 16 (rows u7.cells r.2.2.2.1))),(o11,(.arr 0 1 0 [[.str cK]])),(o12,(.arr 0 1 0 [[.mp o13]])),(o13,(.mps false (mrw w7 m13))),(o14,(.arr 0 1 0 [[.mp o15]])),(o15,(.mps false (mrw w7 m15))),(o16,(.arr 0 1 0 [[.fn 112 [] []]])),(o17,(.arr 0 1 0 [[.fn 114 [] [.ptr o0 0 0 0,.ptr o1 0 0 0,.ptr o3 0 0 0,.ptr o4 0 0 0,.ptr o5 0 0 0,.ptr o6 0 0 0,.ptr o7 0 0 0,.ptr o11 0 0 0,.ptr o12 0 0 0,.ptr o14 0 0 0,.ptr o16 0 0 0,.ptr o17 0 0 0]]]))]):=by
 intro n
 induction n with
 |zero=>intro a0 a1 B7 M6 M7 D7 L3 M4 M8 cQ cR cS K0 m2 Y9 V6 aQ jL lU ql m9 l10 cK m13 m15 r h;cases h
 |succ n ih=>
  intro a0 a1 B7 M6 M7 D7 L3 M4 M8 cQ cR cS K0 m2 Y9 V6 aQ jL lU ql m9 l10 cK m13 m15 r h st o0 o1 o2 o3 o4 o5 o6 o7 o8 o9 o10 o11 o12 o13 o14 o15 o16 o17 q10 hnd M9 Z6 bY jx ou wX Rf Rg Rh Ri LG LH LI LJ LK LL LM LN
  unfold J1 at h
  have ho0:=B3 M9
  have ho1:=B3 Z6
  have ho2:=B3 bY
  have ho3:=B3 jx
  have ho4:=B3 ou
  have ho5:=B3 wX
  have ho6:=B3 Rf
  have ho7:=B3 Rg
  have ho8:=B3 Rh
  have ho9:=B3 Ri
  have UP:=B3 LG
  have UQ:=B3 LH
  have UR:=B3 LI
  have UU:=B3 LJ
  have UW:=B3 LK
  have UY:=B3 LL
  have UZ:=B3 LM
  have Va:=B3 LN
  have fx:=fa (Tm hnd ho0 ho1 ho2 ho3 ho4 ho5 ho6 ho7 ho8 ho9 UP UQ UR UU UW UY UZ Va) (nd3 (NP hnd))
  refine fb 188 [.cell 16 102,.tmp 17] [0,1,2,3,4,5,6,7,8,9,10,11,12,13,14,16,17,18,19,21,22,24,25,27,28,29,30,34,42,53,54,55,56,63,91,92,93,94,99,119,134,148,149,150,151,162] Tryz.func114 fun hsc=>?_
  refine bD (s':=(B8 st [(o0,(.arr 0 11 0 [[.int .i64 B7,.str M6,.sl false 1 16 (rows w7 M7),.sl false 4 72 (rows u5.cells D7),.sl false 1 16 (rows w7 L3),.sl false 1 16 (rows w7 M4),.sl false 1 16 (rows w7 M8),.int .i64 cQ,.str cR,.sl false 1 16 (rows w7 cS),.sl false 4 72 (rows u5.cells K0)]])),(o1,(.arr 0 1 0 [[.mp o2]])),(o2,(.mps true (mrw w6.cells m2))),(o3,(.arr 0 1 0 [[.sl false 6 104 (rows w5.cells Y9)]])),(o4,(.arr 0 1 0 [[.int .i64 V6]])),(o5,(.arr 0 1 0 [[.int .i64 aQ]])),(o6,(.arr 0 1 0 [[.int .i64 jL]])),(o7,(.arr 0 1 0 [[.ptr o8 0 0 0]])),(o8,(.arr 0 4 0 [[.sl false 11 216 (rows u6.cells lU),.mp o9,.ref false o10 (q10+l10.length) 0 l10.length,.int .i64 ql]])),(o9,(.mps false (mrw bX m9))),(o10,(.arr (q10+l10.length) 2 16 (rows u7.cells l10))),(o11,(.arr 0 1 0 [[.str cK]])),(o12,(.arr 0 1 0 [[.mp o13]])),(o13,(.mps false (mrw w7 m13))),(o14,(.arr 0 1 0 [[.mp o15]])),(o15,(.mps false (mrw w7 m15))),(o16,(.arr 0 1 0 [[.fn 112 [] []]])),(o17,(.arr 0 1 0 [[.fn 114 [] [.ptr o0 0 0 0,.ptr o1 0 0 0,.ptr o3 0 0 0,.ptr o4 0 0 0,.ptr o5 0 0 0,.ptr o6 0 0 0,.ptr o7 0 0 0,.ptr o11 0 0 0,.ptr o12 0 0 0,.ptr o14 0 0 0,.ptr o16 0 0 0,.ptr o17 0 0 0]]]))])) (C7 (by simp[M9,Z6,bY,jx,ou,wX,Rf,Rg,Rh,Ri,LG,LH,LI,LJ,LK,LL,LM,LN])) ?_
  refine cl h (S0 _ _) fun v1 h=>?_
  refine cd h (fun hc h=>?_) fun hc h=>?_
  ·refine cd h (fun hc h=>?_) fun hc h=>?_
   ·refine rr ?_
    exact fuo (.tup [.agg [.int .i64 (((assoc a0.name m2).getD default).form.kind),.str (((assoc a0.name m2).getD default).form.name),.sl false 1 16 (rows w7 (((assoc a0.name m2).getD default).form.words)),.sl false 4 72 (rows u5.cells (((assoc a0.name m2).getD default).form.subs)),.int .i64 (((assoc a0.name m2).getD default).nodes),.int .i64 (((assoc a0.name m2).getD default).depth)],.bool true]) (.same _) h hsc
   ·obtain⟨fx,h⟩:=ck fx h
    refine aln 53 fun hl0=>?_
    refine rng (body:=eZ B4 Y9 V6 aQ jL a0 cK m13 lU m9) (kk:=fh a0 m2) (n:=((Y9.drop ((wr .i64 (V6+aQ)).toNat)).take ((wr .i64 ((wr .i64 (V6+aQ))+jL)).toNat-(wr .i64 (V6+aQ)).toNat)).length) (s0:=(ql,((assoc a0.name m2).getD default).form.kind,((assoc a0.name m2).getD default).form.name,((assoc a0.name m2).getD default).form.words,((assoc a0.name m2).getD default).form.subs,((assoc a0.name m2).getD default).nodes,((assoc a0.name m2).getD default).depth,l10,(assoc a0.name m2).isSome))
     (fun(gs0:Unit) (k0:Nat) (s0:Int×Int×Bs×(List Bs)×(List u5)×Int×Int×(List u7)×Bool)=>[(3,.ptr o1 0 0 0),(8,.ptr o7 0 0 0),(9,.ptr o11 0 0 0),(10,.ptr o12 0 0 0),(14,.ptr st.length 0 0 0),(16,.ptr (st.length+1) 0 0 0),(18,.ptr (st.length+2) 0 0 0),(19,.bool s0.2.2.2.2.2.2.2.2),(53,.sl false 6 104 (rows w5.cells ((Y9.drop ((wr .i64 (V6+aQ)).toNat)).take ((wr .i64 ((wr .i64 (V6+aQ))+jL)).toNat-(wr .i64 (V6+aQ)).toNat)))),(54,.int .i64 (↑(((Y9.drop ((wr .i64 (V6+aQ)).toNat)).take ((wr .i64 ((wr .i64 (V6+aQ))+jL)).toNat-(wr .i64 (V6+aQ)).toNat)).length):Int)),(55,.int .i64 (↑k0:Int))])
     (fun(gs0:Unit) (k0:Nat) (s0:Int×Int×Bs×(List Bs)×(List u5)×Int×Int×(List u7)×Bool)=>(B8 st [(o0,(.arr 0 11 0 [[.int .i64 B7,.str M6,.sl false 1 16 (rows w7 M7),.sl false 4 72 (rows u5.cells D7),.sl false 1 16 (rows w7 L3),.sl false 1 16 (rows w7 M4),.sl false 1 16 (rows w7 M8),.int .i64 cQ,.str cR,.sl false 1 16 (rows w7 cS),.sl false 4 72 (rows u5.cells K0)]])),(o1,(.arr 0 1 0 [[.mp o2]])),(o2,(.mps true (mrw w6.cells m2))),(o3,(.arr 0 1 0 [[.sl false 6 104 (rows w5.cells Y9)]])),(o4,(.arr 0 1 0 [[.int .i64 V6]])),(o5,(.arr 0 1 0 [[.int .i64 aQ]])),(o6,(.arr 0 1 0 [[.int .i64 jL]])),(o7,(.arr 0 1 0 [[.ptr o8 0 0 0]])),(o8,(.arr 0 4 0 [[.sl false 11 216 (rows u6.cells lU),.mp o9,.ref false o10 (q10+s0.2.2.2.2.2.2.2.1.length) 0 s0.2.2.2.2.2.2.2.1.length,.int .i64 s0.1]])),(o9,(.mps false (mrw bX m9))),(o10,(.arr (q10+s0.2.2.2.2.2.2.2.1.length) 2 16 (rows u7.cells s0.2.2.2.2.2.2.2.1))),(o11,(.arr 0 1 0 [[.str cK]])),(o12,(.arr 0 1 0 [[.mp o13]])),(o13,(.mps false (mrw w7 m13))),(o14,(.arr 0 1 0 [[.mp o15]])),(o15,(.mps false (mrw w7 m15))),(o16,(.arr 0 1 0 [[.fn 112 [] []]])),(o17,(.arr 0 1 0 [[.fn 114 [] [.ptr o0 0 0 0,.ptr o1 0 0 0,.ptr o3 0 0 0,.ptr o4 0 0 0,.ptr o5 0 0 0,.ptr o6 0 0 0,.ptr o7 0 0 0,.ptr o11 0 0 0,.ptr o12 0 0 0,.ptr o14 0 0 0,.ptr o16 0 0 0,.ptr o17 0 0 0]]]))])++[some (.arr 0 4 0 [[.int .i64 a0.kind,.str a0.name,.sl false 1 16 (rows w7 a0.words),.sl false 4 72 (rows u5.cells a0.subs)]]),some (.arr 0 6 0 [[.int .i64 0,.str [],.A9,.A9,.int .i64 0,.int .i64 0]]),some (.arr 0 6 0 [[.int .i64 s0.2.1,.str s0.2.2.1,.sl false 1 16 (rows w7 s0.2.2.2.1),.sl false 4 72 (rows u5.cells s0.2.2.2.2.1),.int .i64 s0.2.2.2.2.2.1,.int .i64 s0.2.2.2.2.2.2.1]])])
     (fun(gt0:Unit) (t0:Int×Int×Bs×(List Bs)×(List u5)×Int×Int×(List u7)×Bool)=>[(3,.ptr o1 0 0 0),(14,.ptr st.length 0 0 0),(16,.ptr (st.length+1) 0 0 0),(18,.ptr (st.length+2) 0 0 0),(19,.bool t0.2.2.2.2.2.2.2.2)])
     (fun(gt0:Unit) (t0:Int×Int×Bs×(List Bs)×(List u5)×Int×Int×(List u7)×Bool)=>(B8 st [(o0,(.arr 0 11 0 [[.int .i64 B7,.str M6,.sl false 1 16 (rows w7 M7),.sl false 4 72 (rows u5.cells D7),.sl false 1 16 (rows w7 L3),.sl false 1 16 (rows w7 M4),.sl false 1 16 (rows w7 M8),.int .i64 cQ,.str cR,.sl false 1 16 (rows w7 cS),.sl false 4 72 (rows u5.cells K0)]])),(o1,(.arr 0 1 0 [[.mp o2]])),(o2,(.mps true (mrw w6.cells m2))),(o3,(.arr 0 1 0 [[.sl false 6 104 (rows w5.cells Y9)]])),(o4,(.arr 0 1 0 [[.int .i64 V6]])),(o5,(.arr 0 1 0 [[.int .i64 aQ]])),(o6,(.arr 0 1 0 [[.int .i64 jL]])),(o7,(.arr 0 1 0 [[.ptr o8 0 0 0]])),(o8,(.arr 0 4 0 [[.sl false 11 216 (rows u6.cells lU),.mp o9,.ref false o10 (q10+t0.2.2.2.2.2.2.2.1.length) 0 t0.2.2.2.2.2.2.2.1.length,.int .i64 t0.1]])),(o9,(.mps false (mrw bX m9))),(o10,(.arr (q10+t0.2.2.2.2.2.2.2.1.length) 2 16 (rows u7.cells t0.2.2.2.2.2.2.2.1))),(o11,(.arr 0 1 0 [[.str cK]])),(o12,(.arr 0 1 0 [[.mp o13]])),(o13,(.mps false (mrw w7 m13))),(o14,(.arr 0 1 0 [[.mp o15]])),(o15,(.mps false (mrw w7 m15))),(o16,(.arr 0 1 0 [[.fn 112 [] []]])),(o17,(.arr 0 1 0 [[.fn 114 [] [.ptr o0 0 0 0,.ptr o1 0 0 0,.ptr o3 0 0 0,.ptr o4 0 0 0,.ptr o5 0 0 0,.ptr o6 0 0 0,.ptr o7 0 0 0,.ptr o11 0 0 0,.ptr o12 0 0 0,.ptr o14 0 0 0,.ptr o16 0 0 0,.ptr o17 0 0 0]]]))])++[some (.arr 0 4 0 [[.int .i64 a0.kind,.str a0.name,.sl false 1 16 (rows w7 a0.words),.sl false 4 72 (rows u5.cells a0.subs)]]),some (.arr 0 6 0 [[.int .i64 0,.str [],.A9,.A9,.int .i64 0,.int .i64 0]]),some (.arr 0 6 0 [[.int .i64 t0.2.1,.str t0.2.2.1,.sl false 1 16 (rows w7 t0.2.2.2.1),.sl false 4 72 (rows u5.cells t0.2.2.2.2.1),.int .i64 t0.2.2.2.2.2.1,.int .i64 t0.2.2.2.2.2.2.1]])])
     () fx hl0 h (bu hsc)
     (fun gs0 k0 s0 b0 fx h hx0=>?_) (fun gs0 s0=>?_) (fun gt0 t0 fr1 st1 h hb=>?_)
    ·unfold eZ at h
     refine ct ?_
     refine cd h (fun hc h=>?_) fun hc h=>?_
     ·obtain⟨fx,h⟩:=ck fx h
      refine rn ?_
      obtain⟨v9,hv9,h⟩:=P8 h
      refine(cB _ _ _ _ _ _ _ hv9 _ o8 o9 o10 q10 (by simp[fx]<;>omega) (by simp only[go_sem,fx]) (by simp only[go_sem,fx]) (by simp only[go_sem,fx])).mono ?_
      rintro d1 st1 ⟨rfl,rfl⟩
      refine rn ?_
      cases h
      exact eE () (bu hsc)
     ·refine rn ?_
      cases h
      exact eE () (bu hsc)
    ·refine cf ?_
     refine fA ?_;simp only[go_sem,fx]
     exact⟨(),(bu hsc)⟩
    ·try simp only[go_sem,fx]
     unfold fh at h
     refine Q9 hb ?_
     obtain⟨c10,He,h⟩:=gX h
     have fy:=(show B6 a0.name [.int .i64 t0.2.1,.str t0.2.2.1,.sl false 1 16 (rows w7 t0.2.2.2.1),.sl false 4 72 (rows u5.cells t0.2.2.2.2.1),.int .i64 t0.2.2.2.2.2.1,.int .i64 t0.2.2.2.2.2.2.1] (mrw w6.cells m2)=mrw w6.cells c10 from by rw[He];exact jq (κ:=Bs) (E:=w6.cells) a0.name (w6.mk (u5.mk t0.2.1 t0.2.2.1 t0.2.2.2.1 t0.2.2.2.2.1) t0.2.2.2.2.2.1 t0.2.2.2.2.2.2.1) m2)
     refine r1 ?_
     refine rr ?_
     exact fuo (.tup [.agg [.int .i64 t0.2.1,.str t0.2.2.1,.sl false 1 16 (rows w7 t0.2.2.2.1),.sl false 4 72 (rows u5.cells t0.2.2.2.2.1),.int .i64 t0.2.2.2.2.2.1,.int .i64 t0.2.2.2.2.2.2.1],.bool t0.2.2.2.2.2.2.2.2]) (.same _) h hsc
  ·refine r0 ?_
   refine r0 ?_
   refine r0 ?_
   (repeat apply sq_)
   refine W6 1 16 ?_
   try simp only[List.append_assoc,List.cons_append,List.nil_append]
   refine Q9 (F:=[(1,.sl false 1 16 (rows w7 a1)),(4,.ptr o3 0 0 0),(5,.ptr o4 0 0 0),(6,.ptr o5 0 0 0),(11,.ptr o14 0 0 0),(12,.ptr o16 0 0 0),(13,.ptr o17 0 0 0),(14,.ptr st.length 0 0 0),(16,.ptr (st.length+1) 0 0 0),(22,.ptr (st.length+2) 0 0 0),(91,.sl false 1 16 (rows w7 a0.words)),(92,.int .i64 (↑a0.words.length:Int)),(93,.int .i64 0)]) (T:=(B8 st [(o0,(.arr 0 11 0 [[.int .i64 B7,.str M6,.sl false 1 16 (rows w7 M7),.sl false 4 72 (rows u5.cells D7),.sl false 1 16 (rows w7 L3),.sl false 1 16 (rows w7 M4),.sl false 1 16 (rows w7 M8),.int .i64 cQ,.str cR,.sl false 1 16 (rows w7 cS),.sl false 4 72 (rows u5.cells K0)]])),(o1,(.arr 0 1 0 [[.mp o2]])),(o2,(.mps true (mrw w6.cells m2))),(o3,(.arr 0 1 0 [[.sl false 6 104 (rows w5.cells Y9)]])),(o4,(.arr 0 1 0 [[.int .i64 V6]])),(o5,(.arr 0 1 0 [[.int .i64 aQ]])),(o6,(.arr 0 1 0 [[.int .i64 jL]])),(o7,(.arr 0 1 0 [[.ptr o8 0 0 0]])),(o8,(.arr 0 4 0 [[.sl false 11 216 (rows u6.cells lU),.mp o9,.ref false o10 (q10+l10.length) 0 l10.length,.int .i64 ql]])),(o9,(.mps false (mrw bX m9))),(o10,(.arr (q10+l10.length) 2 16 (rows u7.cells l10))),(o11,(.arr 0 1 0 [[.str cK]])),(o12,(.arr 0 1 0 [[.mp o13]])),(o13,(.mps false (mrw w7 m13))),(o14,(.arr 0 1 0 [[.mp o15]])),(o15,(.mps false (mrw w7 m15))),(o16,(.arr 0 1 0 [[.fn 112 [] []]])),(o17,(.arr 0 1 0 [[.fn 114 [] [.ptr o0 0 0 0,.ptr o1 0 0 0,.ptr o3 0 0 0,.ptr o4 0 0 0,.ptr o5 0 0 0,.ptr o6 0 0 0,.ptr o7 0 0 0,.ptr o11 0 0 0,.ptr o12 0 0 0,.ptr o14 0 0 0,.ptr o16 0 0 0,.ptr o17 0 0 0]]]))])++[some (.arr 0 4 0 [[.int .i64 a0.kind,.str a0.name,.sl false 1 16 (rows w7 a0.words),.sl false 4 72 (rows u5.cells a0.subs)]]),some (.arr 0 6 0 [[.int .i64 0,.str [],.A9,.A9,.int .i64 0,.int .i64 0]]),some (.arr 0 6 0 [[.int .i64 a0.kind,.str a0.name,.ref false (st.length+3) 0 0 0,.A9,.int .i64 0,.int .i64 0]]),some (.arr 0 1 16 (rows w7 []))]) (eG (by simp) (R6 hsc (by simp<;>omega)) (.lv (.lv (.live _ _ _ _ (.arr _ _ _ _ _ (.cons _ _ _ _ (.cons _ _ _ _ .s (.cons _ _ _ _ .s (.cons _ _ _ _ (.nref _ _ _ _ _ _ (D3.trans rfl)) (.cons _ _ _ _ .s (.cons _ _ _ _ .s (.cons _ _ _ _ .s .nil)))))) (.same _))) (.lv (.nil _))))) (by simp<;>omega) ⟨.s,.s,.s,.s,.s,.s,.s,.s,.s,.s,.s,.s,.s,trivial⟩ (by simp<;>omega)) ?_
   refine aln 91 fun hl1=>?_
   refine rng (body:=Y7 a1 a0 m15 V6 Y9) (kk:=Y8 (J1 B4 n) a0 a1 B7 M6 M7 D7 L3 M4 M8 cQ cR cS K0 Y9 V6 aQ jL lU m9 cK m13 m15 ql l10 m2) (n:=a0.words.length) (s0:=[])
    (fun(gs1:Nat) (k1:Nat) (s1:(List Bs))=>[(1,.sl false 1 16 (rows w7 a1)),(4,.ptr o3 0 0 0),(5,.ptr o4 0 0 0),(6,.ptr o5 0 0 0),(11,.ptr o14 0 0 0),(12,.ptr o16 0 0 0),(13,.ptr o17 0 0 0),(14,.ptr st.length 0 0 0),(16,.ptr (st.length+1) 0 0 0),(22,.ptr (st.length+2) 0 0 0),(91,.sl false 1 16 (rows w7 a0.words)),(92,.int .i64 (↑a0.words.length:Int)),(93,.int .i64 (↑k1:Int))])
    (fun(gs1:Nat) (k1:Nat) (s1:(List Bs))=>(B8 st [(o0,(.arr 0 11 0 [[.int .i64 B7,.str M6,.sl false 1 16 (rows w7 M7),.sl false 4 72 (rows u5.cells D7),.sl false 1 16 (rows w7 L3),.sl false 1 16 (rows w7 M4),.sl false 1 16 (rows w7 M8),.int .i64 cQ,.str cR,.sl false 1 16 (rows w7 cS),.sl false 4 72 (rows u5.cells K0)]])),(o1,(.arr 0 1 0 [[.mp o2]])),(o2,(.mps true (mrw w6.cells m2))),(o3,(.arr 0 1 0 [[.sl false 6 104 (rows w5.cells Y9)]])),(o4,(.arr 0 1 0 [[.int .i64 V6]])),(o5,(.arr 0 1 0 [[.int .i64 aQ]])),(o6,(.arr 0 1 0 [[.int .i64 jL]])),(o7,(.arr 0 1 0 [[.ptr o8 0 0 0]])),(o8,(.arr 0 4 0 [[.sl false 11 216 (rows u6.cells lU),.mp o9,.ref false o10 (q10+l10.length) 0 l10.length,.int .i64 ql]])),(o9,(.mps false (mrw bX m9))),(o10,(.arr (q10+l10.length) 2 16 (rows u7.cells l10))),(o11,(.arr 0 1 0 [[.str cK]])),(o12,(.arr 0 1 0 [[.mp o13]])),(o13,(.mps false (mrw w7 m13))),(o14,(.arr 0 1 0 [[.mp o15]])),(o15,(.mps false (mrw w7 m15))),(o16,(.arr 0 1 0 [[.fn 112 [] []]])),(o17,(.arr 0 1 0 [[.fn 114 [] [.ptr o0 0 0 0,.ptr o1 0 0 0,.ptr o3 0 0 0,.ptr o4 0 0 0,.ptr o5 0 0 0,.ptr o6 0 0 0,.ptr o7 0 0 0,.ptr o11 0 0 0,.ptr o12 0 0 0,.ptr o14 0 0 0,.ptr o16 0 0 0,.ptr o17 0 0 0]]]))])++[some (.arr 0 4 0 [[.int .i64 a0.kind,.str a0.name,.sl false 1 16 (rows w7 a0.words),.sl false 4 72 (rows u5.cells a0.subs)]]),some (.arr 0 6 0 [[.int .i64 0,.str [],.A9,.A9,.int .i64 0,.int .i64 0]]),some (.arr 0 6 0 [[.int .i64 a0.kind,.str a0.name,.ref false (st.length+3) gs1 0 s1.length,.A9,.int .i64 0,.int .i64 0]]),some (.arr gs1 1 16 (rows w7 s1))])
    (fun(gt1:Nat) (t1:(List Bs))=>[(1,.sl false 1 16 (rows w7 a1)),(4,.ptr o3 0 0 0),(5,.ptr o4 0 0 0),(6,.ptr o5 0 0 0),(11,.ptr o14 0 0 0),(12,.ptr o16 0 0 0),(13,.ptr o17 0 0 0),(14,.ptr st.length 0 0 0),(16,.ptr (st.length+1) 0 0 0),(22,.ptr (st.length+2) 0 0 0)])
    (fun(gt1:Nat) (t1:(List Bs))=>(B8 st [(o0,(.arr 0 11 0 [[.int .i64 B7,.str M6,.sl false 1 16 (rows w7 M7),.sl false 4 72 (rows u5.cells D7),.sl false 1 16 (rows w7 L3),.sl false 1 16 (rows w7 M4),.sl false 1 16 (rows w7 M8),.int .i64 cQ,.str cR,.sl false 1 16 (rows w7 cS),.sl false 4 72 (rows u5.cells K0)]])),(o1,(.arr 0 1 0 [[.mp o2]])),(o2,(.mps true (mrw w6.cells m2))),(o3,(.arr 0 1 0 [[.sl false 6 104 (rows w5.cells Y9)]])),(o4,(.arr 0 1 0 [[.int .i64 V6]])),(o5,(.arr 0 1 0 [[.int .i64 aQ]])),(o6,(.arr 0 1 0 [[.int .i64 jL]])),(o7,(.arr 0 1 0 [[.ptr o8 0 0 0]])),(o8,(.arr 0 4 0 [[.sl false 11 216 (rows u6.cells lU),.mp o9,.ref false o10 (q10+l10.length) 0 l10.length,.int .i64 ql]])),(o9,(.mps false (mrw bX m9))),(o10,(.arr (q10+l10.length) 2 16 (rows u7.cells l10))),(o11,(.arr 0 1 0 [[.str cK]])),(o12,(.arr 0 1 0 [[.mp o13]])),(o13,(.mps false (mrw w7 m13))),(o14,(.arr 0 1 0 [[.mp o15]])),(o15,(.mps false (mrw w7 m15))),(o16,(.arr 0 1 0 [[.fn 112 [] []]])),(o17,(.arr 0 1 0 [[.fn 114 [] [.ptr o0 0 0 0,.ptr o1 0 0 0,.ptr o3 0 0 0,.ptr o4 0 0 0,.ptr o5 0 0 0,.ptr o6 0 0 0,.ptr o7 0 0 0,.ptr o11 0 0 0,.ptr o12 0 0 0,.ptr o14 0 0 0,.ptr o16 0 0 0,.ptr o17 0 0 0]]]))])++[some (.arr 0 4 0 [[.int .i64 a0.kind,.str a0.name,.sl false 1 16 (rows w7 a0.words),.sl false 4 72 (rows u5.cells a0.subs)]]),some (.arr 0 6 0 [[.int .i64 0,.str [],.A9,.A9,.int .i64 0,.int .i64 0]]),some (.arr 0 6 0 [[.int .i64 a0.kind,.str a0.name,.ref false (st.length+3) gt1 0 t1.length,.A9,.int .i64 0,.int .i64 0]]),some (.arr gt1 1 16 (rows w7 t1))])
    0 fx hl1 h (bu hsc)
    (fun gs1 k1 s1 b1 fx h hx1=>?_) (fun gs1 s1=>?_) (fun gt1 t1 fr1 st1 h hb=>?_)
   ·unfold Y7 at h
    refine ct ?_
    refine cl h (A8 _ _) fun v28 h=>?_
    refine cd h (fun hc h=>?_) fun hc h=>?_
    ·refine r0 ?_
     obtain⟨c30,Sl,h⟩:=gX h
     have fy:=(show rows w7 s1++[[.str ((assoc (get a0.words k1) m15).getD default)]]=rows w7 c30 from by rw[Sl];first|exact E1 (E:=w7) s1 [((assoc (get a0.words k1) m15).getD default)]|simp only[go_sem,rows,List.map_append,List.map_cons,List.map_nil])
     have fy:=fa fy (show s1.length+1=c30.length from by rw[Sl];simp)
     obtain⟨fx,h⟩:=ck fx h
     refine r1 ?_
     refine rn ?_
     cases h
     exact eE (gs1+1) (bu hsc)
    ·refine rs ?_
     obtain⟨fx,h⟩:=ck fx h
     refine dw [] 0 ?_
     obtain⟨v37,hv37,h⟩:=P8 h
     refine cj (fz _ _ _ hv37) ?_
     try simp only[go_sem,fx]
     obtain⟨c39,OX,h⟩:=gX h
     have fy:=(show rows w7 s1++[[.str v37]]=rows w7 c39 from by rw[OX];first|exact E1 (E:=w7) s1 [v37]|simp only[go_sem,rows,List.map_append,List.map_cons,List.map_nil])
     have fy:=fa fy (show s1.length+1=c39.length from by rw[OX];simp)
     obtain⟨fx,h⟩:=ck fx h
     refine r1 ?_
     refine rn ?_
     cases h
     exact eE (gs1+1) (bu hsc)
   ·refine cf ?_
    refine fA ?_;simp only[go_sem,fx]
    exact⟨gs1,(bu hsc)⟩
   ·try simp only[go_sem,fx]
    unfold Y8 at h
    refine Q9 hb ?_
    refine cl h (E0 _) fun v44 h=>?_
    refine rn ?_
    refine eC (K2 (J1 B4 n) a0 B7 M6 M7 D7 L3 M4 M8 cQ cR cS K0 Y9 V6 aQ jL lU m9 cK m13 m15 ql l10 m2 t1) r (fun(gj2:Unit) (j2:Bs×(List Bs))=>[(1,.sl false 1 16 (rows w7 j2.2)),(13,.ptr o17 0 0 0),(14,.ptr st.length 0 0 0),(16,.ptr (st.length+1) 0 0 0),(22,.ptr (st.length+2) 0 0 0)]) (fun(gj2:Unit) (j2:Bs×(List Bs))=>(B8 st [(o0,(.arr 0 11 0 [[.int .i64 B7,.str M6,.sl false 1 16 (rows w7 M7),.sl false 4 72 (rows u5.cells D7),.sl false 1 16 (rows w7 L3),.sl false 1 16 (rows w7 M4),.sl false 1 16 (rows w7 M8),.int .i64 cQ,.str cR,.sl false 1 16 (rows w7 cS),.sl false 4 72 (rows u5.cells K0)]])),(o1,(.arr 0 1 0 [[.mp o2]])),(o2,(.mps true (mrw w6.cells m2))),(o3,(.arr 0 1 0 [[.sl false 6 104 (rows w5.cells Y9)]])),(o4,(.arr 0 1 0 [[.int .i64 V6]])),(o5,(.arr 0 1 0 [[.int .i64 aQ]])),(o6,(.arr 0 1 0 [[.int .i64 jL]])),(o7,(.arr 0 1 0 [[.ptr o8 0 0 0]])),(o8,(.arr 0 4 0 [[.sl false 11 216 (rows u6.cells lU),.mp o9,.ref false o10 (q10+l10.length) 0 l10.length,.int .i64 ql]])),(o9,(.mps false (mrw bX m9))),(o10,(.arr (q10+l10.length) 2 16 (rows u7.cells l10))),(o11,(.arr 0 1 0 [[.str cK]])),(o12,(.arr 0 1 0 [[.mp o13]])),(o13,(.mps false (mrw w7 m13))),(o14,(.arr 0 1 0 [[.mp o15]])),(o15,(.mps false (mrw w7 m15))),(o16,(.arr 0 1 0 [[.fn 112 [] []]])),(o17,(.arr 0 1 0 [[.fn 114 [] [.ptr o0 0 0 0,.ptr o1 0 0 0,.ptr o3 0 0 0,.ptr o4 0 0 0,.ptr o5 0 0 0,.ptr o6 0 0 0,.ptr o7 0 0 0,.ptr o11 0 0 0,.ptr o12 0 0 0,.ptr o14 0 0 0,.ptr o16 0 0 0,.ptr o17 0 0 0]]]))])++[some (.arr 0 4 0 [[.int .i64 a0.kind,.str a0.name,.sl false 1 16 (rows w7 a0.words),.sl false 4 72 (rows u5.cells a0.subs)]]),some (.arr 0 6 0 [[.int .i64 0,.str [],.A9,.A9,.int .i64 0,.int .i64 0]]),some (.arr 0 6 0 [[.int .i64 a0.kind,.str j2.1,.ref false (st.length+3) gt1 0 t1.length,.A9,.int .i64 0,.int .i64 0]]),some (.arr gt1 1 16 (rows w7 t1))]) (fun gj2 j2 fr1 st1 h hb=>?_) (fun hj2=>?_)
    ·try simp only[go_sem,fx]
     unfold K2 at h
     refine Q9 hb ?_
     refine r0 ?_
     refine r0 ?_
     (repeat apply sq_)
     refine W6 6 88 ?_
     refine W6 4 72 ?_
     try simp only[List.append_assoc,List.cons_append,List.nil_append]
     refine Q9 (F:=[(1,.sl false 1 16 (rows w7 j2.2)),(13,.ptr o17 0 0 0),(16,.ptr (st.length+1) 0 0 0),(22,.ptr (st.length+2) 0 0 0),(25,.ref false (st.length+4) 0 0 0),(148,.sl false 4 72 (rows u5.cells a0.subs)),(149,.int .i64 (↑a0.subs.length:Int)),(150,.int .i64 0)]) (T:=(B8 st [(o0,(.arr 0 11 0 [[.int .i64 B7,.str M6,.sl false 1 16 (rows w7 M7),.sl false 4 72 (rows u5.cells D7),.sl false 1 16 (rows w7 L3),.sl false 1 16 (rows w7 M4),.sl false 1 16 (rows w7 M8),.int .i64 cQ,.str cR,.sl false 1 16 (rows w7 cS),.sl false 4 72 (rows u5.cells K0)]])),(o1,(.arr 0 1 0 [[.mp o2]])),(o2,(.mps true (mrw w6.cells m2))),(o3,(.arr 0 1 0 [[.sl false 6 104 (rows w5.cells Y9)]])),(o4,(.arr 0 1 0 [[.int .i64 V6]])),(o5,(.arr 0 1 0 [[.int .i64 aQ]])),(o6,(.arr 0 1 0 [[.int .i64 jL]])),(o7,(.arr 0 1 0 [[.ptr o8 0 0 0]])),(o8,(.arr 0 4 0 [[.sl false 11 216 (rows u6.cells lU),.mp o9,.ref false o10 (q10+l10.length) 0 l10.length,.int .i64 ql]])),(o9,(.mps false (mrw bX m9))),(o10,(.arr (q10+l10.length) 2 16 (rows u7.cells l10))),(o11,(.arr 0 1 0 [[.str cK]])),(o12,(.arr 0 1 0 [[.mp o13]])),(o13,(.mps false (mrw w7 m13))),(o14,(.arr 0 1 0 [[.mp o15]])),(o15,(.mps false (mrw w7 m15))),(o16,(.arr 0 1 0 [[.fn 112 [] []]])),(o17,(.arr 0 1 0 [[.fn 114 [] [.ptr o0 0 0 0,.ptr o1 0 0 0,.ptr o3 0 0 0,.ptr o4 0 0 0,.ptr o5 0 0 0,.ptr o6 0 0 0,.ptr o7 0 0 0,.ptr o11 0 0 0,.ptr o12 0 0 0,.ptr o14 0 0 0,.ptr o16 0 0 0,.ptr o17 0 0 0]]]))])++[some (.arr 0 4 0 [[.int .i64 a0.kind,.str a0.name,.sl false 1 16 (rows w7 a0.words),.sl false 4 72 (rows u5.cells a0.subs)]]),some (.arr 0 6 0 [[.int .i64 0,.str [],.A9,.A9,.int .i64 0,.int .i64 0]]),some (.arr 0 6 0 [[.int .i64 a0.kind,.str j2.1,.ref false (st.length+3) gt1 0 t1.length,.ref false (st.length+5) 0 0 0,.int .i64 0,.int .i64 0]]),some (.arr gt1 1 16 (rows w7 t1)),some (.arr 0 6 88 (rows w6.cells [])),some (.arr 0 4 72 (rows u5.cells []))]) (eG (by simp) (R6 hsc (by simp<;>omega)) (.lv (.lv (.live _ _ _ _ (.arr _ _ _ _ _ (.cons _ _ _ _ (.cons _ _ _ _ .s (.cons _ _ _ _ .s (.cons _ _ _ _ .s (.cons _ _ _ _ (.nref _ _ _ _ _ _ (D3.trans rfl)) (.cons _ _ _ _ .s (.cons _ _ _ _ .s .nil)))))) (.same _))) (.lv (.lv (.lv (.nil _))))))) (by simp<;>omega) ⟨.s,.s,.s,.s,.nref _ _ _ _ _ _ (D3.trans rfl),.s,.s,.s,trivial⟩ (by simp<;>omega)) ?_
     refine aln 148 fun hl3=>?_
     refine rng (body:=bS (J1 B4 n) a0 j2 B7 M6 M7 D7 L3 M4 M8 cQ cR cS K0 Y9 V6 aQ jL lU m9 cK m13 m15) (kk:=bT a0 j2 t1) (n:=a0.subs.length) (s0:=(ql,l10,m2,[],[]))
      (fun(gs3:Nat×Nat) (k3:Nat) (s3:Int×(List u7)×(List (Bs×w6))×(List w6)×(List u5))=>[(1,.sl false 1 16 (rows w7 j2.2)),(13,.ptr o17 0 0 0),(16,.ptr (st.length+1) 0 0 0),(22,.ptr (st.length+2) 0 0 0),(25,.ref false (st.length+4) gs3.1 0 s3.2.2.2.1.length),(148,.sl false 4 72 (rows u5.cells a0.subs)),(149,.int .i64 (↑a0.subs.length:Int)),(150,.int .i64 (↑k3:Int))])
      (fun(gs3:Nat×Nat) (k3:Nat) (s3:Int×(List u7)×(List (Bs×w6))×(List w6)×(List u5))=>(B8 st [(o0,(.arr 0 11 0 [[.int .i64 B7,.str M6,.sl false 1 16 (rows w7 M7),.sl false 4 72 (rows u5.cells D7),.sl false 1 16 (rows w7 L3),.sl false 1 16 (rows w7 M4),.sl false 1 16 (rows w7 M8),.int .i64 cQ,.str cR,.sl false 1 16 (rows w7 cS),.sl false 4 72 (rows u5.cells K0)]])),(o1,(.arr 0 1 0 [[.mp o2]])),(o2,(.mps true (mrw w6.cells s3.2.2.1))),(o3,(.arr 0 1 0 [[.sl false 6 104 (rows w5.cells Y9)]])),(o4,(.arr 0 1 0 [[.int .i64 V6]])),(o5,(.arr 0 1 0 [[.int .i64 aQ]])),(o6,(.arr 0 1 0 [[.int .i64 jL]])),(o7,(.arr 0 1 0 [[.ptr o8 0 0 0]])),(o8,(.arr 0 4 0 [[.sl false 11 216 (rows u6.cells lU),.mp o9,.ref false o10 (q10+s3.2.1.length) 0 s3.2.1.length,.int .i64 s3.1]])),(o9,(.mps false (mrw bX m9))),(o10,(.arr (q10+s3.2.1.length) 2 16 (rows u7.cells s3.2.1))),(o11,(.arr 0 1 0 [[.str cK]])),(o12,(.arr 0 1 0 [[.mp o13]])),(o13,(.mps false (mrw w7 m13))),(o14,(.arr 0 1 0 [[.mp o15]])),(o15,(.mps false (mrw w7 m15))),(o16,(.arr 0 1 0 [[.fn 112 [] []]])),(o17,(.arr 0 1 0 [[.fn 114 [] [.ptr o0 0 0 0,.ptr o1 0 0 0,.ptr o3 0 0 0,.ptr o4 0 0 0,.ptr o5 0 0 0,.ptr o6 0 0 0,.ptr o7 0 0 0,.ptr o11 0 0 0,.ptr o12 0 0 0,.ptr o14 0 0 0,.ptr o16 0 0 0,.ptr o17 0 0 0]]]))])++[none,some (.arr 0 6 0 [[.int .i64 0,.str [],.A9,.A9,.int .i64 0,.int .i64 0]]),some (.arr 0 6 0 [[.int .i64 a0.kind,.str j2.1,.ref false (st.length+3) gt1 0 t1.length,.ref false (st.length+5) gs3.2 0 s3.2.2.2.2.length,.int .i64 0,.int .i64 0]]),some (.arr gt1 1 16 (rows w7 t1)),some (.arr gs3.1 6 88 (rows w6.cells s3.2.2.2.1)),some (.arr gs3.2 4 72 (rows u5.cells s3.2.2.2.2))])
      (fun(gt3:Nat×Nat) (t3:Int×(List u7)×(List (Bs×w6))×(List w6)×(List u5))=>[(16,.ptr (st.length+1) 0 0 0),(22,.ptr (st.length+2) 0 0 0),(25,.ref false (st.length+4) gt3.1 0 t3.2.2.2.1.length)])
      (fun(gt3:Nat×Nat) (t3:Int×(List u7)×(List (Bs×w6))×(List w6)×(List u5))=>(B8 st [(o0,(.arr 0 11 0 [[.int .i64 B7,.str M6,.sl false 1 16 (rows w7 M7),.sl false 4 72 (rows u5.cells D7),.sl false 1 16 (rows w7 L3),.sl false 1 16 (rows w7 M4),.sl false 1 16 (rows w7 M8),.int .i64 cQ,.str cR,.sl false 1 16 (rows w7 cS),.sl false 4 72 (rows u5.cells K0)]])),(o1,(.arr 0 1 0 [[.mp o2]])),(o2,(.mps true (mrw w6.cells t3.2.2.1))),(o3,(.arr 0 1 0 [[.sl false 6 104 (rows w5.cells Y9)]])),(o4,(.arr 0 1 0 [[.int .i64 V6]])),(o5,(.arr 0 1 0 [[.int .i64 aQ]])),(o6,(.arr 0 1 0 [[.int .i64 jL]])),(o7,(.arr 0 1 0 [[.ptr o8 0 0 0]])),(o8,(.arr 0 4 0 [[.sl false 11 216 (rows u6.cells lU),.mp o9,.ref false o10 (q10+t3.2.1.length) 0 t3.2.1.length,.int .i64 t3.1]])),(o9,(.mps false (mrw bX m9))),(o10,(.arr (q10+t3.2.1.length) 2 16 (rows u7.cells t3.2.1))),(o11,(.arr 0 1 0 [[.str cK]])),(o12,(.arr 0 1 0 [[.mp o13]])),(o13,(.mps false (mrw w7 m13))),(o14,(.arr 0 1 0 [[.mp o15]])),(o15,(.mps false (mrw w7 m15))),(o16,(.arr 0 1 0 [[.fn 112 [] []]])),(o17,(.arr 0 1 0 [[.fn 114 [] [.ptr o0 0 0 0,.ptr o1 0 0 0,.ptr o3 0 0 0,.ptr o4 0 0 0,.ptr o5 0 0 0,.ptr o6 0 0 0,.ptr o7 0 0 0,.ptr o11 0 0 0,.ptr o12 0 0 0,.ptr o14 0 0 0,.ptr o16 0 0 0,.ptr o17 0 0 0]]]))])++[none,some (.arr 0 6 0 [[.int .i64 0,.str [],.A9,.A9,.int .i64 0,.int .i64 0]]),some (.arr 0 6 0 [[.int .i64 a0.kind,.str j2.1,.ref false (st.length+3) gt1 0 t1.length,.ref false (st.length+5) gt3.2 0 t3.2.2.2.2.length,.int .i64 0,.int .i64 0]]),some (.arr gt1 1 16 (rows w7 t1)),some (.arr gt3.1 6 88 (rows w6.cells t3.2.2.2.1)),some (.arr gt3.2 4 72 (rows u5.cells t3.2.2.2.2))])
      (0,0) fx hl3 h (bu hsc)
      (fun gs3 k3 s3 b3 fx h hx3=>?_) (fun gs3 s3=>?_) (fun gt3 t3 fr1 st1 h hb=>?_)
     ·unfold bS at h
      refine ct ?_
      refine rn ?_
      obtain⟨v70,hv70,h⟩:=P8 h
      refine Fo (ih _ _ _ _ _ _ _ _ _ _ _ _ _ _ _ _ _ _ _ _ _ _ _ _ _ _ hv70 _ _ _ _ _ _ _ _ _ _ _ _ _ _ _ _ _ _ _ q10 hnd (by simp only[go_sem,fx]) (by simp only[go_sem,fx]) (by simp only[go_sem,fx]) (by simp only[go_sem,fx]) (by simp only[go_sem,fx]) (by simp only[go_sem,fx]) (by simp only[go_sem,fx]) (by simp only[go_sem,fx]) (by simp only[go_sem,fx]) (by simp only[go_sem,fx]) (by simp only[go_sem,fx]) (by simp only[go_sem,fx]) (by simp only[go_sem,fx]) (by simp only[go_sem,fx]) (by simp only[go_sem,fx]) (by simp only[go_sem,fx]) (by simp only[go_sem,fx]) (by simp only[go_sem,fx])) ?_
      refine cd h (fun hc h=>?_) fun hc h=>?_
      ·refine ra ?_
       cases h
       refine L0 ?_;have h:=congrArg some (hx3 _ rfl)
       refine rr ?_
       exact fuo (.tup [.agg [.int .i64 0,.str [],.sl false 1 16 (rows w7 []),.sl false 4 72 (rows u5.cells []),.int .i64 0,.int .i64 0],.bool false]) (.tup _ _ (.cons _ _ _ _ (.agg _ _ (.cons _ _ _ _ .s (.cons _ _ _ _ .s (.cons _ _ _ _ (.A9 _ _ _ (by decide)) (.cons _ _ _ _ (.A9 _ _ _ (by decide)) (.cons _ _ _ _ .s (.cons _ _ _ _ .s .nil))))))) (.cons _ _ _ _ .s .nil)) rfl) h hsc
      ·refine r0 ?_
       obtain⟨c72,Sm,h⟩:=gX h
       have fy:=(show rows w6.cells s3.2.2.2.1++[[.int .i64 v70.1.form.kind,.str v70.1.form.name,.sl false 1 16 (rows w7 v70.1.form.words),.sl false 4 72 (rows u5.cells v70.1.form.subs),.int .i64 v70.1.nodes,.int .i64 v70.1.depth]]=rows w6.cells c72 from by rw[Sm];first|exact E1 (E:=w6.cells) s3.2.2.2.1 [v70.1]|simp only[go_sem,rows,List.map_append,List.map_cons,List.map_nil])
       have fy:=fa fy (show s3.2.2.2.1.length+1=c72.length from by rw[Sm];simp)
       obtain⟨fx,h⟩:=ck fx h
       refine r1 ?_
       obtain⟨c78,Sn,h⟩:=gX h
       have fy:=(show rows u5.cells s3.2.2.2.2++[[.int .i64 v70.1.form.kind,.str v70.1.form.name,.sl false 1 16 (rows w7 v70.1.form.words),.sl false 4 72 (rows u5.cells v70.1.form.subs)]]=rows u5.cells c78 from by rw[Sn];first|exact E1 (E:=u5.cells) s3.2.2.2.2 [v70.1.form]|simp only[go_sem,rows,List.map_append,List.map_cons,List.map_nil])
       have fy:=fa fy (show s3.2.2.2.2.length+1=c78.length from by rw[Sn];simp)
       obtain⟨fx,h⟩:=ck fx h
       refine r1 ?_
       refine rn ?_
       cases h
       exact eE ((gs3.1+1),(gs3.2+1)) (bu hsc)
     ·refine cf ?_
      refine fA ?_;simp only[go_sem,fx]
      exact⟨(gs3.1,gs3.2),(bu hsc)⟩
     ·try simp only[go_sem,fx]
      unfold bT at h
      refine Q9 hb ?_
      refine rn ?_
      obtain⟨v83,hv83,h⟩:=P8 h
      refine((lx _ _ hv83).borrow (args:=[.ref false (st.length+4) gt3.1 0 t3.2.2.2.1.length]) (.cons _ _ _ _ (.ref _ _ _ _ _ _ _ _ _ (D3.trans rfl) xW (by decide) (jS _) (by simp only[go_sem])) .nil) (by simp) rfl ) ?_
      refine rr ?_
      exact fuo (.tup [.agg [.int .i64 a0.kind,.str j2.1,.sl false 1 16 (rows w7 t1),.sl false 4 72 (rows u5.cells t3.2.2.2.2),.int .i64 v83.1,.int .i64 v83.2.1],.bool v83.2.2]) (.tup _ _ (.cons _ _ _ _ (.agg _ _ (.cons _ _ _ _ .s (.cons _ _ _ _ .s (.cons _ _ _ _ (.ref _ _ _ _ _ _ _ _ _ (D3.trans rfl) W7 (by decide) (jS _) (by simp only[go_sem])) (.cons _ _ _ _ (.ref _ _ _ _ _ _ _ _ _ (D3.trans rfl) W7 (by decide) (jS _) (by simp only[go_sem])) (.cons _ _ _ _ .s (.cons _ _ _ _ .s .nil))))))) (.cons _ _ _ _ .s .nil)) rfl) h hsc
    ·refine cd h (fun hc h=>?_) fun hc h=>?_
     ·refine r0 ?_
      (repeat apply sq_)
      refine W6 1 16 ?_
      try simp only[List.append_assoc,List.cons_append,List.nil_append]
      refine Q9 (F:=[(1,.sl false 1 16 (rows w7 a1)),(13,.ptr o17 0 0 0),(14,.ptr st.length 0 0 0),(16,.ptr (st.length+1) 0 0 0),(22,.ptr (st.length+2) 0 0 0)]) (T:=(B8 st [(o0,(.arr 0 11 0 [[.int .i64 B7,.str M6,.sl false 1 16 (rows w7 M7),.sl false 4 72 (rows u5.cells D7),.sl false 1 16 (rows w7 L3),.sl false 1 16 (rows w7 M4),.sl false 1 16 (rows w7 M8),.int .i64 cQ,.str cR,.sl false 1 16 (rows w7 cS),.sl false 4 72 (rows u5.cells K0)]])),(o1,(.arr 0 1 0 [[.mp o2]])),(o2,(.mps true (mrw w6.cells m2))),(o3,(.arr 0 1 0 [[.sl false 6 104 (rows w5.cells Y9)]])),(o4,(.arr 0 1 0 [[.int .i64 V6]])),(o5,(.arr 0 1 0 [[.int .i64 aQ]])),(o6,(.arr 0 1 0 [[.int .i64 jL]])),(o7,(.arr 0 1 0 [[.ptr o8 0 0 0]])),(o8,(.arr 0 4 0 [[.sl false 11 216 (rows u6.cells lU),.mp o9,.ref false o10 (q10+l10.length) 0 l10.length,.int .i64 ql]])),(o9,(.mps false (mrw bX m9))),(o10,(.arr (q10+l10.length) 2 16 (rows u7.cells l10))),(o11,(.arr 0 1 0 [[.str cK]])),(o12,(.arr 0 1 0 [[.mp o13]])),(o13,(.mps false (mrw w7 m13))),(o14,(.arr 0 1 0 [[.mp o15]])),(o15,(.mps false (mrw w7 m15))),(o16,(.arr 0 1 0 [[.fn 112 [] []]])),(o17,(.arr 0 1 0 [[.fn 114 [] [.ptr o0 0 0 0,.ptr o1 0 0 0,.ptr o3 0 0 0,.ptr o4 0 0 0,.ptr o5 0 0 0,.ptr o6 0 0 0,.ptr o7 0 0 0,.ptr o11 0 0 0,.ptr o12 0 0 0,.ptr o14 0 0 0,.ptr o16 0 0 0,.ptr o17 0 0 0]]]))])++[some (.arr 0 4 0 [[.int .i64 a0.kind,.str a0.name,.sl false 1 16 (rows w7 a0.words),.sl false 4 72 (rows u5.cells a0.subs)]]),some (.arr 0 6 0 [[.int .i64 0,.str [],.A9,.A9,.int .i64 0,.int .i64 0]]),some (.arr 0 6 0 [[.int .i64 a0.kind,.str ((assoc a0.name m15).getD default),.ref false (st.length+3) gt1 0 t1.length,.A9,.int .i64 0,.int .i64 0]]),some (.arr gt1 1 16 (rows w7 t1)),some (.arr 0 1 16 (rows w7 []))]) (eG (by simp) (R6 hsc (by simp<;>omega)) (.lv (.lv (.lv (.lv (.lv (.nil _)))))) (by simp<;>omega) ⟨.s,.s,.s,.s,.s,trivial⟩ (by simp<;>omega)) ?_
      refine rs ?_
      refine dw [1,3] 2 ?_
      obtain⟨v45,hv45,h⟩:=P8 h
      refine gO [(st.length+4)] (fun st2 h2=>(K3 _ _ _ hv45 st2 (st.length+4) 0 (by simp) ((h2 _ (by simp)).trans (D2.trans rfl)))) (by simp) (by simp only[List.mem_cons,List.not_mem_nil,or_false,forall_eq_or_imp,forall_eq];exact⟨by first|omega|(simp<;>omega),_,(D2.trans rfl),Ob.noConfusion⟩) (by simp) ?_
      obtain⟨c47,Sp,h⟩:=gX h
      have fy:=(show rows w7 v45++[[.str a0.name]]=rows w7 c47 from by rw[Sp];first|exact E1 (E:=w7) v45 [a0.name]|simp only[go_sem,rows,List.map_append,List.map_cons,List.map_nil])
      have fy:=fa fy (show v45.length+1=c47.length from by rw[Sp];simp)
      obtain⟨fx,h⟩:=ck fx h
      try simp only[go_sem,fx,fy]
      try refine⟨by first|omega|(simp<;>omega),?_⟩
      refine hj2 () _ _ _ h ?_;exact(bu hsc (hf:=⟨.ref _ _ _ _ _ _ _ _ _ (D3.trans rfl) (fK (by first|decide|simp)) (by decide) (jS _) (by simp only[go_sem]),.s,.s,.s,.s,trivial⟩))
     ·refine cd h (fun hc h=>?_) fun hc h=>?_
      ·refine rs ?_
       obtain⟨fx,h⟩:=ck fx h
       refine dw [] 0 ?_
       obtain⟨v56,hv56,h⟩:=P8 h
       refine cj (fz _ _ _ hv56) ?_
       try simp only[go_sem,fx]
       refine hj2 () _ _ _ h ?_;exact(bu hsc)
      ·refine r0 ?_
       refine hj2 () _ _ _ h ?_;exact(bu hsc)
end Go.Proofs.YtfacbpehlibilaaGreatDoor
