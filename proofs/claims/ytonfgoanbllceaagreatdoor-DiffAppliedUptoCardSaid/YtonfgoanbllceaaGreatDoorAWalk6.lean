import Derived.Test.YtonfgoanbllceaaGreatDoorAWalk5
set_option linter.unusedVariables false
set_option linter.unusedSimpArgs false
set_option maxHeartbeats 2000000
set_option maxRecDepth 100000
namespace Go.Proofs.YtonfgoanbllceaaGreatDoor
open Go Go.Am
theorem bY(a0:(List x5))(a1:(List x5))(r:Bool)(h:G1 a0 a1=some r):Pure Tryz.prog gl 60 [.sl false 2 32 (rows x5.cells a0),.sl false 2 32 (rows x5.cells a1),.fn 61 [] []] (.bool r):=by
 intro st
 unfold G1 at h
 have fx:=trivial
 refine fb 32 [.tmp 6] [0,1,2,6,7,8,9,14,15,16,17,18,30] Tryz.func60 fun hsc=>?_
 refine cd h (fun hc h=>?_) fun hc h=>?_
 ·exact rt
 ·refine aln 15 fun hl0=>?_
  refine rng (body:=I9 a1 a0) (kk:=J0) (n:=a0.length) (s0:=())
   (fun(gs0:Unit) (k0:Nat) (s0:Unit)=>[(1,.sl false 2 32 (rows x5.cells a1)),(2,.fn 61 [] []),(15,.sl false 2 32 (rows x5.cells a0)),(16,.int .i64 (↑a0.length:Int)),(17,.int .i64 (↑k0:Int))])
   (fun(gs0:Unit) (k0:Nat) (s0:Unit)=>st)
   (fun(gt0:Unit) (t0:Unit)=>[])
   (fun(gt0:Unit) (t0:Unit)=>st)
   () fx hl0 h (bW hsc)
   (fun gs0 k0 s0 b0 fx h hx0=>?_) (fun gs0 s0=>?_) (fun gt0 t0 fr1 st1 h hb=>?_)
  ·unfold I9 at h
   refine ct ?_
   obtain⟨fx,h⟩:=ck fx h
   refine cl h (uw _ _) fun v2 h=>?_
   refine cd h (fun hc h=>?_) fun hc h=>?_
   ·refine ra ?_
    cases h
    refine D4 ?_;have h:=congrArg some (hx0 _ rfl)
    exact rt
   ·refine rn ?_
    cases h
    exact aT () (bm0 hsc)
  ·refine cf ?_
   refine X5 ?_;simp only[go_sem,fx]
   exact⟨(),(bW hsc)⟩
  ·try simp only[go_sem,fx]
   unfold J0 at h
   refine K6 hb ?_
   exact rt
theorem jX(a0:y5)(a1:y5)(r:Bool)(h:dB a0 a1=some r):Pure Tryz.prog gl 16 [.agg [.sl false 2 32 (rows x5.cells a0.nodes)],.agg [.sl false 2 32 (rows x5.cells a1.nodes)]] (.bool r):=by
 intro st
 unfold dB at h
 have fx:=trivial
 refine fb 10 [.tmp 4] [0,1,2,3,4] Tryz.func16 fun hsc=>?_
 refine cl h (bY _ _) fun v1 h=>?_
 exact rt
theorem kF(a0:(List D3))(r:(List D3))(h:bV a0=some r):Pure Tryz.prog gl 63 [.sl false 2 16 (rows D3.cells a0)] (.sl false 2 16 (rows D3.cells r)):=by
 intro st
 refine sA ?_
 unfold bV at h
 have hr:=Option.some.inj h
 subst hr
 refine Od (N:=8) (rs:=[.tmp 2]) (keep:=[0,2,4]) Tryz.func63 rfl rfl rfl (by kernel_rfl) rfl fun hsc=>?_
 refine Pg (t:=0) rfl fun hl=>?_
 (repeat apply sq_);apply er_;simp only[go_sem]
 (repeat apply sq_);refine wK rfl ⟨138,by rw[SA]⟩ (by omega) (by omega) fun c hcn=>?_
 simp only[go_sem]
 (repeat apply sq_);refine tv (by rfl) (fun hc=>?_) fun hc=>?_
 ·(repeat apply sq_);apply er_;simp only[go_sem]
  refine He ?_
  try simp only[go_sem]
  have QK:=hcn hc
  rw[QK]
  refine JK ?_;simp only[go_sem]
  exact pq hsc (.B3 _ _ _ (by decide)) (by simp) ⟨rfl,rfl⟩
 ·refine uW ?_;try simp only[go_sem]
  (repeat apply sq_);apply er_;simp only[go_sem]
  simp only[zV]at hl
  refine⟨⟨by omega,by simp only[top]at *; omega⟩,?_⟩
  refine He ?_
  try simp only[go_sem]
  refine JK ?_;simp only[go_sem]
  exact nT hsc (.ref _ _ _ _ _ _ _ _ _ (iC.trans rfl) uX (by decide) (lQ a0) (by simp only[go_sem])) (by simp) ⟨rfl,rfl⟩
theorem gg(a0:y5)(r:y5)(h:aC a0=some r):Pure Tryz.prog gl 17 [.agg [.sl false 2 32 (rows x5.cells a0.nodes)]] (.agg [.sl false 2 32 (rows x5.cells r.nodes)]):=by
 intro st
 unfold aC at h
 have fx:=trivial
 refine fb 27 [.cell 2 30] [0,1,2,3,5,8,9,10,11] Tryz.func17 fun hsc=>?_
 refine r0 ?_
 refine r0 ?_
 refine r0 ?_
 (repeat apply sq_)
 refine cY 2 32 ?_
 try simp only[List.append_assoc,List.cons_append,List.nil_append]
 refine K6 (F:=[(2,.ptr (st.length+1) 0 0 0),(3,.ptr (st.length+2) 0 0 0),(8,.sl false 2 32 (rows x5.cells a0.nodes)),(9,.int .i64 (↑a0.nodes.length:Int)),(10,.int .i64 0)]) (T:=st++[some (.arr 0 1 0 [[.sl false 2 32 (rows x5.cells a0.nodes)]]),some (.arr 0 1 0 [[.B3]]),some (.arr 0 1 0 [[.ref false (st.length+3) 0 0 0]]),some (.arr 0 2 32 (rows x5.cells []))]) (jL hsc (.lv (.lv (.live _ _ _ _ (.arr _ _ _ _ _ (.cons _ _ _ _ (.cons _ _ _ _ (.nref _ _ _ _ _ _ (iC.trans rfl)) .nil) (.same _))) (.lv (.nil _))))) (by simp) ⟨.s,.s,.s,.s,.s,trivial⟩ (by simp)) ?_
 refine aln 8 fun hl0=>?_
 refine rng (body:=jo a0) (kk:=jq) (n:=a0.nodes.length) (s0:=[])
  (fun(gs0:Nat) (k0:Nat) (s0:(List x5))=>[(2,.ptr (st.length+1) 0 0 0),(3,.ptr (st.length+2) 0 0 0),(8,.sl false 2 32 (rows x5.cells a0.nodes)),(9,.int .i64 (↑a0.nodes.length:Int)),(10,.int .i64 (↑k0:Int))])
  (fun(gs0:Nat) (k0:Nat) (s0:(List x5))=>st++[none,some (.arr 0 1 0 [[.B3]]),some (.arr 0 1 0 [[.ref false (st.length+3) gs0 0 s0.length]]),some (.arr gs0 2 32 (rows x5.cells s0))])
  (fun(gt0:Nat) (t0:(List x5))=>[(2,.ptr (st.length+1) 0 0 0),(3,.ptr (st.length+2) 0 0 0)])
  (fun(gt0:Nat) (t0:(List x5))=>st++[none,some (.arr 0 1 0 [[.B3]]),some (.arr 0 1 0 [[.ref false (st.length+3) gt0 0 t0.length]]),some (.arr gt0 2 32 (rows x5.cells t0))])
  0 fx hl0 h (bm hsc)
  (fun gs0 k0 s0 b0 fx h hx0=>?_) (fun gs0 s0=>?_) (fun gt0 t0 fr1 st1 h hb=>?_)
 ·unfold jo at h
  refine ct ?_
  refine rn ?_
  refine dw [] 2 ?_
  obtain⟨v8,hv8,h⟩:=E4 h
  refine A9 (kF _ _ hv8) ?_
  obtain⟨c10,LV,h⟩:=mO h
  have fy:=(show rows x5.cells s0++[[.int .i64 ((get a0.nodes k0).type),.sl false 2 16 (rows D3.cells v8)]]=rows x5.cells c10 from by rw[LV];first|exact N9 (E:=x5.cells) s0 [(x5.mk ((get a0.nodes k0).type) v8)]|simp only[go_sem,rows,List.map_append,List.map_cons,List.map_nil])
  have fy:=fa fy (show s0.length+1=c10.length from by rw[LV];simp)
  obtain⟨fx,h⟩:=ck fx h
  try simp only[go_sem,fx,fy]
  refine rn ?_
  cases h
  exact aT (gs0+1) (bm hsc)
 ·refine cf ?_
  refine X5 ?_;simp only[go_sem,fx]
  exact⟨gs0,(bm hsc)⟩
 ·try simp only[go_sem,fx]
  unfold jq at h
  refine K6 hb ?_
  refine rr ?_
  exact fo (.agg [.sl false 2 32 (rows x5.cells t0)]) (.agg _ _ (.cons _ _ _ _ (.ref _ _ _ _ _ _ _ _ _ (iC.trans rfl) uX (by decide) (lQ _) (by simp only[go_sem])) .nil)) h hsc
theorem Z2(U9:(u0)→(u0)→Option (Bool))(rE:∀(a0:u0) (a1:u0) (r:Bool) (h:U9 a0 a1=some r),Pure Tryz.prog gl 84 [.agg [.str a0.base,.sl false 2 40 (rows u0.cells a0.args)],.agg [.str a1.base,.sl false 2 40 (rows u0.cells a1.args)]] (.bool r))(a0:(List u0))(a1:(List u0))(r:Bool)(h:E5 U9 a0 a1=some r):Pure Tryz.prog gl 107 [.sl false 2 40 (rows u0.cells a0),.sl false 2 40 (rows u0.cells a1),.fn 84 [] []] (.bool r):=by
 intro st
 unfold E5 at h
 have fx:=trivial
 refine fb 32 [.tmp 6] [0,1,2,6,7,8,9,14,15,16,17,18,30] Tryz.func107 fun hsc=>?_
 refine cd h (fun hc h=>?_) fun hc h=>?_
 ·exact rt
 ·refine aln 15 fun hl0=>?_
  refine rng (body:=F8 U9 a1 a0) (kk:=F9) (n:=a0.length) (s0:=())
   (fun(gs0:Unit) (k0:Nat) (s0:Unit)=>[(1,.sl false 2 40 (rows u0.cells a1)),(2,.fn 84 [] []),(15,.sl false 2 40 (rows u0.cells a0)),(16,.int .i64 (↑a0.length:Int)),(17,.int .i64 (↑k0:Int))])
   (fun(gs0:Unit) (k0:Nat) (s0:Unit)=>st)
   (fun(gt0:Unit) (t0:Unit)=>[])
   (fun(gt0:Unit) (t0:Unit)=>st)
   () fx hl0 h (bW hsc)
   (fun gs0 k0 s0 b0 fx h hx0=>?_) (fun gs0 s0=>?_) (fun gt0 t0 fr1 st1 h hb=>?_)
  ·unfold F8 at h
   refine ct ?_
   obtain⟨fx,h⟩:=ck fx h
   refine cl h (rE _ _) fun v2 h=>?_
   refine cd h (fun hc h=>?_) fun hc h=>?_
   ·refine ra ?_
    cases h
    refine D4 ?_;have h:=congrArg some (hx0 _ rfl)
    exact rt
   ·refine rn ?_
    cases h
    exact aT () (bm0 hsc)
  ·refine cf ?_
   refine X5 ?_;simp only[go_sem,fx]
   exact⟨(),(bW hsc)⟩
  ·try simp only[go_sem,fx]
   unfold F9 at h
   refine K6 hb ?_
   exact rt
theorem ux:∀(n:Nat) (a0:u0) (a1:u0) (r:Bool) (h:aB n a0 a1=some r),Pure Tryz.prog gl 84 [.agg [.str a0.base,.sl false 2 40 (rows u0.cells a0.args)],.agg [.str a1.base,.sl false 2 40 (rows u0.cells a1.args)]] (.bool r):=by
 intro n
 induction n with
 |zero=>intro a0 a1 r h;cases h
 |succ n ih=>
  intro a0 a1 r h st
  unfold aB at h
  have fx:=trivial
  refine fb 17 [.tmp 4] [0,1,2,3,4,11,12,13,14,15] Tryz.func84 fun hsc=>?_
  refine rn ?_
  obtain⟨v1,hv1,h⟩:=E4 h
  refine P4 (fun hG=>(Z2 (aB n) ih _ _ _ (kh hv1 (by simpa using hG)))) ?_
  exact rt
theorem bZ(Y6:(w6)→(w6)→Option (Bool))(uy:∀(a0:w6) (a1:w6) (r:Bool) (h:Y6 a0 a1=some r),Pure Tryz.prog gl 64 [.agg [.int .i64 a0.kind,.str a0.name,.int .i64 a0.index,.str a0.type.base,.sl false 2 40 (rows u0.cells a0.type.args),.sl false 6 96 (rows w6.cells a0.args)],.agg [.int .i64 a1.kind,.str a1.name,.int .i64 a1.index,.str a1.type.base,.sl false 2 40 (rows u0.cells a1.type.args),.sl false 6 96 (rows w6.cells a1.args)]] (.bool r))(a0:(List w6))(a1:(List w6))(r:Bool)(h:G2 Y6 a0 a1=some r):Pure Tryz.prog gl 85 [.sl false 6 96 (rows w6.cells a0),.sl false 6 96 (rows w6.cells a1),.fn 64 [] []] (.bool r):=by
 intro st
 unfold G2 at h
 have fx:=trivial
 refine fb 32 [.tmp 6] [0,1,2,6,7,8,9,14,15,16,17,18,30] Tryz.func85 fun hsc=>?_
 refine cd h (fun hc h=>?_) fun hc h=>?_
 ·exact rt
 ·refine aln 15 fun hl0=>?_
  refine rng (body:=J1 Y6 a1 a0) (kk:=J2) (n:=a0.length) (s0:=())
   (fun(gs0:Unit) (k0:Nat) (s0:Unit)=>[(1,.sl false 6 96 (rows w6.cells a1)),(2,.fn 64 [] []),(15,.sl false 6 96 (rows w6.cells a0)),(16,.int .i64 (↑a0.length:Int)),(17,.int .i64 (↑k0:Int))])
   (fun(gs0:Unit) (k0:Nat) (s0:Unit)=>st)
   (fun(gt0:Unit) (t0:Unit)=>[])
   (fun(gt0:Unit) (t0:Unit)=>st)
   () fx hl0 h (bW hsc)
   (fun gs0 k0 s0 b0 fx h hx0=>?_) (fun gs0 s0=>?_) (fun gt0 t0 fr1 st1 h hb=>?_)
  ·unfold J1 at h
   refine ct ?_
   obtain⟨fx,h⟩:=ck fx h
   refine cl h (uy _ _) fun v2 h=>?_
   refine cd h (fun hc h=>?_) fun hc h=>?_
   ·refine ra ?_
    cases h
    refine D4 ?_;have h:=congrArg some (hx0 _ rfl)
    exact rt
   ·refine rn ?_
    cases h
    exact aT () (bm0 hsc)
  ·refine cf ?_
   refine X5 ?_;simp only[go_sem,fx]
   exact⟨(),(bW hsc)⟩
  ·try simp only[go_sem,fx]
   unfold J2 at h
   refine K6 hb ?_
   exact rt
theorem qc:∀(n:Nat) (a0:w6) (a1:w6) (r:Bool) (h:bJ n a0 a1=some r),Pure Tryz.prog gl 64 [.agg [.int .i64 a0.kind,.str a0.name,.int .i64 a0.index,.str a0.type.base,.sl false 2 40 (rows u0.cells a0.type.args),.sl false 6 96 (rows w6.cells a0.args)],.agg [.int .i64 a1.kind,.str a1.name,.int .i64 a1.index,.str a1.type.base,.sl false 2 40 (rows u0.cells a1.type.args),.sl false 6 96 (rows w6.cells a1.args)]] (.bool r):=by
 intro n
 induction n with
 |zero=>intro a0 a1 r h;cases h
 |succ n ih=>
  intro a0 a1 r h st
  unfold bJ at h
  have fx:=trivial
  refine fb 38 [.tmp 4] [0,1,2,3,4,11,12,13,14,15,18,19,20,21,22,25,26,27,28,29,32,33,34,35,36] Tryz.func64 fun hsc=>?_
  refine rn ?_
  obtain⟨v1,hv1,h⟩:=E4 h
  refine P4 (fun hG=>(ux n _ _ _ (kh hv1 (by simpa using hG)))) ?_
  refine rn ?_
  obtain⟨v2,hv2,h⟩:=E4 h
  refine P4 (fun hG=>(bZ (bJ n) ih _ _ _ (kh hv2 (by simpa using hG)))) ?_
  exact rt
theorem lP(n:Nat)(a0:w4)(a1:w4)(r:Bool)(h:R5 n a0 a1=some r):Pure Tryz.prog gl 19 [.agg [.str a0.name,.sl false 2 32 (rows x5.cells a0.graph.nodes),.int .i64 a0.kids,.int .i64 a0.weight,.int .i64 a0.meaning.kind,.str a0.meaning.name,.int .i64 a0.meaning.index,.str a0.meaning.type.base,.sl false 2 40 (rows u0.cells a0.meaning.type.args),.sl false 6 96 (rows w6.cells a0.meaning.args)],.agg [.str a1.name,.sl false 2 32 (rows x5.cells a1.graph.nodes),.int .i64 a1.kids,.int .i64 a1.weight,.int .i64 a1.meaning.kind,.str a1.meaning.name,.int .i64 a1.meaning.index,.str a1.meaning.type.base,.sl false 2 40 (rows u0.cells a1.meaning.type.args),.sl false 6 96 (rows w6.cells a1.meaning.args)]] (.bool r):=by
 intro st
 unfold R5 at h
 have fx:=trivial
 refine fb 38 [.tmp 4] [0,1,2,3,4,11,12,13,14,15,18,19,20,21,22,25,26,27,28,29,32,33,34,35,36] Tryz.func19 fun hsc=>?_
 refine rn ?_
 obtain⟨v1,hv1,h⟩:=E4 h
 refine P4 (fun hG=>(jX _ _ _ (kh hv1 (by simpa using hG)))) ?_
 refine rn ?_
 obtain⟨v2,hv2,h⟩:=E4 h
 refine P4 (fun hG=>(qc n _ _ _ (kh hv2 (by simpa using hG)))) ?_
 exact rt
theorem rF(n:Nat)(a0:(List w4))(a1:(List w4))(r:(List w7))(h:dS n a0 a1=some r):Pure Tryz.prog gl 18 [.sl false 10 152 (rows w4.cells a0),.sl false 10 152 (rows w4.cells a1),.fn 19 [] []] (.sl false 3 40 (rows w7.cells r)):=by
 intro st
 unfold dS at h
 refine Od (N:=229) (rs:=[.tmp 6]) (keep:=[0,1,2,6,7,8,9,10,20,21,22,36,43,78,11,12,13,14,108,109,110,111,112,118,119,120,121,124,125,126,127,128,129,130,131,132,133,134,148,149,150,151,154,155,156,157,158,159,160,161,162,163,164,165,166,167,168,169,170,171,172,173,174,175,176,177,183,184,185,186,187,188,189,190,191,192,193,194,195,196,197,198,199,200,201,202,203,204,205,206]) Tryz.func18 rfl rfl rfl (by kernel_rfl) rfl fun hsc=>?_
 (repeat apply sq_);apply er_;simp only[go_sem]
 obtain⟨v1,hv1,h⟩:=E4 h
 unfold xG at hv1
 obtain⟨⟨ha1,hb1⟩,hv1⟩:=pe hv1
 obtain⟨wg,hv1⟩:=pe hv1
 have hv1:=Option.some.inj hv1
 have hwa:wr .i64 ((↑a0.length:Int)+1)=(↑(a0.length+1):Int):=uJ (by unfold top at ha1;omega)
 have hwb:wr .i64 ((↑a1.length:Int)+1)=(↑(a1.length+1):Int):=uJ (by unfold top at hb1;omega)
 have ha2:a0.length+1≤top:=by omega
 have hb2:a1.length+1≤top:=by omega
 have ha3:a0.length+1≤9223372036854775807:=by unfold top at ha1;omega
 have hb3:a1.length+1≤9223372036854775807:=by unfold top at hb1;omega
 (repeat apply sq_);apply er_;simp only[go_sem,hwa,ha1,ha2]
 obtain⟨zr,hzr⟩:∃z,z=List.replicate (a1.length+1) (0:Int):=⟨_,rfl⟩
 have e0: [D.B3]::List.replicate a0.length [D.B3]=fK st.length (a1.length+1) (a0.length+1) 0:=by rw[wO];rfl
 simp only[e0]
 (repeat apply sq_);apply er_;simp only[go_sem]
 (repeat apply sq_);refine arg_ (ρ:=Unit) (body:=fun _ (s:Unit)=>some (.nxt s)) (kk:=fun s=>some s) (n:=a0.length+1) (s0:=()) (e:=())
  (fun(_:Unit) (k0:Nat) (_:Unit)=>[(0,.sl false 10 152 (rows w4.cells a0)),(1,.sl false 10 152 (rows w4.cells a1)),(2,.fn 19 [] []),(7,.ref true st.length 0 0 (a0.length+1)),(20,.int .i64 (↑(a0.length+1):Int)),(21,.int .i64 (↑k0:Int))])
  (fun(_:Unit) (k0:Nat) (_:Unit)=>st++(some (.arr 0 1 24 (fK st.length (a1.length+1) (a0.length+1) k0))::(zs k0 zr).map inn))
  (fun(_:Unit) (_:Unit)=>[(0,.sl false 10 152 (rows w4.cells a0)),(1,.sl false 10 152 (rows w4.cells a1)),(2,.fn 19 [] []),(7,.ref true st.length 0 0 (a0.length+1))])
  (fun(_:Unit) (_:Unit)=>st++(some (.arr 0 1 24 (fK st.length (a1.length+1) (a0.length+1) (a0.length+1)))::(zs (a0.length+1) zr).map inn))
  () (dO _ _) (hH hsc (by rw[uK];omega) ⟨.s,.s,.s,.s,.s,.s,trivial⟩ (by simp))
  (fun _ k0 _ b0 hk0 hb0 _=>?_) (fun _ _=>?_) (fun _ _ fr1 st1 _ hb=>?_)
 ·cases hb0
  have hw0:wr .i64 ((↑k0:Int)+1)=(↑(k0+1):Int):=wM hk0 ha3
  (repeat apply sq_);apply er_;simp only[go_sem]
  (repeat apply sq_);refine tv (by rfl) (fun hc=>?_) fun hc=>?_
  ·refine uW ?_;try simp only[go_sem]
   (repeat apply sq_);refine yQ ?_
   (repeat apply sq_);apply er_;simp only[go_sem]
   have eo0:(fK st.length (a1.length+1) (a0.length+1) k0).length=a0.length+1:=eF (by omega)
   have eo1:(fK st.length (a1.length+1) (a0.length+1) k0).getD k0 []=[.B3]:=zX (Nat.le_refl _) hk0
   have eo2:(fK st.length (a1.length+1) (a0.length+1) k0).set k0 [.ref true (st.length+(k0+1)) 0 0 (a1.length+1)]=fK st.length (a1.length+1) (a0.length+1) (k0+1):=zW hk0
   have ez: [D.int .i64 0]::List.replicate a1.length [D.int .i64 0]=rows N3 zr:=by rw[hzr];simp[rows,N3,List.replicate_succ]
   (repeat apply sq_);apply er_;simp only[go_sem,hwb,hb1,hb2,List.length_map,uK,eo0,eo1,eo2,hk0,Nat.zero_add,ez,Ie,Ih]
   (repeat apply sq_);apply er_;simp only[go_sem,hw0]
   exact aT () (hH hsc (by rw[uK];omega) ⟨.s,.s,.s,.s,.s,.s,trivial⟩ (by simp))
  ·exfalso;first|exact Bool.noConfusion hc|(have hc:=of_decide_eq_false hc;omega)
 ·(repeat apply sq_);apply er_;simp only[go_sem]
  (repeat apply sq_);refine tv (by rfl) (fun hc=>?_) fun hc=>?_
  ·exfalso;first|exact Bool.noConfusion hc|(have hc:=of_decide_eq_true hc;omega)
  ·refine X5 ?_;simp only[go_sem]
   exact⟨(),hH hsc (by rw[uK];omega) ⟨.s,.s,.s,.s,trivial⟩ (by simp)⟩
 try simp only[go_sem]
 refine K6 hb ?_
 obtain⟨same,hsm⟩:∃f,f=fun x y=>(R5 n x y).getD false:=⟨_,rfl⟩
 rw[←hsm]at hv1
 have ezz:zs (a0.length+1) zr=Lcs.tb a0.length a1.length (Lcs.pf same a0 a1 a0.length 0):=by rw[hzr];exact(Lcs.CK same a0 a1).symm
 simp only[ezz]
 have SE:wr .i64 ((↑a0.length:Int)-1)=↑a0.length-1:=G3 (by omega) (by omega)
 have SF:wr .i64 ((↑a1.length:Int)-1)=↑a1.length-1:=G3 (by omega) (by omega)
 have go:(fK st.length (a1.length+1) (a0.length+1) (a0.length+1)).length=a0.length+1:=eF (Nat.le_refl _)
 (repeat apply sq_);apply er_;simp only[go_sem,SE]
 (repeat apply sq_);refine arg_ (ρ:=Unit) (body:=fun _ (s:Unit)=>some (.nxt s)) (kk:=fun s=>some s) (n:=a0.length) (s0:=()) (e:=())
  (fun(_:Unit) (k1:Nat) (_:Unit)=>[(0,.sl false 10 152 (rows w4.cells a0)),(1,.sl false 10 152 (rows w4.cells a1)),(2,.fn 19 [] []),(7,.ref true st.length 0 0 (a0.length+1)),(9,.int .i64 (↑a0.length-1- ↑k1))])
  (fun(_:Unit) (k1:Nat) (_:Unit)=>st++(some (.arr 0 1 24 (fK st.length (a1.length+1) (a0.length+1) (a0.length+1)))::(Lcs.tb a0.length a1.length (Lcs.pf same a0 a1 (a0.length-k1) 0)).map inn))
  (fun(_:Unit) (_:Unit)=>[(0,.sl false 10 152 (rows w4.cells a0)),(1,.sl false 10 152 (rows w4.cells a1)),(2,.fn 19 [] []),(7,.ref true st.length 0 0 (a0.length+1))])
  (fun(_:Unit) (_:Unit)=>st++(some (.arr 0 1 24 (fK st.length (a1.length+1) (a0.length+1) (a0.length+1)))::(Lcs.tb a0.length a1.length (Lcs.pf same a0 a1 0 0)).map inn))
  () (dO _ _) (hH hsc (by rw[Lcs.iJ];omega) ⟨.s,.s,.s,.s,nU (congrArg (D.int .i64) (by omega)),trivial⟩ (by simp))
  (fun _ k1 _ b1 hk1 hb1 _=>?_) (fun _ _=>?_) (fun _ _ fr2 st2 _ hb2=>?_)
 ·cases hb1
  obtain⟨i,hi⟩:∃i,a0.length=i+1+k1:=⟨a0.length-1-k1,by omega⟩
  have e9:((↑a0.length:Int)-1- ↑k1)=↑i:=by omega
  have eT:a0.length-k1=i+1:=by omega
  have en:Lcs.tb a0.length a1.length (Lcs.pf same a0 a1 (i+1) 0)=Lcs.tb a0.length a1.length (Lcs.pf same a0 a1 i a1.length):=Lcs.CM same a0 a1
  have hwi:wr .i64 ((↑i:Int)+1)=↑(i+1):=uJ (by omega)
  have hwj:wr .i64 ((↑i:Int)-1)=↑i-1:=G3 (by omega) (by omega)
  simp only[e9,eT,en]
  (repeat apply sq_);apply er_;simp only[go_sem]
  (repeat apply sq_);refine tv (by rfl) (fun hc=>?_) fun hc=>?_
  ·refine uW ?_;try simp only[go_sem]
   (repeat apply sq_);refine yQ ?_
   (repeat apply sq_);apply er_;simp only[go_sem,SF]
   (repeat apply sq_);refine arg_ (ρ:=Unit) (body:=fun _ (s:Unit)=>some (.nxt s)) (kk:=fun s=>some s) (n:=a1.length) (s0:=()) (e:=())
    (fun(_:Unit) (k2:Nat) (_:Unit)=>[(0,.sl false 10 152 (rows w4.cells a0)),(1,.sl false 10 152 (rows w4.cells a1)),(2,.fn 19 [] []),(7,.ref true st.length 0 0 (a0.length+1)),(9,.int .i64 ↑i),(10,.int .i64 (↑a1.length-1- ↑k2))])
    (fun(_:Unit) (k2:Nat) (_:Unit)=>st++(some (.arr 0 1 24 (fK st.length (a1.length+1) (a0.length+1) (a0.length+1)))::(Lcs.tb a0.length a1.length (Lcs.pf same a0 a1 i (a1.length-k2))).map inn))
    (fun(_:Unit) (_:Unit)=>[(0,.sl false 10 152 (rows w4.cells a0)),(1,.sl false 10 152 (rows w4.cells a1)),(2,.fn 19 [] []),(7,.ref true st.length 0 0 (a0.length+1)),(9,.int .i64 ↑i)])
    (fun(_:Unit) (_:Unit)=>st++(some (.arr 0 1 24 (fK st.length (a1.length+1) (a0.length+1) (a0.length+1)))::(Lcs.tb a0.length a1.length (Lcs.pf same a0 a1 i 0)).map inn))
    () (dO _ _) (hH hsc (by rw[Lcs.iJ];omega) ⟨.s,.s,.s,.s,.s,nU (congrArg (D.int .i64) (by omega)),trivial⟩ (by simp))
    (fun _ k2 _ b2 hk2 hb2 _=>?_) (fun _ _=>?_) (fun _ _ fr2 st2 _ hb2=>?_)
   ·cases hb2
    obtain⟨k,hk⟩:∃k,a1.length=k+1+k2:=⟨a1.length-1-k2,by omega⟩
    have e10:((↑a1.length:Int)-1- ↑k2)=↑k:=by omega
    have eT2:a1.length-k2=k+1:=by omega
    have hwk:wr .i64 ((↑k:Int)+1)=↑(k+1):=uJ (by omega)
    have hwl:wr .i64 ((↑k:Int)-1)=↑k-1:=G3 (by omega) (by omega)
    simp only[e10,eT2]
    (repeat apply sq_);apply er_;simp only[go_sem]
    (repeat apply sq_);refine tv (by rfl) (fun hc=>?_) fun hc=>?_
    ·refine uW ?_;try simp only[go_sem]
     (repeat apply sq_);refine yQ ?_
     have g1:(fK st.length (a1.length+1) (a0.length+1) (a0.length+1)).getD i []=[.ref true (st.length+(i+1)) 0 0 (a1.length+1)]:=nV (by omega)
     have g2:(fK st.length (a1.length+1) (a0.length+1) (a0.length+1)).getD (i+1) []=[.ref true (st.length+(i+1+1)) 0 0 (a1.length+1)]:=nV (by omega)
     have l1:∀f,Go.Am.look ((Lcs.tb a0.length a1.length f).map inn) i=some (.arr 0 1 8 (rows N3 (pC a1.length f i))):=fun f=>zY (by omega)
     have l2:∀f,Go.Am.look ((Lcs.tb a0.length a1.length f).map inn) (i+1)=some (.arr 0 1 8 (rows N3 (pC a1.length f (i+1)))):=fun f=>zY (by omega)
     have c1:∀f x,(rows N3 (pC a1.length f x)).getD k []=[.int .i64 (f x k)]:=fun f x=>vH (by omega)
     have c2:∀f x,(rows N3 (pC a1.length f x)).getD (k+1) []=[.int .i64 (f x (k+1))]:=fun f x=>vH (by omega)
     have s1:∀f v,((Lcs.tb a0.length a1.length f).map inn).set i (some (.arr 0 1 8 ((rows N3 (pC a1.length f i)).set k [.int .i64 v])))=(Lcs.tb a0.length a1.length (Gb f i k v)).map inn:=fun f v=>Bz (by omega)
     have b1:i<a0.length+1:=by omega
     have b2:i+1<a0.length+1:=by omega
     have b3:k<a1.length+1:=by omega
     have b4:k+1<a1.length+1:=by omega
     (repeat apply sq_);refine Bq [] 0 follows (by kernel_rfl) (by rfl) ?_;simp only[go_sem,List.replicate_succ,List.replicate_zero,hwi,hwk,g1,g2,l1,l2,c1,c2,s1,b1,b2,b3,b4,go,sv,Nat.zero_add,Lcs.Fu,Lcs.Fv]
     have hsa:∃w,R5 n (Am.get a0 i) (Am.get a1 k)=some w:=Option.isSome_iff_exists.1 (List.all_eq_true.1 (List.all_eq_true.1 wg _ (kg (by omega))) _ (kg (by omega)))
     obtain⟨w,hw⟩:=hsa
     have hsw:same a0[i] a1[k]=w:=by
      have ea:Am.get a0 i=a0[i]:=by simp[Am.get,show i<a0.length by omega]
      have eb:Am.get a1 k=a1[k]:=by simp[Am.get,show k<a1.length by omega]
      rw[hsm, ←ea, ←eb]
      show(R5 n (Am.get a0 i) (Am.get a1 k)).getD false=w
      rw[hw];rfl
     have hlc:=Lcs.Ju same a0 a1 (i:=i) (k:=k) (by omega) (by omega)
     rw[hsw]at hlc
     have d1:i<a0.length:=by omega
     have d2:k<a1.length:=by omega
     (repeat apply sq_);refine Bq [] 0 follows (by kernel_rfl) (by rfl) ?_;simp only[go_sem,List.replicate_zero,d1,d2]
     refine A9 (lP n _ _ _ hw) ?_
     try simp only[go_sem,d1,d2]
     have eT4:a1.length-(k2+1)=k:=by omega
     (repeat apply sq_);refine tv (by rfl) (fun hc=>?_) fun hc=>?_
     ·have hc:w=true:=hc
      rw[hc,cond_true]at hlc
      have hC:=Lcs.CJ same a0 a1 (i+1) (k+1)
      have hC2:=Lcs.Qx same a0 a1 (i+1) (k+1)
      have hwc:wr .i64 (Lcs.lc same a0 a1 (i+1) (k+1)+1)=Lcs.lc same a0 a1 (i+1) (k+1)+1:=G3 (by omega) (by omega)
      (repeat apply sq_);refine Bq [] 0 follows (by kernel_rfl) (by rfl) ?_;simp only[go_sem,List.replicate_zero,hwi,hwk,g1,g2,l1,l2,c1,c2,s1,b1,b2,b3,b4,go,sv,Nat.zero_add,Ii,EV,Lcs.Fu,Lcs.Fv,hwc,BA]
      (repeat apply sq_);apply er_;simp only[go_sem,hwl]
      refine aT () ?_
      simp only[eT4,vI d1 hlc.symm]
      exact hH hsc (by rw[Lcs.iJ];omega) ⟨.s,.s,.s,.s,.s,nU (congrArg (D.int .i64) (by omega)),trivial⟩ (by simp)
     ·have hc:w=false:=hc
      rw[hc,cond_false]at hlc
      refine uW ?_;try simp only[go_sem]
      (repeat apply sq_);apply er_;simp only[go_sem,hwl]
      refine aT () ?_
      simp only[eT4,vI d1 hlc.symm]
      exact hH hsc (by rw[Lcs.iJ];omega) ⟨.s,.s,.s,.s,.s,nU (congrArg (D.int .i64) (by omega)),trivial⟩ (by simp)
    ·exfalso;first|exact Bool.noConfusion hc|(have hc:=of_decide_eq_false hc;omega)
   ·(repeat apply sq_);apply er_;simp only[go_sem]
    (repeat apply sq_);refine tv (by rfl) (fun hc=>?_) fun hc=>?_
    ·exfalso;first|exact Bool.noConfusion hc|(have hc:=of_decide_eq_true hc;omega)
    ·refine X5 ?_;simp only[go_sem,Nat.sub_self]
     exact⟨(),hH hsc (by rw[Lcs.iJ];omega) ⟨.s,.s,.s,.s,.s,trivial⟩ (by simp)⟩
   ·try simp only[go_sem]
    refine K6 hb2 ?_
    (repeat apply sq_);apply er_;simp only[go_sem,hwj]
    have eT3:a0.length-(k1+1)=i:=by omega
    refine aT () ?_
    simp only[eT3]
    exact hH hsc (by rw[Lcs.iJ];omega) ⟨.s,.s,.s,.s,nU (congrArg (D.int .i64) (by omega)),trivial⟩ (by simp)
  ·exfalso;first|exact Bool.noConfusion hc|(have hc:=of_decide_eq_false hc;omega)
 ·(repeat apply sq_);apply er_;simp only[go_sem]
  (repeat apply sq_);refine tv (by rfl) (fun hc=>?_) fun hc=>?_
  ·exfalso;first|exact Bool.noConfusion hc|(have hc:=of_decide_eq_true hc;omega)
  ·refine X5 ?_;simp only[go_sem,Nat.sub_self]
   exact⟨(),hH hsc (by rw[Lcs.iJ];omega) ⟨.s,.s,.s,.s,trivial⟩ (by simp)⟩
 try simp only[go_sem]
 refine K6 hb2 ?_
 have SG:Lcs.tb a0.length a1.length (Lcs.pf same a0 a1 0 0)=v1:=(Lcs.Fw same a0 a1).trans hv1
 simp only[SG]
 refine K6 (EU hsc (by rw[←hv1];intro r hr;obtain⟨x,_,rfl⟩:=List.mem_map.1 hr;simp) (by rw[←hv1];exact Lcs.iJ ..) (by simp) (by simp) (by simp)) ?_
 (repeat apply sq_);apply er_;simp only[go_sem]
 (repeat apply sq_);apply er_;simp only[go_sem]
 (repeat apply sq_);refine cY 3 40 ?_
 try simp only[List.append_assoc,List.cons_append,List.nil_append]
 refine K6 (F:=[(0,.sl false 10 152 (rows w4.cells a0)),(1,.sl false 10 152 (rows w4.cells a1)),(2,.fn 19 [] []),(7,.sl false 1 24 (rows (slc 1 8 N3) v1)),(11,.ref false st.length 0 0 0),(12,.int .i64 0),(13,.int .i64 0)]) (T:=st++[some (.arr 0 3 40 (rows w7.cells []))]) (jL hsc (.lv (.nil _)) (by simp) ⟨.s,.s,.s,.s,.nref _ _ _ _ _ _ (lY.trans rfl),.s,.s,trivial⟩ (by simp)) ?_
 (repeat apply sq_);refine H9 (body:=dD n a0 a1 v1) (kk:=gY) (n:=n) (s0:=([],0,0))
  (fun(gs0:Nat) (s0:(List w7)×Int×Int)=>[(0,.sl false 10 152 (rows w4.cells a0)),(1,.sl false 10 152 (rows w4.cells a1)),(2,.fn 19 [] []),(7,.sl false 1 24 (rows (slc 1 8 N3) v1)),(11,.ref false st.length gs0 0 s0.1.length),(12,.int .i64 s0.2.1),(13,.int .i64 s0.2.2)])
  (fun(gs0:Nat) (s0:(List w7)×Int×Int)=>st++[some (.arr gs0 3 40 (rows w7.cells s0.1))])
  (fun(gt0:Nat) (t0:(List w7))=>[(11,.ref false st.length gt0 0 t0.length)])
  (fun(gt0:Nat) (t0:(List w7))=>st++[some (.arr gt0 3 40 (rows w7.cells t0))])
  0 h (jL hsc (.lv (.nil _)) (by simp) ⟨.s,.s,.s,.s,.s,.s,.s,trivial⟩ (by simp))
  (fun gs0 s0 b0 h hx0=>?_) (fun gt0 t0 fr1 st1 h hb=>?_)
 ·unfold dD at h
  (repeat apply sq_);apply er_;simp only[go_sem]
  (repeat apply sq_);refine tv (by rfl) (fun hc=>?_) fun hc=>?_
  ·replace h:=rZ h (by first|exact hc|simpa using hc)
   refine uW ?_;try simp only[go_sem]
   (repeat apply sq_);refine yQ ?_
   (repeat apply sq_);apply er_;simp only[go_sem]
   (repeat apply sq_);refine H9 (body:=aO n a0 a1) (kk:=dF n a0 a1 v1 s0) (n:=n) (s0:=(0,s0.2.1,s0.2.2))
    (fun(gs3:Unit) (s3:Int×Int×Int)=>[(0,.sl false 10 152 (rows w4.cells a0)),(1,.sl false 10 152 (rows w4.cells a1)),(2,.fn 19 [] []),(7,.sl false 1 24 (rows (slc 1 8 N3) v1)),(11,.ref false st.length gs0 0 s0.1.length),(12,.int .i64 s3.2.1),(13,.int .i64 s3.2.2),(14,.ptr (st.length+1) 0 0 0)])
    (fun(gs3:Unit) (s3:Int×Int×Int)=>st++[some (.arr gs0 3 40 (rows w7.cells s0.1)),some (.arr 0 3 0 [[.int .i64 s3.1,.int .i64 0,.B3]])])
    (fun(gt3:Unit) (t3:Int×Int×Int)=>[(0,.sl false 10 152 (rows w4.cells a0)),(1,.sl false 10 152 (rows w4.cells a1)),(2,.fn 19 [] []),(7,.sl false 1 24 (rows (slc 1 8 N3) v1)),(11,.ref false st.length gs0 0 s0.1.length),(12,.int .i64 t3.2.1),(13,.int .i64 t3.2.2),(14,.ptr (st.length+1) 0 0 0)])
    (fun(gt3:Unit) (t3:Int×Int×Int)=>st++[some (.arr gs0 3 40 (rows w7.cells s0.1)),some (.arr 0 3 0 [[.int .i64 t3.1,.int .i64 0,.B3]])])
    () h (jL hsc (.lv (.lv (.nil _))) (by simp) ⟨.s,.s,.s,.s,.s,.s,.s,.s,trivial⟩ (by simp))
    (fun gs3 s3 b3 h hx3=>?_) (fun gt3 t3 fr1 st1 h hb=>?_)
   ·unfold aO at h
    obtain⟨⟨f78,f79⟩,h⟩:=pe h
    obtain⟨⟨f81,f82⟩,h⟩:=pe h
    (repeat apply sq_);refine Bq [] 0 follows (by kernel_rfl) (by rfl) ?_;simp only[go_sem,List.replicate_succ,List.replicate_zero,f78,f79,f81,f82]
    obtain⟨v83,hv83,h⟩:=E4 h
    refine bB (fun hG=>(lP n _ _ _ (kh hv83 (by simpa using hG)))) ?_
    try simp only[go_sem,f78,f79,f81,f82]
    (repeat apply sq_);refine tv (by rfl) (fun hc=>?_) fun hc=>?_
    ·replace h:=rZ h (by first|exact hc|simpa using hc)
     refine uW ?_;try simp only[go_sem,f78,f79,f81,f82]
     (repeat apply sq_);refine yQ ?_
     (repeat apply sq_);apply er_;simp only[go_sem,f78,f79,f81,f82]
     cases h
     exact I6 () (jL hsc (.lv (.lv (.nil _))) (by simp) ⟨.s,.s,.s,.s,.s,.s,.s,.s,trivial⟩ (by simp))
    ·replace h:=sj h (by first|exact hc|simpa using hc)
     (repeat apply sq_);refine X5 ?_;try simp only[go_sem,f78,f79,f81,f82]
     cases h
     exact T2 () (jL hsc (.lv (.lv (.nil _))) (by simp) ⟨.s,.s,.s,.s,.s,.s,.s,.s,trivial⟩ (by simp))
   ·try simp only[go_sem]
    unfold dF at h
    refine K6 hb ?_
    (repeat apply sq_);refine cY 10 152 ?_
    try simp only[List.append_assoc,List.cons_append,List.nil_append]
    refine K6 (F:=[(0,.sl false 10 152 (rows w4.cells a0)),(1,.sl false 10 152 (rows w4.cells a1)),(2,.fn 19 [] []),(7,.sl false 1 24 (rows (slc 1 8 N3) v1)),(11,.ref false st.length gs0 0 s0.1.length),(12,.int .i64 t3.2.1),(13,.int .i64 t3.2.2),(14,.ptr (st.length+1) 0 0 0)]) (T:=st++[some (.arr gs0 3 40 (rows w7.cells s0.1)),some (.arr 0 3 0 [[.int .i64 t3.1,.int .i64 0,.ref false (st.length+2) 0 0 0]]),some (.arr 0 10 152 (rows w4.cells []))]) (jL hsc (.lv (.live _ _ _ _ (.arr _ _ _ _ _ (.cons _ _ _ _ (.cons _ _ _ _ .s (.cons _ _ _ _ .s (.cons _ _ _ _ (.nref _ _ _ _ _ _ (iC.trans rfl)) .nil))) (.same _))) (.lv (.nil _)))) (by simp) ⟨.s,.s,.s,.s,.s,.s,.s,.s,trivial⟩ (by simp)) ?_
    (repeat apply sq_);refine H9 (body:=aP n a0 a1 v1) (kk:=dG s0 t3) (n:=n) (s0:=(0,[],t3.2.1,t3.2.2))
     (fun(gs4:Nat) (s4:Int×(List w4)×Int×Int)=>[(0,.sl false 10 152 (rows w4.cells a0)),(1,.sl false 10 152 (rows w4.cells a1)),(2,.fn 19 [] []),(7,.sl false 1 24 (rows (slc 1 8 N3) v1)),(11,.ref false st.length gs0 0 s0.1.length),(12,.int .i64 s4.2.2.1),(13,.int .i64 s4.2.2.2),(14,.ptr (st.length+1) 0 0 0)])
     (fun(gs4:Nat) (s4:Int×(List w4)×Int×Int)=>st++[some (.arr gs0 3 40 (rows w7.cells s0.1)),some (.arr 0 3 0 [[.int .i64 t3.1,.int .i64 s4.1,.ref false (st.length+2) gs4 0 s4.2.1.length]]),some (.arr gs4 10 152 (rows w4.cells s4.2.1))])
     (fun(gt4:Nat) (t4:Int×(List w4)×Int×Int)=>[(0,.sl false 10 152 (rows w4.cells a0)),(1,.sl false 10 152 (rows w4.cells a1)),(2,.fn 19 [] []),(7,.sl false 1 24 (rows (slc 1 8 N3) v1)),(11,.ref false st.length gs0 0 s0.1.length),(12,.int .i64 t4.2.2.1),(13,.int .i64 t4.2.2.2),(14,.ptr (st.length+1) 0 0 0)])
     (fun(gt4:Nat) (t4:Int×(List w4)×Int×Int)=>st++[some (.arr gs0 3 40 (rows w7.cells s0.1)),some (.arr 0 3 0 [[.int .i64 t3.1,.int .i64 t4.1,.ref false (st.length+2) gt4 0 t4.2.1.length]]),some (.arr gt4 10 152 (rows w4.cells t4.2.1))])
     0 h (jL hsc (.lv (.lv (.lv (.nil _)))) (by simp) ⟨.s,.s,.s,.s,.s,.s,.s,.s,trivial⟩ (by simp))
     (fun gs4 s4 b4 h hx4=>?_) (fun gt4 t4 fr1 st1 h hb=>?_)
    ·unfold aP at h
     obtain⟨⟨f112,f113⟩,h⟩:=pe h
     obtain⟨⟨f115,f116⟩,h⟩:=pe h
     (repeat apply sq_);refine Bq [] 0 follows (by kernel_rfl) (by rfl) ?_;simp only[go_sem,List.replicate_succ,List.replicate_zero,f112,f113,f115,f116]
     obtain⟨v117,hv117,h⟩:=E4 h
     refine bB (fun hG=>(lP n _ _ _ (kh hv117 (by simpa using hG)))) ?_
     try simp only[go_sem,f112,f113,f115,f116]
     (repeat apply sq_);refine tv (by rfl) (fun hc=>?_) fun hc=>?_
     ·replace h:=rZ h (by first|exact hc|simpa using hc)
      refine uW ?_;try simp only[go_sem,f112,f113,f115,f116]
      (repeat apply sq_);refine yQ ?_
      obtain⟨⟨f119,f120⟩,h⟩:=pe h
      obtain⟨⟨f122,f123⟩,h⟩:=pe h
      obtain⟨⟨f125,f126⟩,h⟩:=pe h
      obtain⟨⟨f128,f129⟩,h⟩:=pe h
      (repeat apply sq_);refine Bq [] 0 follows (by kernel_rfl) (by rfl) ?_;simp only[go_sem,List.replicate_succ,List.replicate_zero,f112,f113,f115,f116,f119,f120,f122,f123,f125,f126,f128,f129]
      (repeat apply sq_);refine tv (by rfl) (fun hc=>?_) fun hc=>?_
      ·replace h:=rZ h (by first|exact hc|simpa using hc)
       (repeat apply sq_);apply er_;simp only[go_sem,f112,f113,f115,f116,f119,f120,f122,f123,f125,f126,f128,f129]
       cases h
       exact I6 gs4 (jL hsc (.lv (.lv (.lv (.nil _)))) (by simp) ⟨.s,.s,.s,.s,.s,.s,.s,.s,trivial⟩ (by simp))
      ·replace h:=sj h (by first|exact hc|simpa using hc)
       obtain⟨⟨f130,f131⟩,h⟩:=pe h
       have e132:(152≤top)=True:=by simp[top]
       obtain⟨c133,JH,h⟩:=mO h
       have e134:rows w4.cells s4.2.1++[[.str ((get a1 s4.2.2.2.toNat).name),.sl false 2 32 (rows x5.cells ((get a1 s4.2.2.2.toNat).graph.nodes)),.int .i64 ((get a1 s4.2.2.2.toNat).kids),.int .i64 ((get a1 s4.2.2.2.toNat).weight),.int .i64 ((get a1 s4.2.2.2.toNat).meaning.kind),.str ((get a1 s4.2.2.2.toNat).meaning.name),.int .i64 ((get a1 s4.2.2.2.toNat).meaning.index),.str ((get a1 s4.2.2.2.toNat).meaning.type.base),.sl false 2 40 (rows u0.cells ((get a1 s4.2.2.2.toNat).meaning.type.args)),.sl false 6 96 (rows w6.cells ((get a1 s4.2.2.2.toNat).meaning.args))]]=rows w4.cells c133:=by rw[JH];first|exact N9 (E:=w4.cells) s4.2.1 [(get a1 s4.2.2.2.toNat)]|simp only[go_sem,rows,List.map_append,List.map_cons,List.map_nil]
       have e135:s4.2.1.length+1=c133.length:=by rw[JH];simp
       obtain⟨⟨f136,f137⟩,h⟩:=pe h
       (repeat apply sq_);refine Bq [] 2 follows (by kernel_rfl) (by rfl) ?_;simp only[go_sem,List.replicate_succ,List.replicate_zero,f112,f113,f115,f116,f119,f120,f122,f123,f125,f126,f128,f129,f130,f131,f136,f137,e132,e134,e135]
       cases h
       exact I6 (gs4+1) (jL hsc (.lv (.lv (.lv (.nil _)))) (by simp) ⟨.s,.s,.s,.s,.s,.s,.s,.s,trivial⟩ (by simp))
     ·replace h:=sj h (by first|exact hc|simpa using hc)
      (repeat apply sq_);refine X5 ?_;try simp only[go_sem,f112,f113,f115,f116]
      cases h
      exact T2 gs4 (jL hsc (.lv (.lv (.lv (.nil _)))) (by simp) ⟨.s,.s,.s,.s,.s,.s,.s,.s,trivial⟩ (by simp))
    ·try simp only[go_sem]
     unfold dG at h
     refine K6 hb ?_
     have e138:(40≤top)=True:=by simp[top]
     obtain⟨⟨f139,f140⟩,h⟩:=pe h
     (repeat apply sq_);apply er_;simp only[go_sem,f139,f140,e138]
     cases h
     exact I6 (gs0+1) (jL hsc (.live _ _ _ _ (.arr _ _ _ _ _ (ji (.cons _ _ _ _ (.cons _ _ _ _ .s (.cons _ _ _ _ .s (.cons _ _ _ _ (.ref _ _ _ _ _ _ _ _ _ (iC.trans rfl) (cD (by first|decide|simp)) (by decide) (lQ _) (by simp only[go_sem])) .nil))) .nil))) (.nil _)) (by simp) ⟨.s,.s,.s,.s,nU (by first|(simp;done)|simp[Fr.get]),.s,.s,trivial⟩ (by simp))
  ·replace h:=sj h (by first|exact hc|simpa using hc)
   (repeat apply sq_);refine X5 ?_;try simp only[go_sem]
   cases h
   exact T2 gs0 (jL hsc (.lv (.nil _)) (by simp) ⟨.s,trivial⟩ (by simp))
 ·try simp only[go_sem]
  unfold gY at h
  refine K6 hb ?_
  (repeat apply sq_);apply er_;simp only[go_sem]
  (repeat apply sq_);refine He ?_
  try simp only[go_sem]
  have hr:=Option.some.inj h
  refine JK ?_;simp only[go_sem]
  exact nT (d':=.sl false 3 40 (rows w7.cells t0)) hsc (.ref _ _ _ _ _ _ _ _ _ (lY.trans rfl) nj (by decide) (lQ _) (by simp only[go_sem])) (by simp) ⟨by subst hr;rfl,rfl⟩
end Go.Proofs.YtonfgoanbllceaaGreatDoor
