import Derived.Test.YtbgkcolebacbmaaGreatDoorDWalk5
set_option linter.unusedVariables false
set_option linter.unusedSimpArgs false
set_option maxHeartbeats 2000000
set_option maxRecDepth 100000
namespace Go.Proofs.YtbgkcolebacbmaaGreatDoor
open Go Go.Am
theorem jN(a0:y4)(a1:y4)(r:Bool)(h:ig a0 a1=some r):Pure Tryz.prog gl 41 [.agg [.sl false 2 32 (rows w8.cells a0.nodes)],.agg [.sl false 2 32 (rows w8.cells a1.nodes)]] (.bool r):=by
 intro st
 unfold ig at h
 have fx:=trivial
 refine fb 10 [.tmp 4] [0,1,2,3,4] Tryz.func41 fun hsc=>?_
 refine cl h (bZ _ _) fun v1 h=>?_
 exact rt
theorem kj(a0:(List D4))(r:(List D4))(h:bV a0=some r):Pure Tryz.prog gl 77 [.sl false 2 16 (rows D4.cells a0)] (.sl false 2 16 (rows D4.cells r)):=by
 intro st
 refine uz ?_
 unfold bV at h
 have hr:=Option.some.inj h
 subst hr
 refine LU (N:=8) (rs:=[.tmp 2]) (keep:=[0,2,4]) Tryz.func77 rfl rfl rfl (by kernel_rfl) rfl fun hsc=>?_
 refine MO (t:=0) rfl fun hl=>?_
 (repeat apply sq_);apply er_;simp only[go_sem]
 (repeat apply sq_);refine vD rfl ⟨132,by rw[Qo]⟩ (by omega) (by omega) fun c hcn=>?_
 simp only[go_sem]
 (repeat apply sq_);refine sx (by rfl) (fun hc=>?_) fun hc=>?_
 ·(repeat apply sq_);apply er_;simp only[go_sem]
  refine EX ?_
  try simp only[go_sem]
  have Oy:=hcn hc
  rw[Oy]
  refine Hu ?_;simp only[go_sem]
  exact oJ hsc (.B0 _ _ _ (by decide)) (by simp) ⟨rfl,rfl⟩
 ·refine tV ?_;try simp only[go_sem]
  (repeat apply sq_);apply er_;simp only[go_sem]
  simp only[BQ]at hl
  refine⟨⟨by omega,by simp only[top]at *; omega⟩,?_⟩
  refine EX ?_
  try simp only[go_sem]
  refine Hu ?_;simp only[go_sem]
  exact nE hsc (.ref _ _ _ _ _ _ _ _ _ (fK.trans rfl) sQ (by decide) (lG a0) (by simp only[go_sem])) (by simp) ⟨rfl,rfl⟩
theorem fE(a0:y4)(r:y4)(h:aH a0=some r):Pure Tryz.prog gl 42 [.agg [.sl false 2 32 (rows w8.cells a0.nodes)]] (.agg [.sl false 2 32 (rows w8.cells r.nodes)]):=by
 intro st
 unfold aH at h
 have fx:=trivial
 refine fb 27 [.cell 2 30] [0,1,2,3,5,8,9,10,11] Tryz.func42 fun hsc=>?_
 refine r0 ?_
 refine r0 ?_
 refine r0 ?_
 (repeat apply sq_)
 refine bW 2 32 ?_
 try simp only[List.append_assoc,List.cons_append,List.nil_append]
 refine K1 (F:=[(2,.ptr (st.length+1) 0 0 0),(3,.ptr (st.length+2) 0 0 0),(8,.sl false 2 32 (rows w8.cells a0.nodes)),(9,.int .i64 (↑a0.nodes.length:Int)),(10,.int .i64 0)]) (T:=st++[some (.arr 0 1 0 [[.sl false 2 32 (rows w8.cells a0.nodes)]]),some (.arr 0 1 0 [[.B0]]),some (.arr 0 1 0 [[.ref false (st.length+3) 0 0 0]]),some (.arr 0 2 32 (rows w8.cells []))]) (jx hsc (.lv (.lv (.live _ _ _ _ (.arr _ _ _ _ _ (.cons _ _ _ _ (.cons _ _ _ _ (.nref _ _ _ _ _ _ (fK.trans rfl)) .nil) (.same _))) (.lv (.nil _))))) (by simp) ⟨.s,.s,.s,.s,.s,trivial⟩ (by simp)) ?_
 refine aln 8 fun hl0=>?_
 refine rng (body:=iS a0) (kk:=iT) (n:=a0.nodes.length) (s0:=[])
  (fun(gs0:Nat) (k0:Nat) (s0:(List w8))=>[(2,.ptr (st.length+1) 0 0 0),(3,.ptr (st.length+2) 0 0 0),(8,.sl false 2 32 (rows w8.cells a0.nodes)),(9,.int .i64 (↑a0.nodes.length:Int)),(10,.int .i64 (↑k0:Int))])
  (fun(gs0:Nat) (k0:Nat) (s0:(List w8))=>st++[none,some (.arr 0 1 0 [[.B0]]),some (.arr 0 1 0 [[.ref false (st.length+3) gs0 0 s0.length]]),some (.arr gs0 2 32 (rows w8.cells s0))])
  (fun(gt0:Nat) (t0:(List w8))=>[(2,.ptr (st.length+1) 0 0 0),(3,.ptr (st.length+2) 0 0 0)])
  (fun(gt0:Nat) (t0:(List w8))=>st++[none,some (.arr 0 1 0 [[.B0]]),some (.arr 0 1 0 [[.ref false (st.length+3) gt0 0 t0.length]]),some (.arr gt0 2 32 (rows w8.cells t0))])
  0 fx hl0 h (bm hsc)
  (fun gs0 k0 s0 b0 fx h hx0=>?_) (fun gs0 s0=>?_) (fun gt0 t0 fr1 st1 h hb=>?_)
 ·unfold iS at h
  refine ct ?_
  refine rn ?_
  refine dw [] 2 ?_
  obtain⟨v8,hv8,h⟩:=E6 h
  refine B3 (kj _ _ hv8) ?_
  obtain⟨c10,JT,h⟩:=lR h
  have fy:=(show rows w8.cells s0++[[.int .i64 ((get a0.nodes k0).type),.sl false 2 16 (rows D4.cells v8)]]=rows w8.cells c10 from by rw[JT];first|exact O2 (E:=w8.cells) s0 [(w8.mk ((get a0.nodes k0).type) v8)]|simp only[go_sem,rows,List.map_append,List.map_cons,List.map_nil])
  have fy:=fa fy (show s0.length+1=c10.length from by rw[JT];simp)
  obtain⟨fx,h⟩:=ck fx h
  try simp only[go_sem,fx,fy]
  refine rn ?_
  cases h
  exact aX (gs0+1) (bm hsc)
 ·refine cf ?_
  refine Z6 ?_;simp only[go_sem,fx]
  exact⟨gs0,(bm hsc)⟩
 ·try simp only[go_sem,fx]
  unfold iT at h
  refine K1 hb ?_
  refine rr ?_
  exact fo (.agg [.sl false 2 32 (rows w8.cells t0)]) (.agg _ _ (.cons _ _ _ _ (.ref _ _ _ _ _ _ _ _ _ (fK.trans rfl) sQ (by decide) (lG _) (by simp only[go_sem])) .nil)) h hsc
theorem Z9(W2:(u0)→(u0)→Option (Bool))(qM:∀(a0:u0) (a1:u0) (r:Bool) (h:W2 a0 a1=some r),Pure Tryz.prog gl 94 [.agg [.str a0.base,.sl false 2 40 (rows u0.cells a0.args)],.agg [.str a1.base,.sl false 2 40 (rows u0.cells a1.args)]] (.bool r))(a0:(List u0))(a1:(List u0))(r:Bool)(h:G6 W2 a0 a1=some r):Pure Tryz.prog gl 111 [.sl false 2 40 (rows u0.cells a0),.sl false 2 40 (rows u0.cells a1),.fn 94 [] []] (.bool r):=by
 intro st
 unfold G6 at h
 have fx:=trivial
 refine fb 32 [.tmp 6] [0,1,2,6,7,8,9,14,15,16,17,18,30] Tryz.func111 fun hsc=>?_
 refine cd h (fun hc h=>?_) fun hc h=>?_
 ·exact rt
 ·refine aln 15 fun hl0=>?_
  refine rng (body:=F6 W2 a1 a0) (kk:=F7) (n:=a0.length) (s0:=())
   (fun(gs0:Unit) (k0:Nat) (s0:Unit)=>[(1,.sl false 2 40 (rows u0.cells a1)),(2,.fn 94 [] []),(15,.sl false 2 40 (rows u0.cells a0)),(16,.int .i64 (↑a0.length:Int)),(17,.int .i64 (↑k0:Int))])
   (fun(gs0:Unit) (k0:Nat) (s0:Unit)=>st)
   (fun(gt0:Unit) (t0:Unit)=>[])
   (fun(gt0:Unit) (t0:Unit)=>st)
   () fx hl0 h (bX hsc)
   (fun gs0 k0 s0 b0 fx h hx0=>?_) (fun gs0 s0=>?_) (fun gt0 t0 fr1 st1 h hb=>?_)
  ·unfold F6 at h
   refine ct ?_
   obtain⟨fx,h⟩:=ck fx h
   refine cl h (qM _ _) fun v2 h=>?_
   refine cd h (fun hc h=>?_) fun hc h=>?_
   ·refine ra ?_
    cases h
    refine D6 ?_;have h:=congrArg some (hx0 _ rfl)
    exact rt
   ·refine rn ?_
    cases h
    exact aX () (bm0 hsc)
  ·refine cf ?_
   refine Z6 ?_;simp only[go_sem,fx]
   exact⟨(),(bX hsc)⟩
  ·try simp only[go_sem,fx]
   unfold F7 at h
   refine K1 hb ?_
   exact rt
theorem tC:∀(n:Nat) (a0:u0) (a1:u0) (r:Bool) (h:fO n a0 a1=some r),Pure Tryz.prog gl 94 [.agg [.str a0.base,.sl false 2 40 (rows u0.cells a0.args)],.agg [.str a1.base,.sl false 2 40 (rows u0.cells a1.args)]] (.bool r):=by
 intro n
 induction n with
 |zero=>intro a0 a1 r h;cases h
 |succ n ih=>
  intro a0 a1 r h st
  unfold fO at h
  have fx:=trivial
  refine fb 17 [.tmp 4] [0,1,2,3,4,11,12,13,14,15] Tryz.func94 fun hsc=>?_
  refine rn ?_
  obtain⟨v1,hv1,h⟩:=E6 h
  refine U4 (fun hG=>(Z9 (fO n) ih _ _ _ (kH hv1 (by simpa using hG)))) ?_
  exact rt
theorem cg(Z0:(w7)→(w7)→Option (Bool))(tD:∀(a0:w7) (a1:w7) (r:Bool) (h:Z0 a0 a1=some r),Pure Tryz.prog gl 78 [.agg [.int .i64 a0.kind,.str a0.name,.int .i64 a0.index,.str a0.type.base,.sl false 2 40 (rows u0.cells a0.type.args),.sl false 6 96 (rows w7.cells a0.args)],.agg [.int .i64 a1.kind,.str a1.name,.int .i64 a1.index,.str a1.type.base,.sl false 2 40 (rows u0.cells a1.type.args),.sl false 6 96 (rows w7.cells a1.args)]] (.bool r))(a0:(List w7))(a1:(List w7))(r:Bool)(h:L8 Z0 a0 a1=some r):Pure Tryz.prog gl 95 [.sl false 6 96 (rows w7.cells a0),.sl false 6 96 (rows w7.cells a1),.fn 78 [] []] (.bool r):=by
 intro st
 unfold L8 at h
 have fx:=trivial
 refine fb 32 [.tmp 6] [0,1,2,6,7,8,9,14,15,16,17,18,30] Tryz.func95 fun hsc=>?_
 refine cd h (fun hc h=>?_) fun hc h=>?_
 ·exact rt
 ·refine aln 15 fun hl0=>?_
  refine rng (body:=J8 Z0 a1 a0) (kk:=J9) (n:=a0.length) (s0:=())
   (fun(gs0:Unit) (k0:Nat) (s0:Unit)=>[(1,.sl false 6 96 (rows w7.cells a1)),(2,.fn 78 [] []),(15,.sl false 6 96 (rows w7.cells a0)),(16,.int .i64 (↑a0.length:Int)),(17,.int .i64 (↑k0:Int))])
   (fun(gs0:Unit) (k0:Nat) (s0:Unit)=>st)
   (fun(gt0:Unit) (t0:Unit)=>[])
   (fun(gt0:Unit) (t0:Unit)=>st)
   () fx hl0 h (bX hsc)
   (fun gs0 k0 s0 b0 fx h hx0=>?_) (fun gs0 s0=>?_) (fun gt0 t0 fr1 st1 h hb=>?_)
  ·unfold J8 at h
   refine ct ?_
   obtain⟨fx,h⟩:=ck fx h
   refine cl h (tD _ _) fun v2 h=>?_
   refine cd h (fun hc h=>?_) fun hc h=>?_
   ·refine ra ?_
    cases h
    refine D6 ?_;have h:=congrArg some (hx0 _ rfl)
    exact rt
   ·refine rn ?_
    cases h
    exact aX () (bm0 hsc)
  ·refine cf ?_
   refine Z6 ?_;simp only[go_sem,fx]
   exact⟨(),(bX hsc)⟩
  ·try simp only[go_sem,fx]
   unfold J9 at h
   refine K1 hb ?_
   exact rt
theorem pH:∀(n:Nat) (a0:w7) (a1:w7) (r:Bool) (h:gM n a0 a1=some r),Pure Tryz.prog gl 78 [.agg [.int .i64 a0.kind,.str a0.name,.int .i64 a0.index,.str a0.type.base,.sl false 2 40 (rows u0.cells a0.type.args),.sl false 6 96 (rows w7.cells a0.args)],.agg [.int .i64 a1.kind,.str a1.name,.int .i64 a1.index,.str a1.type.base,.sl false 2 40 (rows u0.cells a1.type.args),.sl false 6 96 (rows w7.cells a1.args)]] (.bool r):=by
 intro n
 induction n with
 |zero=>intro a0 a1 r h;cases h
 |succ n ih=>
  intro a0 a1 r h st
  unfold gM at h
  have fx:=trivial
  refine fb 38 [.tmp 4] [0,1,2,3,4,11,12,13,14,15,18,19,20,21,22,25,26,27,28,29,32,33,34,35,36] Tryz.func78 fun hsc=>?_
  refine rn ?_
  obtain⟨v1,hv1,h⟩:=E6 h
  refine U4 (fun hG=>(tC n _ _ _ (kH hv1 (by simpa using hG)))) ?_
  refine rn ?_
  obtain⟨v2,hv2,h⟩:=E6 h
  refine U4 (fun hG=>(cg (gM n) ih _ _ _ (kH hv2 (by simpa using hG)))) ?_
  exact rt
theorem lF(n:Nat)(a0:w4)(a1:w4)(r:Bool)(h:bO n a0 a1=some r):Pure Tryz.prog gl 44 [.agg [.str a0.name,.sl false 2 32 (rows w8.cells a0.graph.nodes),.int .i64 a0.kids,.int .i64 a0.weight,.int .i64 a0.meaning.kind,.str a0.meaning.name,.int .i64 a0.meaning.index,.str a0.meaning.type.base,.sl false 2 40 (rows u0.cells a0.meaning.type.args),.sl false 6 96 (rows w7.cells a0.meaning.args)],.agg [.str a1.name,.sl false 2 32 (rows w8.cells a1.graph.nodes),.int .i64 a1.kids,.int .i64 a1.weight,.int .i64 a1.meaning.kind,.str a1.meaning.name,.int .i64 a1.meaning.index,.str a1.meaning.type.base,.sl false 2 40 (rows u0.cells a1.meaning.type.args),.sl false 6 96 (rows w7.cells a1.meaning.args)]] (.bool r):=by
 intro st
 unfold bO at h
 have fx:=trivial
 refine fb 38 [.tmp 4] [0,1,2,3,4,11,12,13,14,15,18,19,20,21,22,25,26,27,28,29,32,33,34,35,36] Tryz.func44 fun hsc=>?_
 refine rn ?_
 obtain⟨v1,hv1,h⟩:=E6 h
 refine U4 (fun hG=>(jN _ _ _ (kH hv1 (by simpa using hG)))) ?_
 refine rn ?_
 obtain⟨v2,hv2,h⟩:=E6 h
 refine U4 (fun hG=>(pH n _ _ _ (kH hv2 (by simpa using hG)))) ?_
 exact rt
theorem qN(n:Nat)(a0:(List w4))(a1:(List w4))(r:(List x5))(h:jI n a0 a1=some r):Pure Tryz.prog gl 43 [.sl false 10 152 (rows w4.cells a0),.sl false 10 152 (rows w4.cells a1),.fn 44 [] []] (.sl false 3 40 (rows x5.cells r)):=by
 intro st
 unfold jI at h
 refine LU (N:=229) (rs:=[.tmp 6]) (keep:=[0,1,2,6,7,8,9,10,20,21,22,36,43,78,11,12,13,14,108,109,110,111,112,118,119,120,121,124,125,126,127,128,129,130,131,132,133,134,148,149,150,151,154,155,156,157,158,159,160,161,162,163,164,165,166,167,168,169,170,171,172,173,174,175,176,177,183,184,185,186,187,188,189,190,191,192,193,194,195,196,197,198,199,200,201,202,203,204,205,206]) Tryz.func43 rfl rfl rfl (by kernel_rfl) rfl fun hsc=>?_
 (repeat apply sq_);apply er_;simp only[go_sem]
 obtain⟨v1,hv1,h⟩:=E6 h
 unfold GR at hv1
 obtain⟨⟨ha1,hb1⟩,hv1⟩:=qE hv1
 obtain⟨uT,hv1⟩:=qE hv1
 have hv1:=Option.some.inj hv1
 have hwa:wr .i64 ((↑a0.length:Int)+1)=(↑(a0.length+1):Int):=tL (by unfold top at ha1;omega)
 have hwb:wr .i64 ((↑a1.length:Int)+1)=(↑(a1.length+1):Int):=tL (by unfold top at hb1;omega)
 have ha2:a0.length+1≤top:=by omega
 have hb2:a1.length+1≤top:=by omega
 have ha3:a0.length+1≤9223372036854775807:=by unfold top at ha1;omega
 have hb3:a1.length+1≤9223372036854775807:=by unfold top at hb1;omega
 (repeat apply sq_);apply er_;simp only[go_sem,hwa,ha1,ha2]
 obtain⟨zr,hzr⟩:∃z,z=List.replicate (a1.length+1) (0:Int):=⟨_,rfl⟩
 have e0: [D.B0]::List.replicate a0.length [D.B0]=eU st.length (a1.length+1) (a0.length+1) 0:=by rw[vG];rfl
 simp only[e0]
 (repeat apply sq_);apply er_;simp only[go_sem]
 (repeat apply sq_);refine arg_ (ρ:=Unit) (body:=fun _ (s:Unit)=>some (.nxt s)) (kk:=fun s=>some s) (n:=a0.length+1) (s0:=()) (e:=())
  (fun(_:Unit) (k0:Nat) (_:Unit)=>[(0,.sl false 10 152 (rows w4.cells a0)),(1,.sl false 10 152 (rows w4.cells a1)),(2,.fn 44 [] []),(7,.ref true st.length 0 0 (a0.length+1)),(20,.int .i64 (↑(a0.length+1):Int)),(21,.int .i64 (↑k0:Int))])
  (fun(_:Unit) (k0:Nat) (_:Unit)=>st++(some (.arr 0 1 24 (eU st.length (a1.length+1) (a0.length+1) k0))::(zs k0 zr).map inn))
  (fun(_:Unit) (_:Unit)=>[(0,.sl false 10 152 (rows w4.cells a0)),(1,.sl false 10 152 (rows w4.cells a1)),(2,.fn 44 [] []),(7,.ref true st.length 0 0 (a0.length+1))])
  (fun(_:Unit) (_:Unit)=>st++(some (.arr 0 1 24 (eU st.length (a1.length+1) (a0.length+1) (a0.length+1)))::(zs (a0.length+1) zr).map inn))
  () (jj _ _) (gF hsc (by rw[tN];omega) ⟨.s,.s,.s,.s,.s,.s,trivial⟩ (by simp))
  (fun _ k0 _ b0 hk0 hb0 _=>?_) (fun _ _=>?_) (fun _ _ fr1 st1 _ hb=>?_)
 ·cases hb0
  have hw0:wr .i64 ((↑k0:Int)+1)=(↑(k0+1):Int):=BS hk0 ha3
  (repeat apply sq_);apply er_;simp only[go_sem]
  (repeat apply sq_);refine sx (by rfl) (fun hc=>?_) fun hc=>?_
  ·refine tV ?_;try simp only[go_sem]
   (repeat apply sq_);refine xG ?_
   (repeat apply sq_);apply er_;simp only[go_sem]
   have eo0:(eU st.length (a1.length+1) (a0.length+1) k0).length=a0.length+1:=dS (by omega)
   have eo1:(eU st.length (a1.length+1) (a0.length+1) k0).getD k0 []=[.B0]:=yO (Nat.le_refl _) hk0
   have eo2:(eU st.length (a1.length+1) (a0.length+1) k0).set k0 [.ref true (st.length+(k0+1)) 0 0 (a1.length+1)]=eU st.length (a1.length+1) (a0.length+1) (k0+1):=yN hk0
   have ez: [D.int .i64 0]::List.replicate a1.length [D.int .i64 0]=rows U5 zr:=by rw[hzr];simp[rows,U5,List.replicate_succ]
   (repeat apply sq_);apply er_;simp only[go_sem,hwb,hb1,hb2,List.length_map,tN,eo0,eo1,eo2,hk0,Nat.zero_add,ez,FW,FY]
   (repeat apply sq_);apply er_;simp only[go_sem,hw0]
   exact aX () (gF hsc (by rw[tN];omega) ⟨.s,.s,.s,.s,.s,.s,trivial⟩ (by simp))
  ·exfalso;first|exact Bool.noConfusion hc|(have hc:=of_decide_eq_false hc;omega)
 ·(repeat apply sq_);apply er_;simp only[go_sem]
  (repeat apply sq_);refine sx (by rfl) (fun hc=>?_) fun hc=>?_
  ·exfalso;first|exact Bool.noConfusion hc|(have hc:=of_decide_eq_true hc;omega)
  ·refine Z6 ?_;simp only[go_sem]
   exact⟨(),gF hsc (by rw[tN];omega) ⟨.s,.s,.s,.s,trivial⟩ (by simp)⟩
 try simp only[go_sem]
 refine K1 hb ?_
 obtain⟨same,hsm⟩:∃f,f=fun x y=>(bO n x y).getD false:=⟨_,rfl⟩
 rw[←hsm]at hv1
 have ezz:zs (a0.length+1) zr=Lcs.tb a0.length a1.length (Lcs.pf same a0 a1 a0.length 0):=by rw[hzr];exact(Lcs.AL same a0 a1).symm
 simp only[ezz]
 have Qq:wr .i64 ((↑a0.length:Int)-1)=↑a0.length-1:=G8 (by omega) (by omega)
 have Qr:wr .i64 ((↑a1.length:Int)-1)=↑a1.length-1:=G8 (by omega) (by omega)
 have go:(eU st.length (a1.length+1) (a0.length+1) (a0.length+1)).length=a0.length+1:=dS (Nat.le_refl _)
 (repeat apply sq_);apply er_;simp only[go_sem,Qq]
 (repeat apply sq_);refine arg_ (ρ:=Unit) (body:=fun _ (s:Unit)=>some (.nxt s)) (kk:=fun s=>some s) (n:=a0.length) (s0:=()) (e:=())
  (fun(_:Unit) (k1:Nat) (_:Unit)=>[(0,.sl false 10 152 (rows w4.cells a0)),(1,.sl false 10 152 (rows w4.cells a1)),(2,.fn 44 [] []),(7,.ref true st.length 0 0 (a0.length+1)),(9,.int .i64 (↑a0.length-1- ↑k1))])
  (fun(_:Unit) (k1:Nat) (_:Unit)=>st++(some (.arr 0 1 24 (eU st.length (a1.length+1) (a0.length+1) (a0.length+1)))::(Lcs.tb a0.length a1.length (Lcs.pf same a0 a1 (a0.length-k1) 0)).map inn))
  (fun(_:Unit) (_:Unit)=>[(0,.sl false 10 152 (rows w4.cells a0)),(1,.sl false 10 152 (rows w4.cells a1)),(2,.fn 44 [] []),(7,.ref true st.length 0 0 (a0.length+1))])
  (fun(_:Unit) (_:Unit)=>st++(some (.arr 0 1 24 (eU st.length (a1.length+1) (a0.length+1) (a0.length+1)))::(Lcs.tb a0.length a1.length (Lcs.pf same a0 a1 0 0)).map inn))
  () (jj _ _) (gF hsc (by rw[Lcs.ji];omega) ⟨.s,.s,.s,.s,nF (congrArg (D.int .i64) (by omega)),trivial⟩ (by simp))
  (fun _ k1 _ b1 hk1 hb1 _=>?_) (fun _ _=>?_) (fun _ _ fr2 st2 _ hb2=>?_)
 ·cases hb1
  obtain⟨i,hi⟩:∃i,a0.length=i+1+k1:=⟨a0.length-1-k1,by omega⟩
  have e9:((↑a0.length:Int)-1- ↑k1)=↑i:=by omega
  have eT:a0.length-k1=i+1:=by omega
  have en:Lcs.tb a0.length a1.length (Lcs.pf same a0 a1 (i+1) 0)=Lcs.tb a0.length a1.length (Lcs.pf same a0 a1 i a1.length):=Lcs.AO same a0 a1
  have hwi:wr .i64 ((↑i:Int)+1)=↑(i+1):=tL (by omega)
  have hwj:wr .i64 ((↑i:Int)-1)=↑i-1:=G8 (by omega) (by omega)
  simp only[e9,eT,en]
  (repeat apply sq_);apply er_;simp only[go_sem]
  (repeat apply sq_);refine sx (by rfl) (fun hc=>?_) fun hc=>?_
  ·refine tV ?_;try simp only[go_sem]
   (repeat apply sq_);refine xG ?_
   (repeat apply sq_);apply er_;simp only[go_sem,Qr]
   (repeat apply sq_);refine arg_ (ρ:=Unit) (body:=fun _ (s:Unit)=>some (.nxt s)) (kk:=fun s=>some s) (n:=a1.length) (s0:=()) (e:=())
    (fun(_:Unit) (k2:Nat) (_:Unit)=>[(0,.sl false 10 152 (rows w4.cells a0)),(1,.sl false 10 152 (rows w4.cells a1)),(2,.fn 44 [] []),(7,.ref true st.length 0 0 (a0.length+1)),(9,.int .i64 ↑i),(10,.int .i64 (↑a1.length-1- ↑k2))])
    (fun(_:Unit) (k2:Nat) (_:Unit)=>st++(some (.arr 0 1 24 (eU st.length (a1.length+1) (a0.length+1) (a0.length+1)))::(Lcs.tb a0.length a1.length (Lcs.pf same a0 a1 i (a1.length-k2))).map inn))
    (fun(_:Unit) (_:Unit)=>[(0,.sl false 10 152 (rows w4.cells a0)),(1,.sl false 10 152 (rows w4.cells a1)),(2,.fn 44 [] []),(7,.ref true st.length 0 0 (a0.length+1)),(9,.int .i64 ↑i)])
    (fun(_:Unit) (_:Unit)=>st++(some (.arr 0 1 24 (eU st.length (a1.length+1) (a0.length+1) (a0.length+1)))::(Lcs.tb a0.length a1.length (Lcs.pf same a0 a1 i 0)).map inn))
    () (jj _ _) (gF hsc (by rw[Lcs.ji];omega) ⟨.s,.s,.s,.s,.s,nF (congrArg (D.int .i64) (by omega)),trivial⟩ (by simp))
    (fun _ k2 _ b2 hk2 hb2 _=>?_) (fun _ _=>?_) (fun _ _ fr2 st2 _ hb2=>?_)
   ·cases hb2
    obtain⟨k,hk⟩:∃k,a1.length=k+1+k2:=⟨a1.length-1-k2,by omega⟩
    have e10:((↑a1.length:Int)-1- ↑k2)=↑k:=by omega
    have eT2:a1.length-k2=k+1:=by omega
    have hwk:wr .i64 ((↑k:Int)+1)=↑(k+1):=tL (by omega)
    have hwl:wr .i64 ((↑k:Int)-1)=↑k-1:=G8 (by omega) (by omega)
    simp only[e10,eT2]
    (repeat apply sq_);apply er_;simp only[go_sem]
    (repeat apply sq_);refine sx (by rfl) (fun hc=>?_) fun hc=>?_
    ·refine tV ?_;try simp only[go_sem]
     (repeat apply sq_);refine xG ?_
     have g1:(eU st.length (a1.length+1) (a0.length+1) (a0.length+1)).getD i []=[.ref true (st.length+(i+1)) 0 0 (a1.length+1)]:=nG (by omega)
     have g2:(eU st.length (a1.length+1) (a0.length+1) (a0.length+1)).getD (i+1) []=[.ref true (st.length+(i+1+1)) 0 0 (a1.length+1)]:=nG (by omega)
     have l1:∀f,Go.Am.look ((Lcs.tb a0.length a1.length f).map inn) i=some (.arr 0 1 8 (rows U5 (oO a1.length f i))):=fun f=>yP (by omega)
     have l2:∀f,Go.Am.look ((Lcs.tb a0.length a1.length f).map inn) (i+1)=some (.arr 0 1 8 (rows U5 (oO a1.length f (i+1)))):=fun f=>yP (by omega)
     have c1:∀f x,(rows U5 (oO a1.length f x)).getD k []=[.int .i64 (f x k)]:=fun f x=>ux (by omega)
     have c2:∀f x,(rows U5 (oO a1.length f x)).getD (k+1) []=[.int .i64 (f x (k+1))]:=fun f x=>ux (by omega)
     have s1:∀f v,((Lcs.tb a0.length a1.length f).map inn).set i (some (.arr 0 1 8 ((rows U5 (oO a1.length f i)).set k [.int .i64 v])))=(Lcs.tb a0.length a1.length (DZ f i k v)).map inn:=fun f v=>zT (by omega)
     have b1:i<a0.length+1:=by omega
     have b2:i+1<a0.length+1:=by omega
     have b3:k<a1.length+1:=by omega
     have b4:k+1<a1.length+1:=by omega
     (repeat apply sq_);refine zO [] 0 follows (by kernel_rfl) (by rfl) ?_;simp only[go_sem,List.replicate_succ,List.replicate_zero,hwi,hwk,g1,g2,l1,l2,c1,c2,s1,b1,b2,b3,b4,go,rJ,Nat.zero_add,Lcs.Dv,Lcs.Dw]
     have hsa:∃w,bO n (Am.get a0 i) (Am.get a1 k)=some w:=Option.isSome_iff_exists.1 (List.all_eq_true.1 (List.all_eq_true.1 uT _ (jU (by omega))) _ (jU (by omega)))
     obtain⟨w,hw⟩:=hsa
     have hsw:same a0[i] a1[k]=w:=by
      have ea:Am.get a0 i=a0[i]:=by simp[Am.get,show i<a0.length by omega]
      have eb:Am.get a1 k=a1[k]:=by simp[Am.get,show k<a1.length by omega]
      rw[hsm, ←ea, ←eb]
      show(bO n (Am.get a0 i) (Am.get a1 k)).getD false=w
      rw[hw];rfl
     have hlc:=Lcs.GQ same a0 a1 (i:=i) (k:=k) (by omega) (by omega)
     rw[hsw]at hlc
     have d1:i<a0.length:=by omega
     have d2:k<a1.length:=by omega
     (repeat apply sq_);refine zO [] 0 follows (by kernel_rfl) (by rfl) ?_;simp only[go_sem,List.replicate_zero,d1,d2]
     refine B3 (lF n _ _ _ hw) ?_
     try simp only[go_sem,d1,d2]
     have eT4:a1.length-(k2+1)=k:=by omega
     (repeat apply sq_);refine sx (by rfl) (fun hc=>?_) fun hc=>?_
     ·have hc:w=true:=hc
      rw[hc,cond_true]at hlc
      have hC:=Lcs.AK same a0 a1 (i+1) (k+1)
      have hC2:=Lcs.Oe same a0 a1 (i+1) (k+1)
      have hwc:wr .i64 (Lcs.lc same a0 a1 (i+1) (k+1)+1)=Lcs.lc same a0 a1 (i+1) (k+1)+1:=G8 (by omega) (by omega)
      (repeat apply sq_);refine zO [] 0 follows (by kernel_rfl) (by rfl) ?_;simp only[go_sem,List.replicate_zero,hwi,hwk,g1,g2,l1,l2,c1,c2,s1,b1,b2,b3,b4,go,rJ,Nat.zero_add,FZ,Df,Lcs.Dv,Lcs.Dw,hwc,zU]
      (repeat apply sq_);apply er_;simp only[go_sem,hwl]
      refine aX () ?_
      simp only[eT4,uy d1 hlc.symm]
      exact gF hsc (by rw[Lcs.ji];omega) ⟨.s,.s,.s,.s,.s,nF (congrArg (D.int .i64) (by omega)),trivial⟩ (by simp)
     ·have hc:w=false:=hc
      rw[hc,cond_false]at hlc
      refine tV ?_;try simp only[go_sem]
      (repeat apply sq_);apply er_;simp only[go_sem,hwl]
      refine aX () ?_
      simp only[eT4,uy d1 hlc.symm]
      exact gF hsc (by rw[Lcs.ji];omega) ⟨.s,.s,.s,.s,.s,nF (congrArg (D.int .i64) (by omega)),trivial⟩ (by simp)
    ·exfalso;first|exact Bool.noConfusion hc|(have hc:=of_decide_eq_false hc;omega)
   ·(repeat apply sq_);apply er_;simp only[go_sem]
    (repeat apply sq_);refine sx (by rfl) (fun hc=>?_) fun hc=>?_
    ·exfalso;first|exact Bool.noConfusion hc|(have hc:=of_decide_eq_true hc;omega)
    ·refine Z6 ?_;simp only[go_sem,Nat.sub_self]
     exact⟨(),gF hsc (by rw[Lcs.ji];omega) ⟨.s,.s,.s,.s,.s,trivial⟩ (by simp)⟩
   ·try simp only[go_sem]
    refine K1 hb2 ?_
    (repeat apply sq_);apply er_;simp only[go_sem,hwj]
    have eT3:a0.length-(k1+1)=i:=by omega
    refine aX () ?_
    simp only[eT3]
    exact gF hsc (by rw[Lcs.ji];omega) ⟨.s,.s,.s,.s,nF (congrArg (D.int .i64) (by omega)),trivial⟩ (by simp)
  ·exfalso;first|exact Bool.noConfusion hc|(have hc:=of_decide_eq_false hc;omega)
 ·(repeat apply sq_);apply er_;simp only[go_sem]
  (repeat apply sq_);refine sx (by rfl) (fun hc=>?_) fun hc=>?_
  ·exfalso;first|exact Bool.noConfusion hc|(have hc:=of_decide_eq_true hc;omega)
  ·refine Z6 ?_;simp only[go_sem,Nat.sub_self]
   exact⟨(),gF hsc (by rw[Lcs.ji];omega) ⟨.s,.s,.s,.s,trivial⟩ (by simp)⟩
 try simp only[go_sem]
 refine K1 hb2 ?_
 have Qs:Lcs.tb a0.length a1.length (Lcs.pf same a0 a1 0 0)=v1:=(Lcs.Dx same a0 a1).trans hv1
 simp only[Qs]
 refine K1 (Dd hsc (by rw[←hv1];intro r hr;obtain⟨x,_,rfl⟩:=List.mem_map.1 hr;simp) (by rw[←hv1];exact Lcs.ji ..) (by simp) (by simp) (by simp)) ?_
 (repeat apply sq_);apply er_;simp only[go_sem]
 (repeat apply sq_);apply er_;simp only[go_sem]
 (repeat apply sq_);refine bW 3 40 ?_
 try simp only[List.append_assoc,List.cons_append,List.nil_append]
 refine K1 (F:=[(0,.sl false 10 152 (rows w4.cells a0)),(1,.sl false 10 152 (rows w4.cells a1)),(2,.fn 44 [] []),(7,.sl false 1 24 (rows (slc 1 8 U5) v1)),(11,.ref false st.length 0 0 0),(12,.int .i64 0),(13,.int .i64 0)]) (T:=st++[some (.arr 0 3 40 (rows x5.cells []))]) (jx hsc (.lv (.nil _)) (by simp) ⟨.s,.s,.s,.s,.nref _ _ _ _ _ _ (pT.trans rfl),.s,.s,trivial⟩ (by simp)) ?_
 (repeat apply sq_);refine F1 (body:=gC n a0 a1 v1) (kk:=gD) (n:=n) (s0:=([],0,0))
  (fun(gs0:Nat) (s0:(List x5)×Int×Int)=>[(0,.sl false 10 152 (rows w4.cells a0)),(1,.sl false 10 152 (rows w4.cells a1)),(2,.fn 44 [] []),(7,.sl false 1 24 (rows (slc 1 8 U5) v1)),(11,.ref false st.length gs0 0 s0.1.length),(12,.int .i64 s0.2.1),(13,.int .i64 s0.2.2)])
  (fun(gs0:Nat) (s0:(List x5)×Int×Int)=>st++[some (.arr gs0 3 40 (rows x5.cells s0.1))])
  (fun(gt0:Nat) (t0:(List x5))=>[(11,.ref false st.length gt0 0 t0.length)])
  (fun(gt0:Nat) (t0:(List x5))=>st++[some (.arr gt0 3 40 (rows x5.cells t0))])
  0 h (jx hsc (.lv (.nil _)) (by simp) ⟨.s,.s,.s,.s,.s,.s,.s,trivial⟩ (by simp))
  (fun gs0 s0 b0 h hx0=>?_) (fun gt0 t0 fr1 st1 h hb=>?_)
 ·unfold gC at h
  (repeat apply sq_);apply er_;simp only[go_sem]
  (repeat apply sq_);refine sx (by rfl) (fun hc=>?_) fun hc=>?_
  ·replace h:=rD h (by first|exact hc|simpa using hc)
   refine tV ?_;try simp only[go_sem]
   (repeat apply sq_);refine xG ?_
   (repeat apply sq_);apply er_;simp only[go_sem]
   (repeat apply sq_);refine F1 (body:=gu n a0 a1) (kk:=gB n a0 a1 v1 s0) (n:=n) (s0:=(0,s0.2.1,s0.2.2))
    (fun(gs3:Unit) (s3:Int×Int×Int)=>[(0,.sl false 10 152 (rows w4.cells a0)),(1,.sl false 10 152 (rows w4.cells a1)),(2,.fn 44 [] []),(7,.sl false 1 24 (rows (slc 1 8 U5) v1)),(11,.ref false st.length gs0 0 s0.1.length),(12,.int .i64 s3.2.1),(13,.int .i64 s3.2.2),(14,.ptr (st.length+1) 0 0 0)])
    (fun(gs3:Unit) (s3:Int×Int×Int)=>st++[some (.arr gs0 3 40 (rows x5.cells s0.1)),some (.arr 0 3 0 [[.int .i64 s3.1,.int .i64 0,.B0]])])
    (fun(gt3:Unit) (t3:Int×Int×Int)=>[(0,.sl false 10 152 (rows w4.cells a0)),(1,.sl false 10 152 (rows w4.cells a1)),(2,.fn 44 [] []),(7,.sl false 1 24 (rows (slc 1 8 U5) v1)),(11,.ref false st.length gs0 0 s0.1.length),(12,.int .i64 t3.2.1),(13,.int .i64 t3.2.2),(14,.ptr (st.length+1) 0 0 0)])
    (fun(gt3:Unit) (t3:Int×Int×Int)=>st++[some (.arr gs0 3 40 (rows x5.cells s0.1)),some (.arr 0 3 0 [[.int .i64 t3.1,.int .i64 0,.B0]])])
    () h (jx hsc (.lv (.lv (.nil _))) (by simp) ⟨.s,.s,.s,.s,.s,.s,.s,.s,trivial⟩ (by simp))
    (fun gs3 s3 b3 h hx3=>?_) (fun gt3 t3 fr1 st1 h hb=>?_)
   ·unfold gu at h
    obtain⟨⟨f78,f79⟩,h⟩:=qE h
    obtain⟨⟨f81,f82⟩,h⟩:=qE h
    (repeat apply sq_);refine zO [] 0 follows (by kernel_rfl) (by rfl) ?_;simp only[go_sem,List.replicate_succ,List.replicate_zero,f78,f79,f81,f82]
    obtain⟨v83,hv83,h⟩:=E6 h
    refine bG (fun hG=>(lF n _ _ _ (kH hv83 (by simpa using hG)))) ?_
    try simp only[go_sem,f78,f79,f81,f82]
    (repeat apply sq_);refine sx (by rfl) (fun hc=>?_) fun hc=>?_
    ·replace h:=rD h (by first|exact hc|simpa using hc)
     refine tV ?_;try simp only[go_sem,f78,f79,f81,f82]
     (repeat apply sq_);refine xG ?_
     (repeat apply sq_);apply er_;simp only[go_sem,f78,f79,f81,f82]
     cases h
     exact G0 () (jx hsc (.lv (.lv (.nil _))) (by simp) ⟨.s,.s,.s,.s,.s,.s,.s,.s,trivial⟩ (by simp))
    ·replace h:=rE h (by first|exact hc|simpa using hc)
     (repeat apply sq_);refine Z6 ?_;try simp only[go_sem,f78,f79,f81,f82]
     cases h
     exact P0 () (jx hsc (.lv (.lv (.nil _))) (by simp) ⟨.s,.s,.s,.s,.s,.s,.s,.s,trivial⟩ (by simp))
   ·try simp only[go_sem]
    unfold gB at h
    refine K1 hb ?_
    (repeat apply sq_);refine bW 10 152 ?_
    try simp only[List.append_assoc,List.cons_append,List.nil_append]
    refine K1 (F:=[(0,.sl false 10 152 (rows w4.cells a0)),(1,.sl false 10 152 (rows w4.cells a1)),(2,.fn 44 [] []),(7,.sl false 1 24 (rows (slc 1 8 U5) v1)),(11,.ref false st.length gs0 0 s0.1.length),(12,.int .i64 t3.2.1),(13,.int .i64 t3.2.2),(14,.ptr (st.length+1) 0 0 0)]) (T:=st++[some (.arr gs0 3 40 (rows x5.cells s0.1)),some (.arr 0 3 0 [[.int .i64 t3.1,.int .i64 0,.ref false (st.length+2) 0 0 0]]),some (.arr 0 10 152 (rows w4.cells []))]) (jx hsc (.lv (.live _ _ _ _ (.arr _ _ _ _ _ (.cons _ _ _ _ (.cons _ _ _ _ .s (.cons _ _ _ _ .s (.cons _ _ _ _ (.nref _ _ _ _ _ _ (fK.trans rfl)) .nil))) (.same _))) (.lv (.nil _)))) (by simp) ⟨.s,.s,.s,.s,.s,.s,.s,.s,trivial⟩ (by simp)) ?_
    (repeat apply sq_);refine F1 (body:=gy n a0 a1 v1) (kk:=gA s0 t3) (n:=n) (s0:=(0,[],t3.2.1,t3.2.2))
     (fun(gs4:Nat) (s4:Int×(List w4)×Int×Int)=>[(0,.sl false 10 152 (rows w4.cells a0)),(1,.sl false 10 152 (rows w4.cells a1)),(2,.fn 44 [] []),(7,.sl false 1 24 (rows (slc 1 8 U5) v1)),(11,.ref false st.length gs0 0 s0.1.length),(12,.int .i64 s4.2.2.1),(13,.int .i64 s4.2.2.2),(14,.ptr (st.length+1) 0 0 0)])
     (fun(gs4:Nat) (s4:Int×(List w4)×Int×Int)=>st++[some (.arr gs0 3 40 (rows x5.cells s0.1)),some (.arr 0 3 0 [[.int .i64 t3.1,.int .i64 s4.1,.ref false (st.length+2) gs4 0 s4.2.1.length]]),some (.arr gs4 10 152 (rows w4.cells s4.2.1))])
     (fun(gt4:Nat) (t4:Int×(List w4)×Int×Int)=>[(0,.sl false 10 152 (rows w4.cells a0)),(1,.sl false 10 152 (rows w4.cells a1)),(2,.fn 44 [] []),(7,.sl false 1 24 (rows (slc 1 8 U5) v1)),(11,.ref false st.length gs0 0 s0.1.length),(12,.int .i64 t4.2.2.1),(13,.int .i64 t4.2.2.2),(14,.ptr (st.length+1) 0 0 0)])
     (fun(gt4:Nat) (t4:Int×(List w4)×Int×Int)=>st++[some (.arr gs0 3 40 (rows x5.cells s0.1)),some (.arr 0 3 0 [[.int .i64 t3.1,.int .i64 t4.1,.ref false (st.length+2) gt4 0 t4.2.1.length]]),some (.arr gt4 10 152 (rows w4.cells t4.2.1))])
     0 h (jx hsc (.lv (.lv (.lv (.nil _)))) (by simp) ⟨.s,.s,.s,.s,.s,.s,.s,.s,trivial⟩ (by simp))
     (fun gs4 s4 b4 h hx4=>?_) (fun gt4 t4 fr1 st1 h hb=>?_)
    ·unfold gy at h
     obtain⟨⟨f112,f113⟩,h⟩:=qE h
     obtain⟨⟨f115,f116⟩,h⟩:=qE h
     (repeat apply sq_);refine zO [] 0 follows (by kernel_rfl) (by rfl) ?_;simp only[go_sem,List.replicate_succ,List.replicate_zero,f112,f113,f115,f116]
     obtain⟨v117,hv117,h⟩:=E6 h
     refine bG (fun hG=>(lF n _ _ _ (kH hv117 (by simpa using hG)))) ?_
     try simp only[go_sem,f112,f113,f115,f116]
     (repeat apply sq_);refine sx (by rfl) (fun hc=>?_) fun hc=>?_
     ·replace h:=rD h (by first|exact hc|simpa using hc)
      refine tV ?_;try simp only[go_sem,f112,f113,f115,f116]
      (repeat apply sq_);refine xG ?_
      obtain⟨⟨f119,f120⟩,h⟩:=qE h
      obtain⟨⟨f122,f123⟩,h⟩:=qE h
      obtain⟨⟨f125,f126⟩,h⟩:=qE h
      obtain⟨⟨f128,f129⟩,h⟩:=qE h
      (repeat apply sq_);refine zO [] 0 follows (by kernel_rfl) (by rfl) ?_;simp only[go_sem,List.replicate_succ,List.replicate_zero,f112,f113,f115,f116,f119,f120,f122,f123,f125,f126,f128,f129]
      (repeat apply sq_);refine sx (by rfl) (fun hc=>?_) fun hc=>?_
      ·replace h:=rD h (by first|exact hc|simpa using hc)
       (repeat apply sq_);apply er_;simp only[go_sem,f112,f113,f115,f116,f119,f120,f122,f123,f125,f126,f128,f129]
       cases h
       exact G0 gs4 (jx hsc (.lv (.lv (.lv (.nil _)))) (by simp) ⟨.s,.s,.s,.s,.s,.s,.s,.s,trivial⟩ (by simp))
      ·replace h:=rE h (by first|exact hc|simpa using hc)
       obtain⟨⟨f130,f131⟩,h⟩:=qE h
       have e132:(152≤top)=True:=by simp[top]
       obtain⟨c133,Hr,h⟩:=lR h
       have e134:rows w4.cells s4.2.1++[[.str ((get a1 s4.2.2.2.toNat).name),.sl false 2 32 (rows w8.cells ((get a1 s4.2.2.2.toNat).graph.nodes)),.int .i64 ((get a1 s4.2.2.2.toNat).kids),.int .i64 ((get a1 s4.2.2.2.toNat).weight),.int .i64 ((get a1 s4.2.2.2.toNat).meaning.kind),.str ((get a1 s4.2.2.2.toNat).meaning.name),.int .i64 ((get a1 s4.2.2.2.toNat).meaning.index),.str ((get a1 s4.2.2.2.toNat).meaning.type.base),.sl false 2 40 (rows u0.cells ((get a1 s4.2.2.2.toNat).meaning.type.args)),.sl false 6 96 (rows w7.cells ((get a1 s4.2.2.2.toNat).meaning.args))]]=rows w4.cells c133:=by rw[Hr];first|exact O2 (E:=w4.cells) s4.2.1 [(get a1 s4.2.2.2.toNat)]|simp only[go_sem,rows,List.map_append,List.map_cons,List.map_nil]
       have e135:s4.2.1.length+1=c133.length:=by rw[Hr];simp
       obtain⟨⟨f136,f137⟩,h⟩:=qE h
       (repeat apply sq_);refine zO [] 2 follows (by kernel_rfl) (by rfl) ?_;simp only[go_sem,List.replicate_succ,List.replicate_zero,f112,f113,f115,f116,f119,f120,f122,f123,f125,f126,f128,f129,f130,f131,f136,f137,e132,e134,e135]
       cases h
       exact G0 (gs4+1) (jx hsc (.lv (.lv (.lv (.nil _)))) (by simp) ⟨.s,.s,.s,.s,.s,.s,.s,.s,trivial⟩ (by simp))
     ·replace h:=rE h (by first|exact hc|simpa using hc)
      (repeat apply sq_);refine Z6 ?_;try simp only[go_sem,f112,f113,f115,f116]
      cases h
      exact P0 gs4 (jx hsc (.lv (.lv (.lv (.nil _)))) (by simp) ⟨.s,.s,.s,.s,.s,.s,.s,.s,trivial⟩ (by simp))
    ·try simp only[go_sem]
     unfold gA at h
     refine K1 hb ?_
     have e138:(40≤top)=True:=by simp[top]
     obtain⟨⟨f139,f140⟩,h⟩:=qE h
     (repeat apply sq_);apply er_;simp only[go_sem,f139,f140,e138]
     cases h
     exact G0 (gs0+1) (jx hsc (.live _ _ _ _ (.arr _ _ _ _ _ (iL (.cons _ _ _ _ (.cons _ _ _ _ .s (.cons _ _ _ _ .s (.cons _ _ _ _ (.ref _ _ _ _ _ _ _ _ _ (fK.trans rfl) (dD (by first|decide|simp)) (by decide) (lG _) (by simp only[go_sem])) .nil))) .nil))) (.nil _)) (by simp) ⟨.s,.s,.s,.s,nF (by first|(simp;done)|simp[Fr.get]),.s,.s,trivial⟩ (by simp))
  ·replace h:=rE h (by first|exact hc|simpa using hc)
   (repeat apply sq_);refine Z6 ?_;try simp only[go_sem]
   cases h
   exact P0 gs0 (jx hsc (.lv (.nil _)) (by simp) ⟨.s,trivial⟩ (by simp))
 ·try simp only[go_sem]
  unfold gD at h
  refine K1 hb ?_
  (repeat apply sq_);apply er_;simp only[go_sem]
  (repeat apply sq_);refine EX ?_
  try simp only[go_sem]
  have hr:=Option.some.inj h
  refine Hu ?_;simp only[go_sem]
  exact nE (d':=.sl false 3 40 (rows x5.cells t0)) hsc (.ref _ _ _ _ _ _ _ _ _ (pT.trans rfl) rG (by decide) (lG _) (by simp only[go_sem])) (by simp) ⟨by subst hr;rfl,rfl⟩
end Go.Proofs.YtbgkcolebacbmaaGreatDoor
