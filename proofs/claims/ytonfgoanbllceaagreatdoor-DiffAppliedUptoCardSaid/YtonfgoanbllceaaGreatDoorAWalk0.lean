import Derived.Test.YtonfgoanbllceaaGreatDoorAMirrors
set_option linter.unusedVariables false
set_option linter.unusedSimpArgs false
set_option maxHeartbeats 2000000
set_option maxRecDepth 100000
namespace Go.Proofs.YtonfgoanbllceaaGreatDoor
open Go Go.Am
theorem fH(n:Nat)(a0:(List w8))(a1:Int)(a2:Int)(r:Bool)(h:E1 n a0 a1 a2=some r):Pure Tryz.prog gl 93 [.sl false 2 40 (rows w8.cells a0),.int .i64 a1,.int .i64 a2] (.bool r):=by
 intro st
 unfold E1 at h
 have fx:=trivial
 refine fb 45 [.tmp 6] [0,1,2,6,7,8,10,20,26,31,32,33,34] Tryz.func93 fun hsc=>?_
 refine r0 ?_
 obtain⟨fx,h⟩:=ck fx h
 have fy:=(show List.replicate a0.length [.bool false]=rows D6 (List.replicate a0.length (default:Bool))from sk (E:=D6) _ default)
 refine r1 ?_
 obtain⟨fx,h⟩:=ck fx h
 have fy:=(show(rows D6 (List.replicate a0.length (default:Bool))).getD a1.toNat []=D6 (get (List.replicate a0.length (default:Bool)) a1.toNat)from oP (E:=D6) (l:=(List.replicate a0.length (default:Bool))) (k:=a1.toNat) (by first|omega|(simp;omega)))
 have fy:=fa fy (show a1.toNat<a0.length from by first|omega|(simp;omega))
 obtain⟨c8,hc8,h⟩:=mO h
 have fy:=fa fy (show(rows D6 (List.replicate a0.length (default:Bool))).set a1.toNat [.bool true]=rows D6 c8 from by rw[hc8];first|exact ER (E:=D6) _ _ _|simp only[go_sem,rows,List.map_set])
 refine r1 ?_
 have e10:D.ref true st.length 0 0 a0.length=D.ref true st.length 0 0 c8.length:=by simp[hc8]
 simp only[e10]
 refine rn ?_
 refine H9 (body:=bD a2 a0) (kk:=bG a2) (n:=n) (s0:=(c8,a1))
  (fun(gs0:Nat) (s0:(List Bool)×Int)=>[(0,.sl false 2 40 (rows w8.cells a0)),(2,.int .i64 a2),(7,.ref true st.length gs0 0 s0.1.length),(8,.int .i64 s0.2)])
  (fun(gs0:Nat) (s0:(List Bool)×Int)=>st++[some (.arr gs0 1 1 (rows D6 s0.1))])
  (fun(gt0:Nat) (t0:(List Bool))=>[(2,.int .i64 a2),(7,.ref true st.length gt0 0 t0.length)])
  (fun(gt0:Nat) (t0:(List Bool))=>st++[some (.arr gt0 1 1 (rows D6 t0))])
  0 h (bm hsc)
  (fun gs0 s0 b0 h hx0=>?_) (fun gt0 t0 fr1 st1 h hb=>?_)
 ·unfold bD at h
  refine cd h (fun hc h=>?_) fun hc h=>?_
  ·refine r0 ?_
   refine r0 ?_
   obtain⟨fx,h⟩:=ck fx h
   have fy:=(show(rows D6 s0.1).getD s0.2.toNat []=D6 (get s0.1 s0.2.toNat)from oP (E:=D6) (l:=s0.1) (k:=s0.2.toNat) (by first|omega|(simp;omega)))
   have fy:=fa fy (show s0.2.toNat<s0.1.length from by first|omega|(simp;omega))
   refine r1 ?_
   refine cd h (fun hc h=>?_) fun hc h=>?_
   ·obtain⟨fx,h⟩:=ck fx h
    refine aln 31 fun hl2=>?_
    refine rng (body:=bE a0 s0) (kk:=bF s0) (n:=((get a0 s0.2.toNat).parents).length) (s0:=s0.1)
     (fun(gs2:Nat) (k2:Nat) (s2:(List Bool))=>[(0,.sl false 2 40 (rows w8.cells a0)),(2,.int .i64 a2),(7,.ref true st.length gs2 0 s2.length),(8,.int .i64 s0.2),(31,.sl false 1 8 (rows N3 ((get a0 s0.2.toNat).parents))),(32,.int .i64 (↑(((get a0 s0.2.toNat).parents).length):Int)),(33,.int .i64 (↑k2:Int))])
     (fun(gs2:Nat) (k2:Nat) (s2:(List Bool))=>st++[some (.arr gs2 1 1 (rows D6 s2))])
     (fun(gt2:Nat) (t2:(List Bool))=>[(0,.sl false 2 40 (rows w8.cells a0)),(2,.int .i64 a2),(7,.ref true st.length gt2 0 t2.length),(8,.int .i64 s0.2)])
     (fun(gt2:Nat) (t2:(List Bool))=>st++[some (.arr gt2 1 1 (rows D6 t2))])
     gs0 fx hl2 h (bm hsc)
     (fun gs2 k2 s2 b2 fx h hx2=>?_) (fun gs2 s2=>?_) (fun gt2 t2 fr1 st1 h hb=>?_)
    ·unfold bE at h
     refine ct ?_
     refine r0 ?_
     refine r0 ?_
     refine r0 ?_
     obtain⟨fx,h⟩:=ck fx h
     have fy:=(show(rows D6 s2).getD ((get ((get a0 s0.2.toNat).parents) k2).toNat) []=D6 (get s2 ((get ((get a0 s0.2.toNat).parents) k2).toNat))from oP (E:=D6) (l:=s2) (k:=(get ((get a0 s0.2.toNat).parents) k2).toNat) (by first|omega|(simp;omega)))
     have fy:=fa fy (show(get ((get a0 s0.2.toNat).parents) k2).toNat<s2.length from by first|omega|(simp;omega))
     obtain⟨c44,Ts,h⟩:=mO h
     have fy:=fa fy (show(rows D6 s2).set ((get ((get a0 s0.2.toNat).parents) k2).toNat) [.bool true]=rows D6 c44 from by rw[Ts];first|exact ER (E:=D6) _ _ _|simp only[go_sem,rows,List.map_set])
     refine r1 ?_
     have e46:D.ref true st.length gs2 0 s2.length=D.ref true st.length gs2 0 c44.length:=by simp[Ts]
     simp only[e46]
     refine rn ?_
     cases h
     exact aT gs2 (bm hsc)
    ·refine cf ?_
     refine X5 ?_;simp only[go_sem,fx]
     exact⟨gs2,(bm hsc)⟩
    ·try simp only[go_sem,fx]
     unfold bF at h
     refine K6 hb ?_
     refine rn ?_
     cases h
     exact I6 gt2 (bm hsc)
   ·refine rn ?_
    cases h
    exact I6 gs0 (bm hsc)
  ·refine rn ?_
   cases h
   exact T2 gs0 (bm hsc)
 ·try simp only[go_sem,fx]
  unfold bG at h
  refine K6 hb ?_
  obtain⟨fx,h⟩:=ck fx h
  have fy:=(show(rows D6 t0).getD a2.toNat []=D6 (get t0 a2.toNat)from oP (E:=D6) (l:=t0) (k:=a2.toNat) (by first|omega|(simp;omega)))
  have fy:=fa fy (show a2.toNat<t0.length from by first|omega|(simp;omega))
  refine r1 ?_
  exact rt
theorem eY(a0:(List D3))(a1:(List D3))(r:Bool)(h:L9 a0 a1=some r):Pure Tryz.prog gl 62 [.sl false 2 16 (rows D3.cells a0),.sl false 2 16 (rows D3.cells a1)] (.bool r):=by
 intro st
 unfold L9 at h
 have fx:=trivial
 refine fb 26 [.tmp 4] [0,1,4,5,10,12,13,14,24] Tryz.func62 fun hsc=>?_
 refine cd h (fun hc h=>?_) fun hc h=>?_
 ·exact rt
 ·refine aln 0 fun hl0=>?_
  refine rng (body:=ak a1 a0) (kk:=ao) (n:=a0.length) (s0:=())
   (fun(gs0:Unit) (k0:Nat) (s0:Unit)=>[(0,.sl false 2 16 (rows D3.cells a0)),(1,.sl false 2 16 (rows D3.cells a1)),(12,.int .i64 (↑a0.length:Int)),(13,.int .i64 (↑k0:Int))])
   (fun(gs0:Unit) (k0:Nat) (s0:Unit)=>st)
   (fun(gt0:Unit) (t0:Unit)=>[])
   (fun(gt0:Unit) (t0:Unit)=>st)
   () fx hl0 h (bW hsc)
   (fun gs0 k0 s0 b0 fx h hx0=>?_) (fun gs0 s0=>?_) (fun gt0 t0 fr1 st1 h hb=>?_)
  ·unfold ak at h
   refine ct ?_
   refine rn ?_
   obtain⟨fx,h⟩:=ck fx h
   refine dw [] 0 ?_
   refine cd h (fun hc h=>?_) fun hc h=>?_
   ·refine ra ?_
    cases h
    refine D4 ?_;have h:=congrArg some (hx0 _ rfl)
    exact rt
   ·refine rn ?_
    cases h
    exact aT () (bW hsc)
  ·refine cf ?_
   refine X5 ?_;simp only[go_sem,fx]
   exact⟨(),(bW hsc)⟩
  ·try simp only[go_sem,fx]
   unfold ao at h
   refine K6 hb ?_
   exact rt
theorem Y3(a0:y5)(a1:y5)(r:Bool)(h:I0 a0 a1=some r):Pure Tryz.prog gl 31 [.agg [.sl false 2 32 (rows x5.cells a0.nodes)],.agg [.sl false 2 32 (rows x5.cells a1.nodes)]] (.bool r):=by
 intro st
 unfold I0 at h
 have fx:=trivial
 refine fb 49 [.tmp 4] [0,1,2,3,4,5,12,15,16,17,33,34,35,36,37,38,39,40,41,42,43,44,45,46,47] Tryz.func31 fun hsc=>?_
 refine cd h (fun hc h=>?_) fun hc h=>?_
 ·exact rt
 ·obtain⟨fx,h⟩:=ck fx h
  refine rn ?_
  refine rng (body:=R7 a1 a0) (kk:=cM) (n:=a0.nodes.length) (s0:=())
   (fun(gs0:Unit) (k0:Nat) (s0:Unit)=>[(2,.ptr st.length 0 0 0),(3,.ptr (st.length+1) 0 0 0),(15,.int .i64 (↑a0.nodes.length:Int)),(16,.int .i64 (↑k0:Int))])
   (fun(gs0:Unit) (k0:Nat) (s0:Unit)=>st++[some (.arr 0 1 0 [[.sl false 2 32 (rows x5.cells a0.nodes)]]),some (.arr 0 1 0 [[.sl false 2 32 (rows x5.cells a1.nodes)]])])
   (fun(gt0:Unit) (t0:Unit)=>[])
   (fun(gt0:Unit) (t0:Unit)=>st)
   () fx fx.2 h (bm hsc)
   (fun gs0 k0 s0 b0 fx h hx0=>?_) (fun gs0 s0=>?_) (fun gt0 t0 fr1 st1 h hb=>?_)
  ·unfold R7 at h
   refine ct ?_
   refine rn ?_
   obtain⟨fx,h⟩:=ck fx h
   refine dw [] 0 ?_
   obtain⟨v5,hv5,h⟩:=E4 h
   refine bB (fun hG=>(eY _ _ _ (kh hv5 (by simpa using hG)))) ?_
   try simp only[go_sem,fx]
   refine cd h (fun hc h=>?_) fun hc h=>?_
   ·refine ra ?_
    cases h
    refine D4 ?_;have h:=congrArg some (hx0 _ rfl)
    exact rt
   ·refine rn ?_
    cases h
    exact aT () (bm hsc)
  ·refine cf ?_
   refine X5 ?_;simp only[go_sem,fx]
   exact⟨(),(bm0 hsc)⟩
  ·try simp only[go_sem,fx]
   unfold cM at h
   refine K6 hb ?_
   exact rt
theorem jV:∀(n:Nat) (a0:u0) (a1:u0) (r:Bool) (h:F6 n a0 a1=some r),Pure Tryz.prog gl 95 [.agg [.str a0.base,.sl false 2 40 (rows u0.cells a0.args)],.agg [.str a1.base,.sl false 2 40 (rows u0.cells a1.args)]] (.bool r):=by
 intro n
 induction n with
 |zero=>intro a0 a1 r h;cases h
 |succ n ih=>
  intro a0 a1 r h st
  unfold F6 at h
  have fx:=trivial
  refine fb 39 [.tmp 4] [0,1,2,3,4,5,12,13,14,15,16,17,18,19,22,23,24,37] Tryz.func95 fun hsc=>?_
  refine cd h (fun hc h=>?_) fun hc h=>?_
  ·exact rt
  ·obtain⟨fx,h⟩:=ck fx h
   refine rn ?_
   refine rng (body:=L3 (F6 n) a1 a0) (kk:=Y5) (n:=a0.args.length) (s0:=())
    (fun(gs0:Unit) (k0:Nat) (s0:Unit)=>[(2,.ptr st.length 0 0 0),(3,.ptr (st.length+1) 0 0 0),(22,.int .i64 (↑a0.args.length:Int)),(23,.int .i64 (↑k0:Int))])
    (fun(gs0:Unit) (k0:Nat) (s0:Unit)=>st++[some (.arr 0 2 0 [[.str a0.base,.sl false 2 40 (rows u0.cells a0.args)]]),some (.arr 0 2 0 [[.str a1.base,.sl false 2 40 (rows u0.cells a1.args)]])])
    (fun(gt0:Unit) (t0:Unit)=>[])
    (fun(gt0:Unit) (t0:Unit)=>st)
    () fx fx.2 h (bm hsc)
    (fun gs0 k0 s0 b0 fx h hx0=>?_) (fun gs0 s0=>?_) (fun gt0 t0 fr1 st1 h hb=>?_)
   ·unfold L3 at h
    refine ct ?_
    refine rn ?_
    obtain⟨fx,h⟩:=ck fx h
    refine dw [] 0 ?_
    obtain⟨v3,hv3,h⟩:=E4 h
    refine A9 (ih _ _ _ hv3) ?_
    try simp only[go_sem,fx]
    refine cd h (fun hc h=>?_) fun hc h=>?_
    ·refine ra ?_
     cases h
     refine D4 ?_;have h:=congrArg some (hx0 _ rfl)
     exact rt
    ·refine rn ?_
     cases h
     exact aT () (bm hsc)
   ·refine cf ?_
    refine X5 ?_;simp only[go_sem,fx]
    exact⟨(),(bm0 hsc)⟩
   ·try simp only[go_sem,fx]
    unfold Y5 at h
    refine K6 hb ?_
    exact rt
theorem fI:∀(n:Nat) (a0:w6) (a1:w6) (r:Bool) (h:E7 n a0 a1=some r),Pure Tryz.prog gl 73 [.agg [.int .i64 a0.kind,.str a0.name,.int .i64 a0.index,.str a0.type.base,.sl false 2 40 (rows u0.cells a0.type.args),.sl false 6 96 (rows w6.cells a0.args)],.agg [.int .i64 a1.kind,.str a1.name,.int .i64 a1.index,.str a1.type.base,.sl false 2 40 (rows u0.cells a1.type.args),.sl false 6 96 (rows w6.cells a1.args)]] (.bool r):=by
 intro n
 induction n with
 |zero=>intro a0 a1 r h;cases h
 |succ n ih=>
  intro a0 a1 r h st
  unfold E7 at h
  have fx:=trivial
  refine fb 61 [.tmp 4] [0,1,2,3,4,5,12,13,14,15,16,19,20,21,22,23,26,27,28,29,30,31,34,35,36,37,38,39,40,41,44,45,46,59] Tryz.func73 fun hsc=>?_
  refine rn ?_
  obtain⟨v1,hv1,h⟩:=E4 h
  refine P4 (fun hG=>(jV n _ _ _ (kh hv1 (by simpa using hG)))) ?_
  refine cd h (fun hc h=>?_) fun hc h=>?_
  ·exact rt
  ·obtain⟨fx,h⟩:=ck fx h
   refine rn ?_
   refine rng (body:=N8 (E7 n) a1 a0) (kk:=aQ) (n:=a0.args.length) (s0:=())
    (fun(gs0:Unit) (k0:Nat) (s0:Unit)=>[(2,.ptr st.length 0 0 0),(3,.ptr (st.length+1) 0 0 0),(44,.int .i64 (↑a0.args.length:Int)),(45,.int .i64 (↑k0:Int))])
    (fun(gs0:Unit) (k0:Nat) (s0:Unit)=>st++[some (.arr 0 6 0 [[.int .i64 a0.kind,.str a0.name,.int .i64 a0.index,.str a0.type.base,.sl false 2 40 (rows u0.cells a0.type.args),.sl false 6 96 (rows w6.cells a0.args)]]),some (.arr 0 6 0 [[.int .i64 a1.kind,.str a1.name,.int .i64 a1.index,.str a1.type.base,.sl false 2 40 (rows u0.cells a1.type.args),.sl false 6 96 (rows w6.cells a1.args)]])])
    (fun(gt0:Unit) (t0:Unit)=>[])
    (fun(gt0:Unit) (t0:Unit)=>st)
    () fx fx.2 h (bm hsc)
    (fun gs0 k0 s0 b0 fx h hx0=>?_) (fun gs0 s0=>?_) (fun gt0 t0 fr1 st1 h hb=>?_)
   ·unfold N8 at h
    refine ct ?_
    refine rn ?_
    obtain⟨fx,h⟩:=ck fx h
    refine dw [] 0 ?_
    obtain⟨v4,hv4,h⟩:=E4 h
    refine A9 (ih _ _ _ hv4) ?_
    try simp only[go_sem,fx]
    refine cd h (fun hc h=>?_) fun hc h=>?_
    ·refine ra ?_
     cases h
     refine D4 ?_;have h:=congrArg some (hx0 _ rfl)
     exact rt
    ·refine rn ?_
     cases h
     exact aT () (bm hsc)
   ·refine cf ?_
    refine X5 ?_;simp only[go_sem,fx]
    exact⟨(),(bm0 hsc)⟩
   ·try simp only[go_sem,fx]
    unfold aQ at h
    refine K6 hb ?_
    exact rt
theorem cU(n:Nat)(a0:(List w4))(a1:(List w4))(r:Bool)(h:E6 n a0 a1=some r):Pure Tryz.prog gl 32 [.sl false 10 152 (rows w4.cells a0),.sl false 10 152 (rows w4.cells a1)] (.bool r):=by
 intro st
 unfold E6 at h
 have fx:=trivial
 refine fb 62 [.tmp 4] [0,1,4,5,6,7,12,14,15,16,32,33,34,35,36,39,40,41,42,43,46,47,48,49,50,51,54,55,56,57,58,59,60] Tryz.func32 fun hsc=>?_
 refine cd h (fun hc h=>?_) fun hc h=>?_
 ·exact rt
 ·refine aln 0 fun hl0=>?_
  refine rng (body:=R8 n a1 a0) (kk:=cN) (n:=a0.length) (s0:=())
   (fun(gs0:Unit) (k0:Nat) (s0:Unit)=>[(0,.sl false 10 152 (rows w4.cells a0)),(1,.sl false 10 152 (rows w4.cells a1)),(14,.int .i64 (↑a0.length:Int)),(15,.int .i64 (↑k0:Int))])
   (fun(gs0:Unit) (k0:Nat) (s0:Unit)=>st)
   (fun(gt0:Unit) (t0:Unit)=>[])
   (fun(gt0:Unit) (t0:Unit)=>st)
   () fx hl0 h (bW hsc)
   (fun gs0 k0 s0 b0 fx h hx0=>?_) (fun gs0 s0=>?_) (fun gt0 t0 fr1 st1 h hb=>?_)
  ·unfold R8 at h
   refine ct ?_
   refine rn ?_
   obtain⟨fx,h⟩:=ck fx h
   refine dw [6,7,10] 2 ?_
   try refine⟨by(simp<;>omega),?_⟩
   refine rn ?_
   obtain⟨v5,hv5,h⟩:=E4 h
   refine P4 (fun hG=>(Y3 _ _ _ (kh hv5 (by simpa using hG)))) ?_
   refine rn ?_
   obtain⟨v6,hv6,h⟩:=E4 h
   refine P4 (fun hG=>(fI n _ _ _ (kh hv6 (by simpa using hG)))) ?_
   refine cd h (fun hc h=>?_) fun hc h=>?_
   ·refine ra ?_
    cases h
    refine D4 ?_;have h:=congrArg some (hx0 _ rfl)
    exact rt
   ·refine rn ?_
    cases h
    exact aT () (bm0 hsc)
  ·refine cf ?_
   refine X5 ?_;simp only[go_sem,fx]
   exact⟨(),(bW hsc)⟩
  ·try simp only[go_sem,fx]
   unfold cN at h
   refine K6 hb ?_
   exact rt
theorem eD(n:Nat)(a0:x7)(a1:x7)(r:Bool)(h:F5 n a0 a1=some r):Pure Tryz.prog gl 33 [.agg [.str a0.word,.sl false 2 32 (rows x5.cells a0.graph.nodes),.int .i64 a0.weight,.int .i64 a0.meaning.kind,.str a0.meaning.name,.int .i64 a0.meaning.index,.str a0.meaning.type.base,.sl false 2 40 (rows u0.cells a0.meaning.type.args),.sl false 6 96 (rows w6.cells a0.meaning.args)],.agg [.str a1.word,.sl false 2 32 (rows x5.cells a1.graph.nodes),.int .i64 a1.weight,.int .i64 a1.meaning.kind,.str a1.meaning.name,.int .i64 a1.meaning.index,.str a1.meaning.type.base,.sl false 2 40 (rows u0.cells a1.meaning.type.args),.sl false 6 96 (rows w6.cells a1.meaning.args)]] (.bool r):=by
 intro st
 unfold F5 at h
 have fx:=trivial
 refine fb 31 [.tmp 4] [0,1,2,3,4,11,12,13,14,15,18,19,20,21,22,25,26,27,28,29] Tryz.func33 fun hsc=>?_
 refine rn ?_
 obtain⟨v1,hv1,h⟩:=E4 h
 refine P4 (fun hG=>(Y3 _ _ _ (kh hv1 (by simpa using hG)))) ?_
 refine rn ?_
 obtain⟨v2,hv2,h⟩:=E4 h
 refine P4 (fun hG=>(fI n _ _ _ (kh hv2 (by simpa using hG)))) ?_
 exact rt
theorem O4(a0:Bs)(r:u0)(h:M1 a0=some r):Pure Tryz.prog gl 36 [.str a0] (.agg [.str r.base,.sl false 2 40 (rows u0.cells r.args)]):=by
 intro st
 unfold M1 at h
 have fx:=trivial
 refine fb 5 [.cell 2 63] [0,2] Tryz.func36 fun hsc=>?_
 refine rr ?_
 exact fo (.agg [.str a0,.sl false 2 40 (rows u0.cells [])]) (.agg _ _ (.cons _ _ _ _ .s (.cons _ _ _ _ (.B3 _ _ _ (by decide)) .nil))) h hsc
theorem D0(a0:u0)(a1:u0)(r:u0)(h:D2 a0 a1=some r):Pure Tryz.prog gl 37 [.agg [.str a0.base,.sl false 2 40 (rows u0.cells a0.args)],.agg [.str a1.base,.sl false 2 40 (rows u0.cells a1.args)]] (.agg [.str r.base,.sl false 2 40 (rows u0.cells r.args)]):=by
 intro st
 unfold D2 at h
 have fx:=trivial
 refine fb 9 [.cell 4 63] [0,1,2,3,4] Tryz.func37 fun hsc=>?_
 refine rr ?_
 exact fo (.agg [.str [],.sl false 2 40 (rows u0.cells [a0,a1])]) (.agg _ _ (.cons _ _ _ _ .s (.cons _ _ _ _ (.ref _ _ _ _ _ _ _ _ _ (iC.trans rfl) uX (by decide) (by simp[Imm,D.imm]) (by simp only[go_sem,rows,List.map_cons,List.map_nil])) .nil))) h hsc
theorem jI(a0:(List Bs))(a1:(List Int))(a2:(List y3))(r:w5)(h:aR a0 a1 a2=some r):Pure Tryz.prog gl 38 [.sl false 1 16 (rows Lu a0),.sl false 1 8 (rows N3 a1),.sl false 3 32 (rows y3.cells a2)] (.agg [.sl false 2 40 (rows w8.cells r.types),.sl false 3 32 (rows y3.cells r.B1)]):=by
 intro st
 unfold aR at h
 have fx:=trivial
 refine fb 38 [.cell 6 25] [0,1,2,6,7,8,9,10,11,12,13,14,21] Tryz.func38 fun hsc=>?_
 refine r0 ?_
 refine r0 ?_
 refine r0 ?_
 (repeat apply sq_)
 refine cY 2 40 ?_
 try simp only[List.append_assoc,List.cons_append,List.nil_append]
 refine K6 (F:=[(1,.sl false 1 8 (rows N3 a1)),(2,.sl false 3 32 (rows y3.cells a2)),(6,.ptr st.length 0 0 0),(7,.ptr (st.length+1) 0 0 0),(11,.sl false 1 16 (rows Lu a0)),(12,.int .i64 (↑a0.length:Int)),(13,.int .i64 0)]) (T:=st++[some (.arr 0 2 0 [[.B3,.B3]]),some (.arr 0 2 0 [[.ref false (st.length+2) 0 0 0,.B3]]),some (.arr 0 2 40 (rows w8.cells []))]) (jL hsc (.lv (.live _ _ _ _ (.arr _ _ _ _ _ (.cons _ _ _ _ (.cons _ _ _ _ (.nref _ _ _ _ _ _ (iC.trans rfl)) (.cons _ _ _ _ .s .nil)) (.same _))) (.lv (.nil _)))) (by simp) ⟨.s,.s,.s,.s,.s,.s,.s,trivial⟩ (by simp)) ?_
 refine aln 11 fun hl0=>?_
 refine rng (body:=X3 a1 a0) (kk:=X4 a2) (n:=a0.length) (s0:=[])
  (fun(gs0:Nat) (k0:Nat) (s0:(List w8))=>[(1,.sl false 1 8 (rows N3 a1)),(2,.sl false 3 32 (rows y3.cells a2)),(6,.ptr st.length 0 0 0),(7,.ptr (st.length+1) 0 0 0),(11,.sl false 1 16 (rows Lu a0)),(12,.int .i64 (↑a0.length:Int)),(13,.int .i64 (↑k0:Int))])
  (fun(gs0:Nat) (k0:Nat) (s0:(List w8))=>st++[some (.arr 0 2 0 [[.B3,.B3]]),some (.arr 0 2 0 [[.ref false (st.length+2) gs0 0 s0.length,.B3]]),some (.arr gs0 2 40 (rows w8.cells s0))])
  (fun(gt0:Nat) (t0:(List w8))=>[(2,.sl false 3 32 (rows y3.cells a2)),(6,.ptr st.length 0 0 0),(7,.ptr (st.length+1) 0 0 0)])
  (fun(gt0:Nat) (t0:(List w8))=>st++[some (.arr 0 2 0 [[.B3,.B3]]),some (.arr 0 2 0 [[.ref false (st.length+2) gt0 0 t0.length,.B3]]),some (.arr gt0 2 40 (rows w8.cells t0))])
  0 fx hl0 h (bm hsc)
  (fun gs0 k0 s0 b0 fx h hx0=>?_) (fun gs0 s0=>?_) (fun gt0 t0 fr1 st1 h hb=>?_)
 ·unfold X3 at h
  refine ct ?_
  refine cd h (fun hc h=>?_) fun hc h=>?_
  ·obtain⟨fx,h⟩:=ck fx h
   refine r0 ?_
   obtain⟨c14,QG,h⟩:=mO h
   have fy:=(show rows w8.cells s0++[[.str (get a0 k0),.sl false 1 8 [[.int .i64 (get a1 k0)]]]]=rows w8.cells c14 from by rw[QG];first|exact N9 (E:=w8.cells) s0 [(w8.mk (get a0 k0) [(get a1 k0)])]|simp only[go_sem,rows,List.map_append,List.map_cons,List.map_nil])
   have fy:=fa fy (show s0.length+1=c14.length from by rw[QG];simp)
   obtain⟨fx,h⟩:=ck fx h
   refine r1 ?_
   refine rn ?_
   cases h
   exact aT (gs0+1) (bm hsc)
  ·obtain⟨fx,h⟩:=ck fx h
   refine rn ?_
   cases h
   exact aT (gs0+1) (bm hsc (hu:=(.lv (.live _ _ _ _ (.arr _ _ _ _ _ (.cons _ _ _ _ (.cons _ _ _ _ (nU (by first|(simp;done)|simp[Fr.get])) (.cons _ _ _ _ .s .nil)) (.same _))) (.live _ _ _ _ (.arr _ _ _ _ _ (ji (.cons _ _ _ _ (.cons _ _ _ _ .s (.cons _ _ _ _ (.B3 _ _ _ (by decide)) .nil)) .nil))) (.nil _))))))
 ·refine cf ?_
  refine X5 ?_;simp only[go_sem,fx]
  exact⟨gs0,(bm hsc)⟩
 ·try simp only[go_sem,fx]
  unfold X4 at h
  refine K6 hb ?_
  refine rr ?_
  exact fo (.agg [.sl false 2 40 (rows w8.cells t0),.sl false 3 32 (rows y3.cells a2)]) (.agg _ _ (.cons _ _ _ _ (.ref _ _ _ _ _ _ _ _ _ (iC.trans rfl) uX (by decide) (lQ _) (by simp only[go_sem])) (.cons _ _ _ _ .s .nil))) h hsc
theorem y8(a0:Int)(r:w6)(h:A0 a0=some r):Pure Tryz.prog gl 46 [.int .i64 a0] (.agg [.int .i64 r.kind,.str r.name,.int .i64 r.index,.str r.type.base,.sl false 2 40 (rows u0.cells r.type.args),.sl false 6 96 (rows w6.cells r.args)]):=by
 intro st
 unfold A0 at h
 have fx:=trivial
 refine fb 5 [.cell 2 66] [0,2] Tryz.func46 fun hsc=>?_
 refine rr ?_
 exact fo (.agg [.int .i64 2,.str [],.int .i64 a0,.str [],.sl false 2 40 (rows u0.cells []),.sl false 6 96 (rows w6.cells [])]) (.agg _ _ (.cons _ _ _ _ .s (.cons _ _ _ _ .s (.cons _ _ _ _ .s (.cons _ _ _ _ .s (.cons _ _ _ _ (.B3 _ _ _ (by decide)) (.cons _ _ _ _ (.B3 _ _ _ (by decide)) .nil))))))) h hsc
theorem B8(a0:w6)(a1:w6)(r:w6)(h:C5 a0 a1=some r):Pure Tryz.prog gl 45 [.agg [.int .i64 a0.kind,.str a0.name,.int .i64 a0.index,.str a0.type.base,.sl false 2 40 (rows u0.cells a0.type.args),.sl false 6 96 (rows w6.cells a0.args)],.agg [.int .i64 a1.kind,.str a1.name,.int .i64 a1.index,.str a1.type.base,.sl false 2 40 (rows u0.cells a1.type.args),.sl false 6 96 (rows w6.cells a1.args)]] (.agg [.int .i64 r.kind,.str r.name,.int .i64 r.index,.str r.type.base,.sl false 2 40 (rows u0.cells r.type.args),.sl false 6 96 (rows w6.cells r.args)]):=by
 intro st
 unfold C5 at h
 have fx:=trivial
 refine fb 9 [.cell 4 66] [0,1,2,3,4] Tryz.func45 fun hsc=>?_
 refine rr ?_
 exact fo (.agg [.int .i64 4,.str [],.int .i64 0,.str [],.sl false 2 40 (rows u0.cells []),.sl false 6 96 (rows w6.cells [a0,a1])]) (.agg _ _ (.cons _ _ _ _ .s (.cons _ _ _ _ .s (.cons _ _ _ _ .s (.cons _ _ _ _ .s (.cons _ _ _ _ (.B3 _ _ _ (by decide)) (.cons _ _ _ _ (.ref _ _ _ _ _ _ _ _ _ (iC.trans rfl) uX (by decide) (by simp[Imm,D.imm]) (by simp only[go_sem,rows,List.map_cons,List.map_nil])) .nil))))))) h hsc
theorem B0(a0:u0)(a1:w6)(r:w6)(h:B5 a0 a1=some r):Pure Tryz.prog gl 44 [.agg [.str a0.base,.sl false 2 40 (rows u0.cells a0.args)],.agg [.int .i64 a1.kind,.str a1.name,.int .i64 a1.index,.str a1.type.base,.sl false 2 40 (rows u0.cells a1.type.args),.sl false 6 96 (rows w6.cells a1.args)]] (.agg [.int .i64 r.kind,.str r.name,.int .i64 r.index,.str r.type.base,.sl false 2 40 (rows u0.cells r.type.args),.sl false 6 96 (rows w6.cells r.args)]):=by
 intro st
 unfold B5 at h
 have fx:=trivial
 refine fb 9 [.cell 4 66] [0,1,2,3,4] Tryz.func44 fun hsc=>?_
 refine rr ?_
 exact fo (.agg [.int .i64 3,.str [],.int .i64 0,.str a0.base,.sl false 2 40 (rows u0.cells a0.args),.sl false 6 96 (rows w6.cells [a1])]) (.agg _ _ (.cons _ _ _ _ .s (.cons _ _ _ _ .s (.cons _ _ _ _ .s (.cons _ _ _ _ .s (.cons _ _ _ _ .s (.cons _ _ _ _ (.ref _ _ _ _ _ _ _ _ _ (iC.trans rfl) uX (by decide) (by simp[Imm,D.imm]) (by simp only[go_sem,rows,List.map_cons,List.map_nil])) .nil))))))) h hsc
theorem lE(a0:Bool)(r:(List w6))(h:cO a0=some r):Pure Tryz.prog gl 39 [.bool a0] (.sl false 6 96 (rows w6.cells r)):=by
 intro st
 unfold cO at h
 have fx:=trivial
 refine fb 128 [.tmp 2] [0,2,3,4,5,6,7,8,9,91] Tryz.func39 fun hsc=>?_
 refine cl h (O4 _) fun v1 h=>?_
 refine cl h (O4 _) fun v2 h=>?_
 refine cl h (D0 _ _) fun v3 h=>?_
 refine cl h (D0 _ _) fun v4 h=>?_
 refine cl h (D0 _ _) fun v5 h=>?_
 refine cl h (D0 _ _) fun v6 h=>?_
 refine rn ?_
 refine dw [] 1 ?_
 obtain⟨v7,hv7,h⟩:=E4 h
 refine A9 (y8 _ _ hv7) ?_
 try simp only[go_sem,fx]
 obtain⟨v8,hv8,h⟩:=E4 h
 refine A9 (y8 _ _ hv8) ?_
 try simp only[go_sem,fx]
 obtain⟨v9,hv9,h⟩:=E4 h
 refine A9 (B8 _ _ _ hv9) ?_
 try simp only[go_sem,fx]
 obtain⟨v10,hv10,h⟩:=E4 h
 refine A9 (B0 _ _ _ hv10) ?_
 try simp only[go_sem,fx]
 obtain⟨v11,hv11,h⟩:=E4 h
 refine A9 (B0 _ _ _ hv11) ?_
 try simp only[go_sem,fx]
 obtain⟨v12,hv12,h⟩:=E4 h
 refine A9 (y8 _ _ hv12) ?_
 try simp only[go_sem,fx]
 obtain⟨v13,hv13,h⟩:=E4 h
 refine A9 (y8 _ _ hv13) ?_
 try simp only[go_sem,fx]
 obtain⟨v14,hv14,h⟩:=E4 h
 refine A9 (B8 _ _ _ hv14) ?_
 try simp only[go_sem,fx]
 obtain⟨v15,hv15,h⟩:=E4 h
 refine A9 (B0 _ _ _ hv15) ?_
 try simp only[go_sem,fx]
 obtain⟨v16,hv16,h⟩:=E4 h
 refine A9 (B0 _ _ _ hv16) ?_
 try simp only[go_sem,fx]
 obtain⟨v17,hv17,h⟩:=E4 h
 refine A9 (y8 _ _ hv17) ?_
 try simp only[go_sem,fx]
 obtain⟨v18,hv18,h⟩:=E4 h
 refine A9 (B0 _ _ _ hv18) ?_
 try simp only[go_sem,fx]
 obtain⟨v19,hv19,h⟩:=E4 h
 refine A9 (y8 _ _ hv19) ?_
 try simp only[go_sem,fx]
 obtain⟨v20,hv20,h⟩:=E4 h
 refine A9 (y8 _ _ hv20) ?_
 try simp only[go_sem,fx]
 obtain⟨v21,hv21,h⟩:=E4 h
 refine A9 (y8 _ _ hv21) ?_
 try simp only[go_sem,fx]
 obtain⟨v22,hv22,h⟩:=E4 h
 refine A9 (B8 _ _ _ hv22) ?_
 try simp only[go_sem,fx]
 obtain⟨v23,hv23,h⟩:=E4 h
 refine A9 (y8 _ _ hv23) ?_
 try simp only[go_sem,fx]
 obtain⟨v24,hv24,h⟩:=E4 h
 refine A9 (B8 _ _ _ hv24) ?_
 try simp only[go_sem,fx]
 obtain⟨v25,hv25,h⟩:=E4 h
 refine A9 (B0 _ _ _ hv25) ?_
 try simp only[go_sem,fx]
 obtain⟨v26,hv26,h⟩:=E4 h
 refine A9 (B8 _ _ _ hv26) ?_
 try simp only[go_sem,fx]
 obtain⟨v27,hv27,h⟩:=E4 h
 refine A9 (B0 _ _ _ hv27) ?_
 try simp only[go_sem,fx]
 obtain⟨v28,hv28,h⟩:=E4 h
 refine A9 (B0 _ _ _ hv28) ?_
 try simp only[go_sem,fx]
 obtain⟨v29,hv29,h⟩:=E4 h
 refine A9 (B0 _ _ _ hv29) ?_
 try simp only[go_sem,fx]
 obtain⟨v30,hv30,h⟩:=E4 h
 refine A9 (D0 _ _ _ hv30) ?_
 try simp only[go_sem,fx]
 obtain⟨v31,hv31,h⟩:=E4 h
 refine A9 (y8 _ _ hv31) ?_
 try simp only[go_sem,fx]
 obtain⟨v32,hv32,h⟩:=E4 h
 refine A9 (y8 _ _ hv32) ?_
 try simp only[go_sem,fx]
 obtain⟨v33,hv33,h⟩:=E4 h
 refine A9 (y8 _ _ hv33) ?_
 try simp only[go_sem,fx]
 obtain⟨v34,hv34,h⟩:=E4 h
 refine A9 (B8 _ _ _ hv34) ?_
 try simp only[go_sem,fx]
 obtain⟨v35,hv35,h⟩:=E4 h
 refine A9 (B8 _ _ _ hv35) ?_
 try simp only[go_sem,fx]
 obtain⟨v36,hv36,h⟩:=E4 h
 refine A9 (B0 _ _ _ hv36) ?_
 try simp only[go_sem,fx]
 obtain⟨v37,hv37,h⟩:=E4 h
 refine A9 (B0 _ _ _ hv37) ?_
 try simp only[go_sem,fx]
 obtain⟨v38,hv38,h⟩:=E4 h
 refine A9 (B0 _ _ _ hv38) ?_
 try simp only[go_sem,fx]
 obtain⟨v39,hv39,h⟩:=E4 h
 refine A9 (D0 _ _ _ hv39) ?_
 try simp only[go_sem,fx]
 obtain⟨v40,hv40,h⟩:=E4 h
 refine A9 (D0 _ _ _ hv40) ?_
 try simp only[go_sem,fx]
 obtain⟨v41,hv41,h⟩:=E4 h
 refine A9 (y8 _ _ hv41) ?_
 try simp only[go_sem,fx]
 obtain⟨v42,hv42,h⟩:=E4 h
 refine A9 (y8 _ _ hv42) ?_
 try simp only[go_sem,fx]
 obtain⟨v43,hv43,h⟩:=E4 h
 refine A9 (y8 _ _ hv43) ?_
 try simp only[go_sem,fx]
 obtain⟨v44,hv44,h⟩:=E4 h
 refine A9 (B8 _ _ _ hv44) ?_
 try simp only[go_sem,fx]
 obtain⟨v45,hv45,h⟩:=E4 h
 refine A9 (B8 _ _ _ hv45) ?_
 try simp only[go_sem,fx]
 obtain⟨v46,hv46,h⟩:=E4 h
 refine A9 (y8 _ _ hv46) ?_
 try simp only[go_sem,fx]
 obtain⟨v47,hv47,h⟩:=E4 h
 refine A9 (y8 _ _ hv47) ?_
 try simp only[go_sem,fx]
 obtain⟨v48,hv48,h⟩:=E4 h
 refine A9 (B8 _ _ _ hv48) ?_
 try simp only[go_sem,fx]
 obtain⟨v49,hv49,h⟩:=E4 h
 refine A9 (B8 _ _ _ hv49) ?_
 try simp only[go_sem,fx]
 obtain⟨v50,hv50,h⟩:=E4 h
 refine A9 (B0 _ _ _ hv50) ?_
 try simp only[go_sem,fx]
 obtain⟨v51,hv51,h⟩:=E4 h
 refine A9 (B0 _ _ _ hv51) ?_
 try simp only[go_sem,fx]
 obtain⟨v52,hv52,h⟩:=E4 h
 refine A9 (B0 _ _ _ hv52) ?_
 try simp only[go_sem,fx]
 obtain⟨v53,hv53,h⟩:=E4 h
 refine A9 (B0 _ _ _ hv53) ?_
 try simp only[go_sem,fx]
 refine cd h (fun hc h=>?_) fun hc h=>?_
 ·refine rs ?_
  refine dw [] 0 ?_
  obtain⟨v55,hv55,h⟩:=E4 h
  refine A9 (y8 _ _ hv55) ?_
  try simp only[go_sem,fx]
  obtain⟨v56,hv56,h⟩:=E4 h
  refine A9 (y8 _ _ hv56) ?_
  try simp only[go_sem,fx]
  obtain⟨v57,hv57,h⟩:=E4 h
  refine A9 (B8 _ _ _ hv57) ?_
  try simp only[go_sem,fx]
  obtain⟨v58,hv58,h⟩:=E4 h
  refine A9 (B0 _ _ _ hv58) ?_
  try simp only[go_sem,fx]
  obtain⟨v59,hv59,h⟩:=E4 h
  refine A9 (B0 _ _ _ hv59) ?_
  try simp only[go_sem,fx]
  refine rs ?_
  refine dw [] 0 ?_
  obtain⟨v60,hv60,h⟩:=E4 h
  refine A9 (y8 _ _ hv60) ?_
  try simp only[go_sem,fx]
  obtain⟨v61,hv61,h⟩:=E4 h
  refine A9 (y8 _ _ hv61) ?_
  try simp only[go_sem,fx]
  obtain⟨v62,hv62,h⟩:=E4 h
  refine A9 (B8 _ _ _ hv62) ?_
  try simp only[go_sem,fx]
  obtain⟨v63,hv63,h⟩:=E4 h
  refine A9 (B0 _ _ _ hv63) ?_
  try simp only[go_sem,fx]
  obtain⟨v64,hv64,h⟩:=E4 h
  refine A9 (B0 _ _ _ hv64) ?_
  try simp only[go_sem,fx]
  refine rs ?_
  refine dw [] 0 ?_
  obtain⟨v65,hv65,h⟩:=E4 h
  refine A9 (y8 _ _ hv65) ?_
  try simp only[go_sem,fx]
  obtain⟨v66,hv66,h⟩:=E4 h
  refine A9 (y8 _ _ hv66) ?_
  try simp only[go_sem,fx]
  obtain⟨v67,hv67,h⟩:=E4 h
  refine A9 (y8 _ _ hv67) ?_
  try simp only[go_sem,fx]
  obtain⟨v68,hv68,h⟩:=E4 h
  refine A9 (B8 _ _ _ hv68) ?_
  try simp only[go_sem,fx]
  obtain⟨v69,hv69,h⟩:=E4 h
  refine A9 (y8 _ _ hv69) ?_
  try simp only[go_sem,fx]
  obtain⟨v70,hv70,h⟩:=E4 h
  refine A9 (B8 _ _ _ hv70) ?_
  try simp only[go_sem,fx]
  obtain⟨v71,hv71,h⟩:=E4 h
  refine A9 (B0 _ _ _ hv71) ?_
  try simp only[go_sem,fx]
  obtain⟨v72,hv72,h⟩:=E4 h
  refine A9 (B8 _ _ _ hv72) ?_
  try simp only[go_sem,fx]
  obtain⟨v73,hv73,h⟩:=E4 h
  refine A9 (B0 _ _ _ hv73) ?_
  try simp only[go_sem,fx]
  obtain⟨v74,hv74,h⟩:=E4 h
  refine A9 (B0 _ _ _ hv74) ?_
  try simp only[go_sem,fx]
  obtain⟨v75,hv75,h⟩:=E4 h
  refine A9 (B0 _ _ _ hv75) ?_
  try simp only[go_sem,fx]
  refine rr ?_
  exact fo (.sl false 6 96 (rows w6.cells [v59,v64,v18,v75,v38,v53])) (.ref _ _ _ _ _ _ _ _ _ (iC.trans rfl) uX (by decide) (by simp[Imm,D.imm]) (by simp only[go_sem,rows,List.map_cons,List.map_nil])) h hsc
 ·refine rr ?_
  exact fo (.sl false 6 96 (rows w6.cells [v11,v16,v18,v29,v38,v53])) (.ref _ _ _ _ _ _ _ _ _ (iC.trans rfl) uX (by decide) (by simp[Imm,D.imm]) (by simp only[go_sem,rows,List.map_cons,List.map_nil])) h hsc
end Go.Proofs.YtonfgoanbllceaaGreatDoor
