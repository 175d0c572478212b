import Derived.Test.YtfogbhjeihkliaaGreatDoorDXMirrors
set_option linter.unusedVariables false
set_option linter.unusedSimpArgs false
set_option maxHeartbeats 2000000
set_option maxRecDepth 100000
namespace Go.Proofs.YtfogbhjeihkliaaGreatDoor
open Go Go.Am
theorem iP(n:Nat)(a0:(List x7))(a1:Int)(a2:Int)(r:Bool)(h:F8 n a0 a1 a2=some r):Pure Tryz.prog gl 89 [.sl false 2 40 (rows x7.cells a0),.int .i64 a1,.int .i64 a2] (.bool r):=by
 intro st
 unfold F8 at h
 have fx:=trivial
 refine fb 45 [.tmp 6] [0,1,2,6,7,8,10,20,26,31,32,33,34] Tryz.func89 fun hsc=>?_
 refine r0 ?_
 obtain⟨fx,h⟩:=ck fx h
 have fy:=(show List.replicate a0.length [.bool false]=rows J9 (List.replicate a0.length (default:Bool))from tP (E:=J9) _ default)
 refine r1 ?_
 obtain⟨fx,h⟩:=ck fx h
 have fy:=(show(rows J9 (List.replicate a0.length (default:Bool))).getD a1.toNat []=J9 (get (List.replicate a0.length (default:Bool)) a1.toNat)from qg (E:=J9) (l:=(List.replicate a0.length (default:Bool))) (k:=a1.toNat) (by first|omega|(simp;omega)))
 have fy:=fa fy (show a1.toNat<a0.length from by first|omega|(simp;omega))
 obtain⟨c8,hc8,h⟩:=oz h
 have fy:=fa fy (show(rows J9 (List.replicate a0.length (default:Bool))).set a1.toNat [.bool true]=rows J9 c8 from by rw[hc8];first|exact CF (E:=J9) _ _ _|simp only[go_sem,rows,List.map_set])
 refine r1 ?_
 have e10:D.ref true st.length 0 0 a0.length=D.ref true st.length 0 0 c8.length:=by simp[hc8]
 simp only[e10]
 refine rn ?_
 refine E8 (body:=eM a2 a0) (kk:=eP a2) (n:=n) (s0:=(c8,a1))
  (fun(gs0:Nat) (s0:(List Bool)×Int)=>[(0,.sl false 2 40 (rows x7.cells a0)),(2,.int .i64 a2),(7,.ref true st.length gs0 0 s0.1.length),(8,.int .i64 s0.2)])
  (fun(gs0:Nat) (s0:(List Bool)×Int)=>st++[some (.arr gs0 1 1 (rows J9 s0.1))])
  (fun(gt0:Nat) (t0:(List Bool))=>[(2,.int .i64 a2),(7,.ref true st.length gt0 0 t0.length)])
  (fun(gt0:Nat) (t0:(List Bool))=>st++[some (.arr gt0 1 1 (rows J9 t0))])
  0 h (bm hsc)
  (fun gs0 s0 b0 h hx0=>?_) (fun gt0 t0 fr1 st1 h hb=>?_)
 ·unfold eM at h
  refine cd h (fun hc h=>?_) fun hc h=>?_
  ·refine r0 ?_
   refine r0 ?_
   obtain⟨fx,h⟩:=ck fx h
   have fy:=(show(rows J9 s0.1).getD s0.2.toNat []=J9 (get s0.1 s0.2.toNat)from qg (E:=J9) (l:=s0.1) (k:=s0.2.toNat) (by first|omega|(simp;omega)))
   have fy:=fa fy (show s0.2.toNat<s0.1.length from by first|omega|(simp;omega))
   refine r1 ?_
   refine cd h (fun hc h=>?_) fun hc h=>?_
   ·obtain⟨fx,h⟩:=ck fx h
    refine aln 31 fun hl2=>?_
    refine rng (body:=eN a0 s0) (kk:=eO s0) (n:=((get a0 s0.2.toNat).parents).length) (s0:=s0.1)
     (fun(gs2:Nat) (k2:Nat) (s2:(List Bool))=>[(0,.sl false 2 40 (rows x7.cells a0)),(2,.int .i64 a2),(7,.ref true st.length gs2 0 s2.length),(8,.int .i64 s0.2),(31,.sl false 1 8 (rows Z4 ((get a0 s0.2.toNat).parents))),(32,.int .i64 (↑(((get a0 s0.2.toNat).parents).length):Int)),(33,.int .i64 (↑k2:Int))])
     (fun(gs2:Nat) (k2:Nat) (s2:(List Bool))=>st++[some (.arr gs2 1 1 (rows J9 s2))])
     (fun(gt2:Nat) (t2:(List Bool))=>[(0,.sl false 2 40 (rows x7.cells a0)),(2,.int .i64 a2),(7,.ref true st.length gt2 0 t2.length),(8,.int .i64 s0.2)])
     (fun(gt2:Nat) (t2:(List Bool))=>st++[some (.arr gt2 1 1 (rows J9 t2))])
     gs0 fx hl2 h (bm hsc)
     (fun gs2 k2 s2 b2 fx h hx2=>?_) (fun gs2 s2=>?_) (fun gt2 t2 fr1 st1 h hb=>?_)
    ·unfold eN at h
     refine ct ?_
     refine r0 ?_
     refine r0 ?_
     refine r0 ?_
     obtain⟨fx,h⟩:=ck fx h
     have fy:=(show(rows J9 s2).getD ((get ((get a0 s0.2.toNat).parents) k2).toNat) []=J9 (get s2 ((get ((get a0 s0.2.toNat).parents) k2).toNat))from qg (E:=J9) (l:=s2) (k:=(get ((get a0 s0.2.toNat).parents) k2).toNat) (by first|omega|(simp;omega)))
     have fy:=fa fy (show(get ((get a0 s0.2.toNat).parents) k2).toNat<s2.length from by first|omega|(simp;omega))
     obtain⟨c44,UN,h⟩:=oz h
     have fy:=fa fy (show(rows J9 s2).set ((get ((get a0 s0.2.toNat).parents) k2).toNat) [.bool true]=rows J9 c44 from by rw[UN];first|exact CF (E:=J9) _ _ _|simp only[go_sem,rows,List.map_set])
     refine r1 ?_
     have e46:D.ref true st.length gs2 0 s2.length=D.ref true st.length gs2 0 c44.length:=by simp[UN]
     simp only[e46]
     refine rn ?_
     cases h
     exact gW gs2 (bm hsc)
    ·refine cf ?_
     refine gV ?_;simp only[go_sem,fx]
     exact⟨gs2,(bm hsc)⟩
    ·try simp only[go_sem,fx]
     unfold eO at h
     refine R4 hb ?_
     refine rn ?_
     cases h
     exact F5 gt2 (bm hsc)
   ·refine rn ?_
    cases h
    exact F5 gs0 (bm hsc)
  ·refine rn ?_
   cases h
   exact K7 gs0 (bm hsc)
 ·try simp only[go_sem,fx]
  unfold eP at h
  refine R4 hb ?_
  obtain⟨fx,h⟩:=ck fx h
  have fy:=(show(rows J9 t0).getD a2.toNat []=J9 (get t0 a2.toNat)from qg (E:=J9) (l:=t0) (k:=a2.toNat) (by first|omega|(simp;omega)))
  have fy:=fa fy (show a2.toNat<t0.length from by first|omega|(simp;omega))
  refine r1 ?_
  exact rt
theorem sJ(a0:Int)(r:Bool)(h:nZ a0=some r):Pure Tryz.prog gl 112 [.int .i64 a0] (.bool r):=by
 intro st
 unfold nZ at h
 have fx:=trivial
 refine fb 6 [.tmp 2] [0,2] Tryz.func112 fun hsc=>?_
 exact rt
theorem eH(a0:Int)(a1:Int)(r:Int)(h:T7 a0 a1=some r):Pure Tryz.prog gl 81 [.int .i64 a0,.int .i64 a1] (.int .i64 r):=by
 intro st
 unfold T7 at h
 have fx:=trivial
 refine fb 20 [.tmp 4] [0,1,4,5,6,11,12,13,16,19] Tryz.func81 fun hsc=>?_
 refine cl h (sJ _) fun v1 h=>?_
 refine cl h (sJ _) fun v2 h=>?_
 refine cd h (fun hc h=>?_) fun hc h=>?_
 ·refine cd h (fun hc h=>?_) fun hc h=>?_
  ·exact rt
  ·exact rt
 ·refine cd h (fun hc h=>?_) fun hc h=>?_
  ·exact rt
  ·refine cd h (fun hc h=>?_) fun hc h=>?_
   ·exact rt
   ·refine cd h (fun hc h=>?_) fun hc h=>?_
    ·exact rt
    ·exact rt
theorem Fh(a0:(List Int))(r:Int)(h:qz a0=some r):Pure Tryz.prog gl 80 [.sl false 1 8 (rows Z4 a0)] (.int .i64 r):=by
 intro st
 unfold qz at h
 have fx:=trivial
 refine fb 18 [.tmp 2] [0,2,3,5,6,7,8,9,14] Tryz.func80 fun hsc=>?_
 refine aln 6 fun hl0=>?_
 refine rng (body:=nW a0) (kk:=nX) (n:=a0.length) (s0:=())
  (fun(gs0:Unit) (k0:Nat) (s0:Unit)=>[(3,.int .i64 0),(6,.sl false 1 8 (rows Z4 a0)),(7,.int .i64 (↑a0.length:Int)),(8,.int .i64 (↑k0:Int))])
  (fun(gs0:Unit) (k0:Nat) (s0:Unit)=>st)
  (fun(gt0:Unit) (t0:Unit)=>[(3,.int .i64 0)])
  (fun(gt0:Unit) (t0:Unit)=>st)
  () fx hl0 h (gX hsc)
  (fun gs0 k0 s0 b0 fx h hx0=>?_) (fun gs0 s0=>?_) (fun gt0 t0 fr1 st1 h hb=>?_)
 ·unfold nW at h
  refine ct ?_
  refine cd h (fun hc h=>?_) fun hc h=>?_
  ·refine ra ?_
   cases h
   refine F4 ?_;have h:=congrArg some (hx0 _ rfl)
   exact rt
  ·refine rn ?_
   cases h
   exact gW () (gX hsc)
 ·refine cf ?_
  refine gV ?_;simp only[go_sem,fx]
  exact⟨(),(gX hsc)⟩
 ·try simp only[go_sem,fx]
  unfold nX at h
  refine R4 hb ?_
  exact rt
theorem dU(a0:w5)(a1:w5)(r:Int)(h:T4 a0 a1=some r):Pure Tryz.prog gl 54 [.agg [.int .i64 a0.from_,.int .i64 a0.to_,.int .i64 a0.level,.int .i64 a0.rule,.int .i64 a0.lex],.agg [.int .i64 a1.from_,.int .i64 a1.to_,.int .i64 a1.level,.int .i64 a1.rule,.int .i64 a1.lex]] (.int .i64 r):=by
 intro st
 unfold T4 at h
 have fx:=trivial
 refine fb 32 [.tmp 4] [0,1,2,3,4] Tryz.func54 fun hsc=>?_
 refine rn ?_
 refine dw [] 1 ?_
 obtain⟨v1,hv1,h⟩:=F9 h
 refine A9 (eH _ _ _ hv1) ?_
 try simp only[go_sem,fx]
 obtain⟨v2,hv2,h⟩:=F9 h
 refine A9 (eH _ _ _ hv2) ?_
 try simp only[go_sem,fx]
 obtain⟨v3,hv3,h⟩:=F9 h
 refine A9 (eH _ _ _ hv3) ?_
 try simp only[go_sem,fx]
 obtain⟨v4,hv4,h⟩:=F9 h
 refine A9 (eH _ _ _ hv4) ?_
 try simp only[go_sem,fx]
 obtain⟨v5,hv5,h⟩:=F9 h
 refine A9 (eH _ _ _ hv5) ?_
 try simp only[go_sem,fx]
 obtain⟨v7,hv7,h⟩:=F9 h
 refine A9 (Fh _ _ hv7) ?_
 try simp only[go_sem,fx]
 exact rt
theorem U2(a0:Bs)(r:w6)(h:R5 a0=some r):Pure Tryz.prog gl 37 [.str a0] (.agg [.str r.base,.sl false 2 40 (rows w6.cells r.args)]):=by
 intro st
 unfold R5 at h
 have fx:=trivial
 refine fb 5 [.cell 2 83] [0,2] Tryz.func37 fun hsc=>?_
 refine rr ?_
 exact fo (.agg [.str a0,.sl false 2 40 (rows w6.cells [])]) (.agg _ _ (.cons _ _ _ _ .s (.cons _ _ _ _ (.F6 _ _ _ (by decide)) .nil))) h hsc
theorem D6(a0:w6)(a1:w6)(r:w6)(h:D9 a0 a1=some r):Pure Tryz.prog gl 38 [.agg [.str a0.base,.sl false 2 40 (rows w6.cells a0.args)],.agg [.str a1.base,.sl false 2 40 (rows w6.cells a1.args)]] (.agg [.str r.base,.sl false 2 40 (rows w6.cells r.args)]):=by
 intro st
 unfold D9 at h
 have fx:=trivial
 refine fb 9 [.cell 4 83] [0,1,2,3,4] Tryz.func38 fun hsc=>?_
 refine rr ?_
 exact fo (.agg [.str [],.sl false 2 40 (rows w6.cells [a0,a1])]) (.agg _ _ (.cons _ _ _ _ .s (.cons _ _ _ _ (.ref _ _ _ _ _ _ _ _ _ (pL.trans rfl) zq (by decide) (by simp[Imm,D.imm]) (by simp only[go_sem,rows,List.map_cons,List.map_nil])) .nil))) h hsc
theorem mw(a0:(List Bs))(a1:(List Int))(a2:(List y8))(r:y6)(h:dA a0 a1 a2=some r):Pure Tryz.prog gl 39 [.sl false 1 16 (rows pA a0),.sl false 1 8 (rows Z4 a1),.sl false 3 32 (rows y8.cells a2)] (.agg [.sl false 2 40 (rows x7.cells r.types),.sl false 3 32 (rows y8.cells r.C1)]):=by
 intro st
 unfold dA at h
 have fx:=trivial
 refine fb 38 [.cell 6 25] [0,1,2,6,7,8,9,10,11,12,13,14,21] Tryz.func39 fun hsc=>?_
 refine r0 ?_
 refine r0 ?_
 refine r0 ?_
 (repeat apply sq_)
 refine oI 2 40 ?_
 try simp only[List.append_assoc,List.cons_append,List.nil_append]
 refine R4 (F:=[(1,.sl false 1 8 (rows Z4 a1)),(2,.sl false 3 32 (rows y8.cells a2)),(6,.ptr st.length 0 0 0),(7,.ptr (st.length+1) 0 0 0),(11,.sl false 1 16 (rows pA a0)),(12,.int .i64 (↑a0.length:Int)),(13,.int .i64 0)]) (T:=st++[some (.arr 0 2 0 [[.F6,.F6]]),some (.arr 0 2 0 [[.ref false (st.length+2) 0 0 0,.F6]]),some (.arr 0 2 40 (rows x7.cells []))]) (Af hsc (.lv (.live _ _ _ _ (.arr _ _ _ _ _ (.cons _ _ _ _ (.cons _ _ _ _ (.nref _ _ _ _ _ _ (pL.trans rfl)) (.cons _ _ _ _ .s .nil)) (.same _))) (.lv (.nil _)))) (by simp) ⟨.s,.s,.s,.s,.s,.s,.s,trivial⟩ (by simp)) ?_
 refine aln 11 fun hl0=>?_
 refine rng (body:=bM a1 a0) (kk:=bN a2) (n:=a0.length) (s0:=[])
  (fun(gs0:Nat) (k0:Nat) (s0:(List x7))=>[(1,.sl false 1 8 (rows Z4 a1)),(2,.sl false 3 32 (rows y8.cells a2)),(6,.ptr st.length 0 0 0),(7,.ptr (st.length+1) 0 0 0),(11,.sl false 1 16 (rows pA a0)),(12,.int .i64 (↑a0.length:Int)),(13,.int .i64 (↑k0:Int))])
  (fun(gs0:Nat) (k0:Nat) (s0:(List x7))=>st++[some (.arr 0 2 0 [[.F6,.F6]]),some (.arr 0 2 0 [[.ref false (st.length+2) gs0 0 s0.length,.F6]]),some (.arr gs0 2 40 (rows x7.cells s0))])
  (fun(gt0:Nat) (t0:(List x7))=>[(2,.sl false 3 32 (rows y8.cells a2)),(6,.ptr st.length 0 0 0),(7,.ptr (st.length+1) 0 0 0)])
  (fun(gt0:Nat) (t0:(List x7))=>st++[some (.arr 0 2 0 [[.F6,.F6]]),some (.arr 0 2 0 [[.ref false (st.length+2) gt0 0 t0.length,.F6]]),some (.arr gt0 2 40 (rows x7.cells t0))])
  0 fx hl0 h (bm hsc)
  (fun gs0 k0 s0 b0 fx h hx0=>?_) (fun gs0 s0=>?_) (fun gt0 t0 fr1 st1 h hb=>?_)
 ·unfold bM at h
  refine ct ?_
  refine cd h (fun hc h=>?_) fun hc h=>?_
  ·obtain⟨fx,h⟩:=ck fx h
   refine r0 ?_
   obtain⟨c14,RP,h⟩:=oz h
   have fy:=(show rows x7.cells s0++[[.str (get a0 k0),.sl false 1 8 [[.int .i64 (get a1 k0)]]]]=rows x7.cells c14 from by rw[RP];first|exact U8 (E:=x7.cells) s0 [(x7.mk (get a0 k0) [(get a1 k0)])]|simp only[go_sem,rows,List.map_append,List.map_cons,List.map_nil])
   have fy:=fa fy (show s0.length+1=c14.length from by rw[RP];simp)
   obtain⟨fx,h⟩:=ck fx h
   refine r1 ?_
   refine rn ?_
   cases h
   exact gW (gs0+1) (bm hsc)
  ·obtain⟨fx,h⟩:=ck fx h
   refine rn ?_
   cases h
   exact gW (gs0+1) (bm hsc (hu:=(.lv (.live _ _ _ _ (.arr _ _ _ _ _ (.cons _ _ _ _ (.cons _ _ _ _ (IW (by first|(simp;done)|simp[Fr.get])) (.cons _ _ _ _ .s .nil)) (.same _))) (.live _ _ _ _ (.arr _ _ _ _ _ (yg (.cons _ _ _ _ (.cons _ _ _ _ .s (.cons _ _ _ _ (.F6 _ _ _ (by decide)) .nil)) .nil))) (.nil _))))))
 ·refine cf ?_
  refine gV ?_;simp only[go_sem,fx]
  exact⟨gs0,(bm hsc)⟩
 ·try simp only[go_sem,fx]
  unfold bN at h
  refine R4 hb ?_
  refine rr ?_
  exact fo (.agg [.sl false 2 40 (rows x7.cells t0),.sl false 3 32 (rows y8.cells a2)]) (.agg _ _ (.cons _ _ _ _ (.ref _ _ _ _ _ _ _ _ _ (pL.trans rfl) zq (by decide) (ru _) (by simp only[go_sem])) (.cons _ _ _ _ .s .nil))) h hsc
theorem y9(a0:Int)(r:x9)(h:A0 a0=some r):Pure Tryz.prog gl 47 [.int .i64 a0] (.agg [.int .i64 r.kind,.str r.name,.int .i64 r.index,.str r.type.base,.sl false 2 40 (rows w6.cells r.type.args),.sl false 6 96 (rows x9.cells r.args)]):=by
 intro st
 unfold A0 at h
 have fx:=trivial
 refine fb 5 [.cell 2 92] [0,2] Tryz.func47 fun hsc=>?_
 refine rr ?_
 exact fo (.agg [.int .i64 2,.str [],.int .i64 a0,.str [],.sl false 2 40 (rows w6.cells []),.sl false 6 96 (rows x9.cells [])]) (.agg _ _ (.cons _ _ _ _ .s (.cons _ _ _ _ .s (.cons _ _ _ _ .s (.cons _ _ _ _ .s (.cons _ _ _ _ (.F6 _ _ _ (by decide)) (.cons _ _ _ _ (.F6 _ _ _ (by decide)) .nil))))))) h hsc
theorem B6(a0:x9)(a1:x9)(r:x9)(h:C2 a0 a1=some r):Pure Tryz.prog gl 46 [.agg [.int .i64 a0.kind,.str a0.name,.int .i64 a0.index,.str a0.type.base,.sl false 2 40 (rows w6.cells a0.type.args),.sl false 6 96 (rows x9.cells a0.args)],.agg [.int .i64 a1.kind,.str a1.name,.int .i64 a1.index,.str a1.type.base,.sl false 2 40 (rows w6.cells a1.type.args),.sl false 6 96 (rows x9.cells a1.args)]] (.agg [.int .i64 r.kind,.str r.name,.int .i64 r.index,.str r.type.base,.sl false 2 40 (rows w6.cells r.type.args),.sl false 6 96 (rows x9.cells r.args)]):=by
 intro st
 unfold C2 at h
 have fx:=trivial
 refine fb 9 [.cell 4 92] [0,1,2,3,4] Tryz.func46 fun hsc=>?_
 refine rr ?_
 exact fo (.agg [.int .i64 4,.str [],.int .i64 0,.str [],.sl false 2 40 (rows w6.cells []),.sl false 6 96 (rows x9.cells [a0,a1])]) (.agg _ _ (.cons _ _ _ _ .s (.cons _ _ _ _ .s (.cons _ _ _ _ .s (.cons _ _ _ _ .s (.cons _ _ _ _ (.F6 _ _ _ (by decide)) (.cons _ _ _ _ (.ref _ _ _ _ _ _ _ _ _ (pL.trans rfl) zq (by decide) (by simp[Imm,D.imm]) (by simp only[go_sem,rows,List.map_cons,List.map_nil])) .nil))))))) h hsc
theorem A8(a0:w6)(a1:x9)(r:x9)(h:B1 a0 a1=some r):Pure Tryz.prog gl 45 [.agg [.str a0.base,.sl false 2 40 (rows w6.cells a0.args)],.agg [.int .i64 a1.kind,.str a1.name,.int .i64 a1.index,.str a1.type.base,.sl false 2 40 (rows w6.cells a1.type.args),.sl false 6 96 (rows x9.cells a1.args)]] (.agg [.int .i64 r.kind,.str r.name,.int .i64 r.index,.str r.type.base,.sl false 2 40 (rows w6.cells r.type.args),.sl false 6 96 (rows x9.cells r.args)]):=by
 intro st
 unfold B1 at h
 have fx:=trivial
 refine fb 9 [.cell 4 92] [0,1,2,3,4] Tryz.func45 fun hsc=>?_
 refine rr ?_
 exact fo (.agg [.int .i64 3,.str [],.int .i64 0,.str a0.base,.sl false 2 40 (rows w6.cells a0.args),.sl false 6 96 (rows x9.cells [a1])]) (.agg _ _ (.cons _ _ _ _ .s (.cons _ _ _ _ .s (.cons _ _ _ _ .s (.cons _ _ _ _ .s (.cons _ _ _ _ .s (.cons _ _ _ _ (.ref _ _ _ _ _ _ _ _ _ (pL.trans rfl) zq (by decide) (by simp[Imm,D.imm]) (by simp only[go_sem,rows,List.map_cons,List.map_nil])) .nil))))))) h hsc
theorem oc(a0:Bool)(r:(List x9))(h:fM a0=some r):Pure Tryz.prog gl 40 [.bool a0] (.sl false 6 96 (rows x9.cells r)):=by
 intro st
 unfold fM at h
 have fx:=trivial
 refine fb 128 [.tmp 2] [0,2,3,4,5,6,7,8,9,91] Tryz.func40 fun hsc=>?_
 refine cl h (U2 _) fun v1 h=>?_
 refine cl h (U2 _) fun v2 h=>?_
 refine cl h (D6 _ _) fun v3 h=>?_
 refine cl h (D6 _ _) fun v4 h=>?_
 refine cl h (D6 _ _) fun v5 h=>?_
 refine cl h (D6 _ _) fun v6 h=>?_
 refine rn ?_
 refine dw [] 1 ?_
 obtain⟨v7,hv7,h⟩:=F9 h
 refine A9 (y9 _ _ hv7) ?_
 try simp only[go_sem,fx]
 obtain⟨v8,hv8,h⟩:=F9 h
 refine A9 (y9 _ _ hv8) ?_
 try simp only[go_sem,fx]
 obtain⟨v9,hv9,h⟩:=F9 h
 refine A9 (B6 _ _ _ hv9) ?_
 try simp only[go_sem,fx]
 obtain⟨v10,hv10,h⟩:=F9 h
 refine A9 (A8 _ _ _ hv10) ?_
 try simp only[go_sem,fx]
 obtain⟨v11,hv11,h⟩:=F9 h
 refine A9 (A8 _ _ _ hv11) ?_
 try simp only[go_sem,fx]
 obtain⟨v12,hv12,h⟩:=F9 h
 refine A9 (y9 _ _ hv12) ?_
 try simp only[go_sem,fx]
 obtain⟨v13,hv13,h⟩:=F9 h
 refine A9 (y9 _ _ hv13) ?_
 try simp only[go_sem,fx]
 obtain⟨v14,hv14,h⟩:=F9 h
 refine A9 (B6 _ _ _ hv14) ?_
 try simp only[go_sem,fx]
 obtain⟨v15,hv15,h⟩:=F9 h
 refine A9 (A8 _ _ _ hv15) ?_
 try simp only[go_sem,fx]
 obtain⟨v16,hv16,h⟩:=F9 h
 refine A9 (A8 _ _ _ hv16) ?_
 try simp only[go_sem,fx]
 obtain⟨v17,hv17,h⟩:=F9 h
 refine A9 (y9 _ _ hv17) ?_
 try simp only[go_sem,fx]
 obtain⟨v18,hv18,h⟩:=F9 h
 refine A9 (A8 _ _ _ hv18) ?_
 try simp only[go_sem,fx]
 obtain⟨v19,hv19,h⟩:=F9 h
 refine A9 (y9 _ _ hv19) ?_
 try simp only[go_sem,fx]
 obtain⟨v20,hv20,h⟩:=F9 h
 refine A9 (y9 _ _ hv20) ?_
 try simp only[go_sem,fx]
 obtain⟨v21,hv21,h⟩:=F9 h
 refine A9 (y9 _ _ hv21) ?_
 try simp only[go_sem,fx]
 obtain⟨v22,hv22,h⟩:=F9 h
 refine A9 (B6 _ _ _ hv22) ?_
 try simp only[go_sem,fx]
 obtain⟨v23,hv23,h⟩:=F9 h
 refine A9 (y9 _ _ hv23) ?_
 try simp only[go_sem,fx]
 obtain⟨v24,hv24,h⟩:=F9 h
 refine A9 (B6 _ _ _ hv24) ?_
 try simp only[go_sem,fx]
 obtain⟨v25,hv25,h⟩:=F9 h
 refine A9 (A8 _ _ _ hv25) ?_
 try simp only[go_sem,fx]
 obtain⟨v26,hv26,h⟩:=F9 h
 refine A9 (B6 _ _ _ hv26) ?_
 try simp only[go_sem,fx]
 obtain⟨v27,hv27,h⟩:=F9 h
 refine A9 (A8 _ _ _ hv27) ?_
 try simp only[go_sem,fx]
 obtain⟨v28,hv28,h⟩:=F9 h
 refine A9 (A8 _ _ _ hv28) ?_
 try simp only[go_sem,fx]
 obtain⟨v29,hv29,h⟩:=F9 h
 refine A9 (A8 _ _ _ hv29) ?_
 try simp only[go_sem,fx]
 obtain⟨v30,hv30,h⟩:=F9 h
 refine A9 (D6 _ _ _ hv30) ?_
 try simp only[go_sem,fx]
 obtain⟨v31,hv31,h⟩:=F9 h
 refine A9 (y9 _ _ hv31) ?_
 try simp only[go_sem,fx]
 obtain⟨v32,hv32,h⟩:=F9 h
 refine A9 (y9 _ _ hv32) ?_
 try simp only[go_sem,fx]
 obtain⟨v33,hv33,h⟩:=F9 h
 refine A9 (y9 _ _ hv33) ?_
 try simp only[go_sem,fx]
 obtain⟨v34,hv34,h⟩:=F9 h
 refine A9 (B6 _ _ _ hv34) ?_
 try simp only[go_sem,fx]
 obtain⟨v35,hv35,h⟩:=F9 h
 refine A9 (B6 _ _ _ hv35) ?_
 try simp only[go_sem,fx]
 obtain⟨v36,hv36,h⟩:=F9 h
 refine A9 (A8 _ _ _ hv36) ?_
 try simp only[go_sem,fx]
 obtain⟨v37,hv37,h⟩:=F9 h
 refine A9 (A8 _ _ _ hv37) ?_
 try simp only[go_sem,fx]
 obtain⟨v38,hv38,h⟩:=F9 h
 refine A9 (A8 _ _ _ hv38) ?_
 try simp only[go_sem,fx]
 obtain⟨v39,hv39,h⟩:=F9 h
 refine A9 (D6 _ _ _ hv39) ?_
 try simp only[go_sem,fx]
 obtain⟨v40,hv40,h⟩:=F9 h
 refine A9 (D6 _ _ _ hv40) ?_
 try simp only[go_sem,fx]
 obtain⟨v41,hv41,h⟩:=F9 h
 refine A9 (y9 _ _ hv41) ?_
 try simp only[go_sem,fx]
 obtain⟨v42,hv42,h⟩:=F9 h
 refine A9 (y9 _ _ hv42) ?_
 try simp only[go_sem,fx]
 obtain⟨v43,hv43,h⟩:=F9 h
 refine A9 (y9 _ _ hv43) ?_
 try simp only[go_sem,fx]
 obtain⟨v44,hv44,h⟩:=F9 h
 refine A9 (B6 _ _ _ hv44) ?_
 try simp only[go_sem,fx]
 obtain⟨v45,hv45,h⟩:=F9 h
 refine A9 (B6 _ _ _ hv45) ?_
 try simp only[go_sem,fx]
 obtain⟨v46,hv46,h⟩:=F9 h
 refine A9 (y9 _ _ hv46) ?_
 try simp only[go_sem,fx]
 obtain⟨v47,hv47,h⟩:=F9 h
 refine A9 (y9 _ _ hv47) ?_
 try simp only[go_sem,fx]
 obtain⟨v48,hv48,h⟩:=F9 h
 refine A9 (B6 _ _ _ hv48) ?_
 try simp only[go_sem,fx]
 obtain⟨v49,hv49,h⟩:=F9 h
 refine A9 (B6 _ _ _ hv49) ?_
 try simp only[go_sem,fx]
 obtain⟨v50,hv50,h⟩:=F9 h
 refine A9 (A8 _ _ _ hv50) ?_
 try simp only[go_sem,fx]
 obtain⟨v51,hv51,h⟩:=F9 h
 refine A9 (A8 _ _ _ hv51) ?_
 try simp only[go_sem,fx]
 obtain⟨v52,hv52,h⟩:=F9 h
 refine A9 (A8 _ _ _ hv52) ?_
 try simp only[go_sem,fx]
 obtain⟨v53,hv53,h⟩:=F9 h
 refine A9 (A8 _ _ _ hv53) ?_
 try simp only[go_sem,fx]
 refine cd h (fun hc h=>?_) fun hc h=>?_
 ·refine rs ?_
  refine dw [] 0 ?_
  obtain⟨v55,hv55,h⟩:=F9 h
  refine A9 (y9 _ _ hv55) ?_
  try simp only[go_sem,fx]
  obtain⟨v56,hv56,h⟩:=F9 h
  refine A9 (y9 _ _ hv56) ?_
  try simp only[go_sem,fx]
  obtain⟨v57,hv57,h⟩:=F9 h
  refine A9 (B6 _ _ _ hv57) ?_
  try simp only[go_sem,fx]
  obtain⟨v58,hv58,h⟩:=F9 h
  refine A9 (A8 _ _ _ hv58) ?_
  try simp only[go_sem,fx]
  obtain⟨v59,hv59,h⟩:=F9 h
  refine A9 (A8 _ _ _ hv59) ?_
  try simp only[go_sem,fx]
  refine rs ?_
  refine dw [] 0 ?_
  obtain⟨v60,hv60,h⟩:=F9 h
  refine A9 (y9 _ _ hv60) ?_
  try simp only[go_sem,fx]
  obtain⟨v61,hv61,h⟩:=F9 h
  refine A9 (y9 _ _ hv61) ?_
  try simp only[go_sem,fx]
  obtain⟨v62,hv62,h⟩:=F9 h
  refine A9 (B6 _ _ _ hv62) ?_
  try simp only[go_sem,fx]
  obtain⟨v63,hv63,h⟩:=F9 h
  refine A9 (A8 _ _ _ hv63) ?_
  try simp only[go_sem,fx]
  obtain⟨v64,hv64,h⟩:=F9 h
  refine A9 (A8 _ _ _ hv64) ?_
  try simp only[go_sem,fx]
  refine rs ?_
  refine dw [] 0 ?_
  obtain⟨v65,hv65,h⟩:=F9 h
  refine A9 (y9 _ _ hv65) ?_
  try simp only[go_sem,fx]
  obtain⟨v66,hv66,h⟩:=F9 h
  refine A9 (y9 _ _ hv66) ?_
  try simp only[go_sem,fx]
  obtain⟨v67,hv67,h⟩:=F9 h
  refine A9 (y9 _ _ hv67) ?_
  try simp only[go_sem,fx]
  obtain⟨v68,hv68,h⟩:=F9 h
  refine A9 (B6 _ _ _ hv68) ?_
  try simp only[go_sem,fx]
  obtain⟨v69,hv69,h⟩:=F9 h
  refine A9 (y9 _ _ hv69) ?_
  try simp only[go_sem,fx]
  obtain⟨v70,hv70,h⟩:=F9 h
  refine A9 (B6 _ _ _ hv70) ?_
  try simp only[go_sem,fx]
  obtain⟨v71,hv71,h⟩:=F9 h
  refine A9 (A8 _ _ _ hv71) ?_
  try simp only[go_sem,fx]
  obtain⟨v72,hv72,h⟩:=F9 h
  refine A9 (B6 _ _ _ hv72) ?_
  try simp only[go_sem,fx]
  obtain⟨v73,hv73,h⟩:=F9 h
  refine A9 (A8 _ _ _ hv73) ?_
  try simp only[go_sem,fx]
  obtain⟨v74,hv74,h⟩:=F9 h
  refine A9 (A8 _ _ _ hv74) ?_
  try simp only[go_sem,fx]
  obtain⟨v75,hv75,h⟩:=F9 h
  refine A9 (A8 _ _ _ hv75) ?_
  try simp only[go_sem,fx]
  refine rr ?_
  exact fo (.sl false 6 96 (rows x9.cells [v59,v64,v18,v75,v38,v53])) (.ref _ _ _ _ _ _ _ _ _ (pL.trans rfl) zq (by decide) (by simp[Imm,D.imm]) (by simp only[go_sem,rows,List.map_cons,List.map_nil])) h hsc
 ·refine rr ?_
  exact fo (.sl false 6 96 (rows x9.cells [v11,v16,v18,v29,v38,v53])) (.ref _ _ _ _ _ _ _ _ _ (pL.trans rfl) zq (by decide) (by simp[Imm,D.imm]) (by simp only[go_sem,rows,List.map_cons,List.map_nil])) h hsc
end Go.Proofs.YtfogbhjeihkliaaGreatDoor
