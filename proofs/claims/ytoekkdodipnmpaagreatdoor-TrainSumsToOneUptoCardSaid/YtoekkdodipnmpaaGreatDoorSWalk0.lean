import Derived.Test.YtoekkdodipnmpaaGreatDoorSMirrors
set_option linter.unusedVariables false
set_option linter.unusedSimpArgs false
set_option maxHeartbeats 2000000
set_option maxRecDepth 100000
namespace Go.Proofs.YtoekkdodipnmpaaGreatDoor
open Go Go.Am
theorem bW(n:Nat)(a0:(List x5))(a1:Int)(a2:Int)(r:Bool)(h:D7 n a0 a1 a2=some r):Pure Tryz.prog gl 69 [.sl false 2 40 (rows x5.cells a0),.int .i64 a1,.int .i64 a2] (.bool r):=by
 intro st
 unfold D7 at h
 have fx:=trivial
 refine fb 45 [.tmp 6] [0,1,2,6,7,8,10,20,26,31,32,33,34] Tryz.func69 fun hsc=>?_
 refine r0 ?_
 obtain⟨fx,h⟩:=ck fx h
 have fy:=(show List.replicate a0.length [.bool false]=rows F3 (List.replicate a0.length (default:Bool))from iJ (E:=F3) _ default)
 refine r1 ?_
 obtain⟨fx,h⟩:=ck fx h
 have fy:=(show(rows F3 (List.replicate a0.length (default:Bool))).getD a1.toNat []=F3 (get (List.replicate a0.length (default:Bool)) a1.toNat)from jk (E:=F3) (l:=(List.replicate a0.length (default:Bool))) (k:=a1.toNat) (by first|omega|(simp;omega)))
 have fy:=fa fy (show a1.toNat<a0.length from by first|omega|(simp;omega))
 obtain⟨c8,hc8,h⟩:=lK h
 have fy:=fa fy (show(rows F3 (List.replicate a0.length (default:Bool))).set a1.toNat [.bool true]=rows F3 c8 from by rw[hc8];first|exact vY (E:=F3) _ _ _|simp only[go_sem,rows,List.map_set])
 refine r1 ?_
 have e10:D.ref true st.length 0 0 a0.length=D.ref true st.length 0 0 c8.length:=by simp[hc8]
 simp only[e10]
 refine rn ?_
 refine I3 (body:=Y7 a2 a0) (kk:=Z0 a2) (n:=n) (s0:=(c8,a1))
  (fun(gs0:Nat) (s0:(List Bool)×Int)=>[(0,.sl false 2 40 (rows x5.cells a0)),(2,.int .i64 a2),(7,.ref true st.length gs0 0 s0.1.length),(8,.int .i64 s0.2)])
  (fun(gs0:Nat) (s0:(List Bool)×Int)=>st++[some (.arr gs0 1 1 (rows F3 s0.1))])
  (fun(gt0:Nat) (t0:(List Bool))=>[(2,.int .i64 a2),(7,.ref true st.length gt0 0 t0.length)])
  (fun(gt0:Nat) (t0:(List Bool))=>st++[some (.arr gt0 1 1 (rows F3 t0))])
  0 h (bm hsc)
  (fun gs0 s0 b0 h hx0=>?_) (fun gt0 t0 fr1 st1 h hb=>?_)
 ·unfold Y7 at h
  refine cd h (fun hc h=>?_) fun hc h=>?_
  ·refine r0 ?_
   refine r0 ?_
   obtain⟨fx,h⟩:=ck fx h
   have fy:=(show(rows F3 s0.1).getD s0.2.toNat []=F3 (get s0.1 s0.2.toNat)from jk (E:=F3) (l:=s0.1) (k:=s0.2.toNat) (by first|omega|(simp;omega)))
   have fy:=fa fy (show s0.2.toNat<s0.1.length from by first|omega|(simp;omega))
   refine r1 ?_
   refine cd h (fun hc h=>?_) fun hc h=>?_
   ·obtain⟨fx,h⟩:=ck fx h
    refine aln 31 fun hl2=>?_
    refine rng (body:=Y8 a0 s0) (kk:=Y9 s0) (n:=((get a0 s0.2.toNat).parents).length) (s0:=s0.1)
     (fun(gs2:Nat) (k2:Nat) (s2:(List Bool))=>[(0,.sl false 2 40 (rows x5.cells a0)),(2,.int .i64 a2),(7,.ref true st.length gs2 0 s2.length),(8,.int .i64 s0.2),(31,.sl false 1 8 (rows E1 ((get a0 s0.2.toNat).parents))),(32,.int .i64 (↑(((get a0 s0.2.toNat).parents).length):Int)),(33,.int .i64 (↑k2:Int))])
     (fun(gs2:Nat) (k2:Nat) (s2:(List Bool))=>st++[some (.arr gs2 1 1 (rows F3 s2))])
     (fun(gt2:Nat) (t2:(List Bool))=>[(0,.sl false 2 40 (rows x5.cells a0)),(2,.int .i64 a2),(7,.ref true st.length gt2 0 t2.length),(8,.int .i64 s0.2)])
     (fun(gt2:Nat) (t2:(List Bool))=>st++[some (.arr gt2 1 1 (rows F3 t2))])
     gs0 fx hl2 h (bm hsc)
     (fun gs2 k2 s2 b2 fx h hx2=>?_) (fun gs2 s2=>?_) (fun gt2 t2 fr1 st1 h hb=>?_)
    ·unfold Y8 at h
     refine ct ?_
     refine r0 ?_
     refine r0 ?_
     refine r0 ?_
     obtain⟨fx,h⟩:=ck fx h
     have fy:=(show(rows F3 s2).getD ((get ((get a0 s0.2.toNat).parents) k2).toNat) []=F3 (get s2 ((get ((get a0 s0.2.toNat).parents) k2).toNat))from jk (E:=F3) (l:=s2) (k:=(get ((get a0 s0.2.toNat).parents) k2).toNat) (by first|omega|(simp;omega)))
     have fy:=fa fy (show(get ((get a0 s0.2.toNat).parents) k2).toNat<s2.length from by first|omega|(simp;omega))
     obtain⟨c44,MQ,h⟩:=lK h
     have fy:=fa fy (show(rows F3 s2).set ((get ((get a0 s0.2.toNat).parents) k2).toNat) [.bool true]=rows F3 c44 from by rw[MQ];first|exact vY (E:=F3) _ _ _|simp only[go_sem,rows,List.map_set])
     refine r1 ?_
     have e46:D.ref true st.length gs2 0 s2.length=D.ref true st.length gs2 0 c44.length:=by simp[MQ]
     simp only[e46]
     refine rn ?_
     cases h
     exact dc gs2 (bm hsc)
    ·refine cf ?_
     refine cP ?_;simp only[go_sem,fx]
     exact⟨gs2,(bm hsc)⟩
    ·try simp only[go_sem,fx]
     unfold Y9 at h
     refine R8 hb ?_
     refine rn ?_
     cases h
     exact J2 gt2 (bm hsc)
   ·refine rn ?_
    cases h
    exact J2 gs0 (bm hsc)
  ·refine rn ?_
   cases h
   exact U0 gs0 (bm hsc)
 ·try simp only[go_sem,fx]
  unfold Z0 at h
  refine R8 hb ?_
  obtain⟨fx,h⟩:=ck fx h
  have fy:=(show(rows F3 t0).getD a2.toNat []=F3 (get t0 a2.toNat)from jk (E:=F3) (l:=t0) (k:=a2.toNat) (by first|omega|(simp;omega)))
  have fy:=fa fy (show a2.toNat<t0.length from by first|omega|(simp;omega))
  refine r1 ?_
  exact rt
theorem L0(a0:Bs)(r:u0)(h:J1 a0=some r):Pure Tryz.prog gl 18 [.str a0] (.agg [.str r.base,.sl false 2 40 (rows u0.cells r.args)]):=by
 intro st
 unfold J1 at h
 have fx:=trivial
 refine fb 5 [.cell 2 64] [0,2] Tryz.func18 fun hsc=>?_
 refine rr ?_
 exact fo (.agg [.str a0,.sl false 2 40 (rows u0.cells [])]) (.agg _ _ (.cons _ _ _ _ .s (.cons _ _ _ _ (.D3 _ _ _ (by decide)) .nil))) h hsc
theorem C7(a0:u0)(a1:u0)(r:u0)(h:C8 a0 a1=some r):Pure Tryz.prog gl 19 [.agg [.str a0.base,.sl false 2 40 (rows u0.cells a0.args)],.agg [.str a1.base,.sl false 2 40 (rows u0.cells a1.args)]] (.agg [.str r.base,.sl false 2 40 (rows u0.cells r.args)]):=by
 intro st
 unfold C8 at h
 have fx:=trivial
 refine fb 9 [.cell 4 64] [0,1,2,3,4] Tryz.func19 fun hsc=>?_
 refine rr ?_
 exact fo (.agg [.str [],.sl false 2 40 (rows u0.cells [a0,a1])]) (.agg _ _ (.cons _ _ _ _ .s (.cons _ _ _ _ (.ref _ _ _ _ _ _ _ _ _ (nK.trans rfl) zE (by decide) (by simp[Imm,D.imm]) (by simp only[go_sem,rows,List.map_cons,List.map_nil])) .nil))) h hsc
theorem fJ(a0:(List Bs))(a1:(List Int))(a2:(List A0))(r:x7)(h:W8 a0 a1 a2=some r):Pure Tryz.prog gl 20 [.sl false 1 16 (rows Fm a0),.sl false 1 8 (rows E1 a1),.sl false 3 32 (rows A0.cells a2)] (.agg [.sl false 2 40 (rows x5.cells r.types),.sl false 3 32 (rows A0.cells r.C2)]):=by
 intro st
 unfold W8 at h
 have fx:=trivial
 refine fb 38 [.cell 6 25] [0,1,2,6,7,8,9,10,11,12,13,14,21] Tryz.func20 fun hsc=>?_
 refine r0 ?_
 refine r0 ?_
 refine r0 ?_
 (repeat apply sq_)
 refine nJ 2 40 ?_
 try simp only[List.append_assoc,List.cons_append,List.nil_append]
 refine R8 (F:=[(1,.sl false 1 8 (rows E1 a1)),(2,.sl false 3 32 (rows A0.cells a2)),(6,.ptr st.length 0 0 0),(7,.ptr (st.length+1) 0 0 0),(11,.sl false 1 16 (rows Fm a0)),(12,.int .i64 (↑a0.length:Int)),(13,.int .i64 0)]) (T:=st++[some (.arr 0 2 0 [[.D3,.D3]]),some (.arr 0 2 0 [[.ref false (st.length+2) 0 0 0,.D3]]),some (.arr 0 2 40 (rows x5.cells []))]) (yu hsc (.lv (.live _ _ _ _ (.arr _ _ _ _ _ (.cons _ _ _ _ (.cons _ _ _ _ (.nref _ _ _ _ _ _ (nK.trans rfl)) (.cons _ _ _ _ .s .nil)) (.same _))) (.lv (.nil _)))) (by simp) ⟨.s,.s,.s,.s,.s,.s,.s,trivial⟩ (by simp)) ?_
 refine aln 11 fun hl0=>?_
 refine rng (body:=T4 a1 a0) (kk:=T5 a2) (n:=a0.length) (s0:=[])
  (fun(gs0:Nat) (k0:Nat) (s0:(List x5))=>[(1,.sl false 1 8 (rows E1 a1)),(2,.sl false 3 32 (rows A0.cells a2)),(6,.ptr st.length 0 0 0),(7,.ptr (st.length+1) 0 0 0),(11,.sl false 1 16 (rows Fm a0)),(12,.int .i64 (↑a0.length:Int)),(13,.int .i64 (↑k0:Int))])
  (fun(gs0:Nat) (k0:Nat) (s0:(List x5))=>st++[some (.arr 0 2 0 [[.D3,.D3]]),some (.arr 0 2 0 [[.ref false (st.length+2) gs0 0 s0.length,.D3]]),some (.arr gs0 2 40 (rows x5.cells s0))])
  (fun(gt0:Nat) (t0:(List x5))=>[(2,.sl false 3 32 (rows A0.cells a2)),(6,.ptr st.length 0 0 0),(7,.ptr (st.length+1) 0 0 0)])
  (fun(gt0:Nat) (t0:(List x5))=>st++[some (.arr 0 2 0 [[.D3,.D3]]),some (.arr 0 2 0 [[.ref false (st.length+2) gt0 0 t0.length,.D3]]),some (.arr gt0 2 40 (rows x5.cells t0))])
  0 fx hl0 h (bm hsc)
  (fun gs0 k0 s0 b0 fx h hx0=>?_) (fun gs0 s0=>?_) (fun gt0 t0 fr1 st1 h hb=>?_)
 ·unfold T4 at h
  refine ct ?_
  refine cd h (fun hc h=>?_) fun hc h=>?_
  ·obtain⟨fx,h⟩:=ck fx h
   refine r0 ?_
   obtain⟨c14,MR,h⟩:=lK h
   have fy:=(show rows x5.cells s0++[[.str (get a0 k0),.sl false 1 8 [[.int .i64 (get a1 k0)]]]]=rows x5.cells c14 from by rw[MR];first|exact bA (E:=x5.cells) s0 [(x5.mk (get a0 k0) [(get a1 k0)])]|simp only[go_sem,rows,List.map_append,List.map_cons,List.map_nil])
   have fy:=fa fy (show s0.length+1=c14.length from by rw[MR];simp)
   obtain⟨fx,h⟩:=ck fx h
   refine r1 ?_
   refine rn ?_
   cases h
   exact dc (gs0+1) (bm hsc)
  ·obtain⟨fx,h⟩:=ck fx h
   refine rn ?_
   cases h
   exact dc (gs0+1) (bm hsc (hu:=(.lv (.live _ _ _ _ (.arr _ _ _ _ _ (.cons _ _ _ _ (.cons _ _ _ _ (vZ (by first|(simp;done)|simp[Fr.get])) (.cons _ _ _ _ .s .nil)) (.same _))) (.live _ _ _ _ (.arr _ _ _ _ _ (qX (.cons _ _ _ _ (.cons _ _ _ _ .s (.cons _ _ _ _ (.D3 _ _ _ (by decide)) .nil)) .nil))) (.nil _))))))
 ·refine cf ?_
  refine cP ?_;simp only[go_sem,fx]
  exact⟨gs0,(bm hsc)⟩
 ·try simp only[go_sem,fx]
  unfold T5 at h
  refine R8 hb ?_
  refine rr ?_
  exact fo (.agg [.sl false 2 40 (rows x5.cells t0),.sl false 3 32 (rows A0.cells a2)]) (.agg _ _ (.cons _ _ _ _ (.ref _ _ _ _ _ _ _ _ _ (nK.trans rfl) zE (by decide) (sD _) (by simp only[go_sem])) (.cons _ _ _ _ .s .nil))) h hsc
theorem y3(a0:Int)(r:w6)(h:y5 a0=some r):Pure Tryz.prog gl 28 [.int .i64 a0] (.agg [.int .i64 r.kind,.str r.name,.int .i64 r.index,.str r.type.base,.sl false 2 40 (rows u0.cells r.type.args),.sl false 6 96 (rows w6.cells r.args)]):=by
 intro st
 unfold y5 at h
 have fx:=trivial
 refine fb 5 [.cell 2 67] [0,2] Tryz.func28 fun hsc=>?_
 refine rr ?_
 exact fo (.agg [.int .i64 2,.str [],.int .i64 a0,.str [],.sl false 2 40 (rows u0.cells []),.sl false 6 96 (rows w6.cells [])]) (.agg _ _ (.cons _ _ _ _ .s (.cons _ _ _ _ .s (.cons _ _ _ _ .s (.cons _ _ _ _ .s (.cons _ _ _ _ (.D3 _ _ _ (by decide)) (.cons _ _ _ _ (.D3 _ _ _ (by decide)) .nil))))))) h hsc
theorem B2(a0:w6)(a1:w6)(r:w6)(h:B8 a0 a1=some r):Pure Tryz.prog gl 27 [.agg [.int .i64 a0.kind,.str a0.name,.int .i64 a0.index,.str a0.type.base,.sl false 2 40 (rows u0.cells a0.type.args),.sl false 6 96 (rows w6.cells a0.args)],.agg [.int .i64 a1.kind,.str a1.name,.int .i64 a1.index,.str a1.type.base,.sl false 2 40 (rows u0.cells a1.type.args),.sl false 6 96 (rows w6.cells a1.args)]] (.agg [.int .i64 r.kind,.str r.name,.int .i64 r.index,.str r.type.base,.sl false 2 40 (rows u0.cells r.type.args),.sl false 6 96 (rows w6.cells r.args)]):=by
 intro st
 unfold B8 at h
 have fx:=trivial
 refine fb 9 [.cell 4 67] [0,1,2,3,4] Tryz.func27 fun hsc=>?_
 refine rr ?_
 exact fo (.agg [.int .i64 4,.str [],.int .i64 0,.str [],.sl false 2 40 (rows u0.cells []),.sl false 6 96 (rows w6.cells [a0,a1])]) (.agg _ _ (.cons _ _ _ _ .s (.cons _ _ _ _ .s (.cons _ _ _ _ .s (.cons _ _ _ _ .s (.cons _ _ _ _ (.D3 _ _ _ (by decide)) (.cons _ _ _ _ (.ref _ _ _ _ _ _ _ _ _ (nK.trans rfl) zE (by decide) (by simp[Imm,D.imm]) (by simp only[go_sem,rows,List.map_cons,List.map_nil])) .nil))))))) h hsc
theorem y6(a0:u0)(a1:w6)(r:w6)(h:A8 a0 a1=some r):Pure Tryz.prog gl 26 [.agg [.str a0.base,.sl false 2 40 (rows u0.cells a0.args)],.agg [.int .i64 a1.kind,.str a1.name,.int .i64 a1.index,.str a1.type.base,.sl false 2 40 (rows u0.cells a1.type.args),.sl false 6 96 (rows w6.cells a1.args)]] (.agg [.int .i64 r.kind,.str r.name,.int .i64 r.index,.str r.type.base,.sl false 2 40 (rows u0.cells r.type.args),.sl false 6 96 (rows w6.cells r.args)]):=by
 intro st
 unfold A8 at h
 have fx:=trivial
 refine fb 9 [.cell 4 67] [0,1,2,3,4] Tryz.func26 fun hsc=>?_
 refine rr ?_
 exact fo (.agg [.int .i64 3,.str [],.int .i64 0,.str a0.base,.sl false 2 40 (rows u0.cells a0.args),.sl false 6 96 (rows w6.cells [a1])]) (.agg _ _ (.cons _ _ _ _ .s (.cons _ _ _ _ .s (.cons _ _ _ _ .s (.cons _ _ _ _ .s (.cons _ _ _ _ .s (.cons _ _ _ _ (.ref _ _ _ _ _ _ _ _ _ (nK.trans rfl) zE (by decide) (by simp[Imm,D.imm]) (by simp only[go_sem,rows,List.map_cons,List.map_nil])) .nil))))))) h hsc
theorem ig(a0:Bool)(r:(List w6))(h:aF a0=some r):Pure Tryz.prog gl 21 [.bool a0] (.sl false 6 96 (rows w6.cells r)):=by
 intro st
 unfold aF at h
 have fx:=trivial
 refine fb 128 [.tmp 2] [0,2,3,4,5,6,7,8,9,91] Tryz.func21 fun hsc=>?_
 refine cl h (L0 _) fun v1 h=>?_
 refine cl h (L0 _) fun v2 h=>?_
 refine cl h (C7 _ _) fun v3 h=>?_
 refine cl h (C7 _ _) fun v4 h=>?_
 refine cl h (C7 _ _) fun v5 h=>?_
 refine cl h (C7 _ _) fun v6 h=>?_
 refine rn ?_
 refine dw [] 1 ?_
 obtain⟨v7,hv7,h⟩:=E7 h
 refine y9 (y3 _ _ hv7) ?_
 try simp only[go_sem,fx]
 obtain⟨v8,hv8,h⟩:=E7 h
 refine y9 (y3 _ _ hv8) ?_
 try simp only[go_sem,fx]
 obtain⟨v9,hv9,h⟩:=E7 h
 refine y9 (B2 _ _ _ hv9) ?_
 try simp only[go_sem,fx]
 obtain⟨v10,hv10,h⟩:=E7 h
 refine y9 (y6 _ _ _ hv10) ?_
 try simp only[go_sem,fx]
 obtain⟨v11,hv11,h⟩:=E7 h
 refine y9 (y6 _ _ _ hv11) ?_
 try simp only[go_sem,fx]
 obtain⟨v12,hv12,h⟩:=E7 h
 refine y9 (y3 _ _ hv12) ?_
 try simp only[go_sem,fx]
 obtain⟨v13,hv13,h⟩:=E7 h
 refine y9 (y3 _ _ hv13) ?_
 try simp only[go_sem,fx]
 obtain⟨v14,hv14,h⟩:=E7 h
 refine y9 (B2 _ _ _ hv14) ?_
 try simp only[go_sem,fx]
 obtain⟨v15,hv15,h⟩:=E7 h
 refine y9 (y6 _ _ _ hv15) ?_
 try simp only[go_sem,fx]
 obtain⟨v16,hv16,h⟩:=E7 h
 refine y9 (y6 _ _ _ hv16) ?_
 try simp only[go_sem,fx]
 obtain⟨v17,hv17,h⟩:=E7 h
 refine y9 (y3 _ _ hv17) ?_
 try simp only[go_sem,fx]
 obtain⟨v18,hv18,h⟩:=E7 h
 refine y9 (y6 _ _ _ hv18) ?_
 try simp only[go_sem,fx]
 obtain⟨v19,hv19,h⟩:=E7 h
 refine y9 (y3 _ _ hv19) ?_
 try simp only[go_sem,fx]
 obtain⟨v20,hv20,h⟩:=E7 h
 refine y9 (y3 _ _ hv20) ?_
 try simp only[go_sem,fx]
 obtain⟨v21,hv21,h⟩:=E7 h
 refine y9 (y3 _ _ hv21) ?_
 try simp only[go_sem,fx]
 obtain⟨v22,hv22,h⟩:=E7 h
 refine y9 (B2 _ _ _ hv22) ?_
 try simp only[go_sem,fx]
 obtain⟨v23,hv23,h⟩:=E7 h
 refine y9 (y3 _ _ hv23) ?_
 try simp only[go_sem,fx]
 obtain⟨v24,hv24,h⟩:=E7 h
 refine y9 (B2 _ _ _ hv24) ?_
 try simp only[go_sem,fx]
 obtain⟨v25,hv25,h⟩:=E7 h
 refine y9 (y6 _ _ _ hv25) ?_
 try simp only[go_sem,fx]
 obtain⟨v26,hv26,h⟩:=E7 h
 refine y9 (B2 _ _ _ hv26) ?_
 try simp only[go_sem,fx]
 obtain⟨v27,hv27,h⟩:=E7 h
 refine y9 (y6 _ _ _ hv27) ?_
 try simp only[go_sem,fx]
 obtain⟨v28,hv28,h⟩:=E7 h
 refine y9 (y6 _ _ _ hv28) ?_
 try simp only[go_sem,fx]
 obtain⟨v29,hv29,h⟩:=E7 h
 refine y9 (y6 _ _ _ hv29) ?_
 try simp only[go_sem,fx]
 obtain⟨v30,hv30,h⟩:=E7 h
 refine y9 (C7 _ _ _ hv30) ?_
 try simp only[go_sem,fx]
 obtain⟨v31,hv31,h⟩:=E7 h
 refine y9 (y3 _ _ hv31) ?_
 try simp only[go_sem,fx]
 obtain⟨v32,hv32,h⟩:=E7 h
 refine y9 (y3 _ _ hv32) ?_
 try simp only[go_sem,fx]
 obtain⟨v33,hv33,h⟩:=E7 h
 refine y9 (y3 _ _ hv33) ?_
 try simp only[go_sem,fx]
 obtain⟨v34,hv34,h⟩:=E7 h
 refine y9 (B2 _ _ _ hv34) ?_
 try simp only[go_sem,fx]
 obtain⟨v35,hv35,h⟩:=E7 h
 refine y9 (B2 _ _ _ hv35) ?_
 try simp only[go_sem,fx]
 obtain⟨v36,hv36,h⟩:=E7 h
 refine y9 (y6 _ _ _ hv36) ?_
 try simp only[go_sem,fx]
 obtain⟨v37,hv37,h⟩:=E7 h
 refine y9 (y6 _ _ _ hv37) ?_
 try simp only[go_sem,fx]
 obtain⟨v38,hv38,h⟩:=E7 h
 refine y9 (y6 _ _ _ hv38) ?_
 try simp only[go_sem,fx]
 obtain⟨v39,hv39,h⟩:=E7 h
 refine y9 (C7 _ _ _ hv39) ?_
 try simp only[go_sem,fx]
 obtain⟨v40,hv40,h⟩:=E7 h
 refine y9 (C7 _ _ _ hv40) ?_
 try simp only[go_sem,fx]
 obtain⟨v41,hv41,h⟩:=E7 h
 refine y9 (y3 _ _ hv41) ?_
 try simp only[go_sem,fx]
 obtain⟨v42,hv42,h⟩:=E7 h
 refine y9 (y3 _ _ hv42) ?_
 try simp only[go_sem,fx]
 obtain⟨v43,hv43,h⟩:=E7 h
 refine y9 (y3 _ _ hv43) ?_
 try simp only[go_sem,fx]
 obtain⟨v44,hv44,h⟩:=E7 h
 refine y9 (B2 _ _ _ hv44) ?_
 try simp only[go_sem,fx]
 obtain⟨v45,hv45,h⟩:=E7 h
 refine y9 (B2 _ _ _ hv45) ?_
 try simp only[go_sem,fx]
 obtain⟨v46,hv46,h⟩:=E7 h
 refine y9 (y3 _ _ hv46) ?_
 try simp only[go_sem,fx]
 obtain⟨v47,hv47,h⟩:=E7 h
 refine y9 (y3 _ _ hv47) ?_
 try simp only[go_sem,fx]
 obtain⟨v48,hv48,h⟩:=E7 h
 refine y9 (B2 _ _ _ hv48) ?_
 try simp only[go_sem,fx]
 obtain⟨v49,hv49,h⟩:=E7 h
 refine y9 (B2 _ _ _ hv49) ?_
 try simp only[go_sem,fx]
 obtain⟨v50,hv50,h⟩:=E7 h
 refine y9 (y6 _ _ _ hv50) ?_
 try simp only[go_sem,fx]
 obtain⟨v51,hv51,h⟩:=E7 h
 refine y9 (y6 _ _ _ hv51) ?_
 try simp only[go_sem,fx]
 obtain⟨v52,hv52,h⟩:=E7 h
 refine y9 (y6 _ _ _ hv52) ?_
 try simp only[go_sem,fx]
 obtain⟨v53,hv53,h⟩:=E7 h
 refine y9 (y6 _ _ _ hv53) ?_
 try simp only[go_sem,fx]
 refine cd h (fun hc h=>?_) fun hc h=>?_
 ·refine rs ?_
  refine dw [] 0 ?_
  obtain⟨v55,hv55,h⟩:=E7 h
  refine y9 (y3 _ _ hv55) ?_
  try simp only[go_sem,fx]
  obtain⟨v56,hv56,h⟩:=E7 h
  refine y9 (y3 _ _ hv56) ?_
  try simp only[go_sem,fx]
  obtain⟨v57,hv57,h⟩:=E7 h
  refine y9 (B2 _ _ _ hv57) ?_
  try simp only[go_sem,fx]
  obtain⟨v58,hv58,h⟩:=E7 h
  refine y9 (y6 _ _ _ hv58) ?_
  try simp only[go_sem,fx]
  obtain⟨v59,hv59,h⟩:=E7 h
  refine y9 (y6 _ _ _ hv59) ?_
  try simp only[go_sem,fx]
  refine rs ?_
  refine dw [] 0 ?_
  obtain⟨v60,hv60,h⟩:=E7 h
  refine y9 (y3 _ _ hv60) ?_
  try simp only[go_sem,fx]
  obtain⟨v61,hv61,h⟩:=E7 h
  refine y9 (y3 _ _ hv61) ?_
  try simp only[go_sem,fx]
  obtain⟨v62,hv62,h⟩:=E7 h
  refine y9 (B2 _ _ _ hv62) ?_
  try simp only[go_sem,fx]
  obtain⟨v63,hv63,h⟩:=E7 h
  refine y9 (y6 _ _ _ hv63) ?_
  try simp only[go_sem,fx]
  obtain⟨v64,hv64,h⟩:=E7 h
  refine y9 (y6 _ _ _ hv64) ?_
  try simp only[go_sem,fx]
  refine rs ?_
  refine dw [] 0 ?_
  obtain⟨v65,hv65,h⟩:=E7 h
  refine y9 (y3 _ _ hv65) ?_
  try simp only[go_sem,fx]
  obtain⟨v66,hv66,h⟩:=E7 h
  refine y9 (y3 _ _ hv66) ?_
  try simp only[go_sem,fx]
  obtain⟨v67,hv67,h⟩:=E7 h
  refine y9 (y3 _ _ hv67) ?_
  try simp only[go_sem,fx]
  obtain⟨v68,hv68,h⟩:=E7 h
  refine y9 (B2 _ _ _ hv68) ?_
  try simp only[go_sem,fx]
  obtain⟨v69,hv69,h⟩:=E7 h
  refine y9 (y3 _ _ hv69) ?_
  try simp only[go_sem,fx]
  obtain⟨v70,hv70,h⟩:=E7 h
  refine y9 (B2 _ _ _ hv70) ?_
  try simp only[go_sem,fx]
  obtain⟨v71,hv71,h⟩:=E7 h
  refine y9 (y6 _ _ _ hv71) ?_
  try simp only[go_sem,fx]
  obtain⟨v72,hv72,h⟩:=E7 h
  refine y9 (B2 _ _ _ hv72) ?_
  try simp only[go_sem,fx]
  obtain⟨v73,hv73,h⟩:=E7 h
  refine y9 (y6 _ _ _ hv73) ?_
  try simp only[go_sem,fx]
  obtain⟨v74,hv74,h⟩:=E7 h
  refine y9 (y6 _ _ _ hv74) ?_
  try simp only[go_sem,fx]
  obtain⟨v75,hv75,h⟩:=E7 h
  refine y9 (y6 _ _ _ hv75) ?_
  try simp only[go_sem,fx]
  refine rr ?_
  exact fo (.sl false 6 96 (rows w6.cells [v59,v64,v18,v75,v38,v53])) (.ref _ _ _ _ _ _ _ _ _ (nK.trans rfl) zE (by decide) (by simp[Imm,D.imm]) (by simp only[go_sem,rows,List.map_cons,List.map_nil])) h hsc
 ·refine rr ?_
  exact fo (.sl false 6 96 (rows w6.cells [v11,v16,v18,v29,v38,v53])) (.ref _ _ _ _ _ _ _ _ _ (nK.trans rfl) zE (by decide) (by simp[Imm,D.imm]) (by simp only[go_sem,rows,List.map_cons,List.map_nil])) h hsc
theorem E8(n:Nat)(a0:(List (List Int)))(r:B0)(h:E4 n a0=some r):Pure Tryz.prog gl 22 [.sl false 1 24 (rows (slc 1 8 E1) a0)] (.agg [.sl false 2 32 (rows y4.cells r.nodes)]):=by
 intro st
 unfold E4 at h
 have fx:=trivial
 refine fb 48 [.cell 2 30] [0,2,3,5,6,7,8,9,10,11,22] Tryz.func22 fun hsc=>?_
 refine r0 ?_
 refine r0 ?_
 refine r0 ?_
 (repeat apply sq_)
 refine nJ 2 32 ?_
 try simp only[List.append_assoc,List.cons_append,List.nil_append]
 refine R8 (F:=[(2,.ptr st.length 0 0 0),(3,.ptr (st.length+1) 0 0 0),(8,.sl false 1 24 (rows (slc 1 8 E1) a0)),(9,.int .i64 (↑a0.length:Int)),(10,.int .i64 0)]) (T:=st++[some (.arr 0 1 0 [[.D3]]),some (.arr 0 1 0 [[.ref false (st.length+2) 0 0 0]]),some (.arr 0 2 32 (rows y4.cells []))]) (yu hsc (.lv (.live _ _ _ _ (.arr _ _ _ _ _ (.cons _ _ _ _ (.cons _ _ _ _ (.nref _ _ _ _ _ _ (nK.trans rfl)) .nil) (.same _))) (.lv (.nil _)))) (by simp) ⟨.s,.s,.s,.s,.s,trivial⟩ (by simp)) ?_
 refine aln 8 fun hl0=>?_
 refine rng (body:=Y0 n a0) (kk:=Y1) (n:=a0.length) (s0:=[])
  (fun(gs0:Nat) (k0:Nat) (s0:(List y4))=>[(2,.ptr st.length 0 0 0),(3,.ptr (st.length+1) 0 0 0),(8,.sl false 1 24 (rows (slc 1 8 E1) a0)),(9,.int .i64 (↑a0.length:Int)),(10,.int .i64 (↑k0:Int))])
  (fun(gs0:Nat) (k0:Nat) (s0:(List y4))=>st++[some (.arr 0 1 0 [[.D3]]),some (.arr 0 1 0 [[.ref false (st.length+2) gs0 0 s0.length]]),some (.arr gs0 2 32 (rows y4.cells s0))])
  (fun(gt0:Nat) (t0:(List y4))=>[(2,.ptr st.length 0 0 0),(3,.ptr (st.length+1) 0 0 0)])
  (fun(gt0:Nat) (t0:(List y4))=>st++[some (.arr 0 1 0 [[.D3]]),some (.arr 0 1 0 [[.ref false (st.length+2) gt0 0 t0.length]]),some (.arr gt0 2 32 (rows y4.cells t0))])
  0 fx hl0 h (bm hsc)
  (fun gs0 k0 s0 b0 fx h hx0=>?_) (fun gs0 s0=>?_) (fun gt0 t0 fr1 st1 h hb=>?_)
 ·unfold Y0 at h
  refine ct ?_
  obtain⟨fx,h⟩:=ck fx h
  refine r0 ?_
  refine r0 ?_
  refine r0 ?_
  refine r0 ?_
  refine r0 ?_
  (repeat apply sq_)
  refine nJ 2 16 ?_
  try simp only[List.append_assoc,List.cons_append,List.nil_append]
  refine R8 (F:=[(2,.ptr st.length 0 0 0),(3,.ptr (st.length+1) 0 0 0),(5,.sl false 1 8 (rows E1 (get a0 k0))),(6,.ptr (st.length+3) 0 0 0),(7,.int .i64 1),(8,.sl false 1 24 (rows (slc 1 8 E1) a0)),(9,.int .i64 (↑a0.length:Int)),(10,.int .i64 (↑k0:Int))]) (T:=st++[some (.arr 0 1 0 [[.D3]]),some (.arr 0 1 0 [[.ref false (st.length+2) gs0 0 s0.length]]),some (.arr gs0 2 32 (rows y4.cells s0)),some (.arr 0 2 0 [[.int .i64 (get (get a0 k0) 0),.ref false (st.length+4) 0 0 0]]),some (.arr 0 2 16 (rows D9.cells []))]) (yu hsc (.lv (.lv (.lv (.live _ _ _ _ (.arr _ _ _ _ _ (.cons _ _ _ _ (.cons _ _ _ _ .s (.cons _ _ _ _ (.nref _ _ _ _ _ _ (nK.trans rfl)) .nil)) (.same _))) (.lv (.nil _)))))) (by simp) ⟨.s,.s,.s,.s,.s,.s,.s,.s,trivial⟩ (by simp)) ?_
  (repeat apply sq_)
  refine I3 (body:=X8 a0 k0) (kk:=X9 s0 a0 k0) (n:=n) (s0:=([],1))
   (fun(gs2:Nat) (s2:(List D9)×Int)=>[(2,.ptr st.length 0 0 0),(3,.ptr (st.length+1) 0 0 0),(5,.sl false 1 8 (rows E1 (get a0 k0))),(6,.ptr (st.length+3) 0 0 0),(7,.int .i64 s2.2),(8,.sl false 1 24 (rows (slc 1 8 E1) a0)),(9,.int .i64 (↑a0.length:Int)),(10,.int .i64 (↑k0:Int))])
   (fun(gs2:Nat) (s2:(List D9)×Int)=>st++[some (.arr 0 1 0 [[.D3]]),some (.arr 0 1 0 [[.ref false (st.length+2) gs0 0 s0.length]]),some (.arr gs0 2 32 (rows y4.cells s0)),some (.arr 0 2 0 [[.int .i64 (get (get a0 k0) 0),.ref false (st.length+4) gs2 0 s2.1.length]]),some (.arr gs2 2 16 (rows D9.cells s2.1))])
   (fun(gt2:Nat) (t2:(List D9))=>[(2,.ptr st.length 0 0 0),(3,.ptr (st.length+1) 0 0 0),(6,.ptr (st.length+3) 0 0 0),(8,.sl false 1 24 (rows (slc 1 8 E1) a0)),(9,.int .i64 (↑a0.length:Int)),(10,.int .i64 (↑k0:Int))])
   (fun(gt2:Nat) (t2:(List D9))=>st++[some (.arr 0 1 0 [[.D3]]),some (.arr 0 1 0 [[.ref false (st.length+2) gs0 0 s0.length]]),some (.arr gs0 2 32 (rows y4.cells s0)),some (.arr 0 2 0 [[.int .i64 (get (get a0 k0) 0),.ref false (st.length+4) gt2 0 t2.length]]),some (.arr gt2 2 16 (rows D9.cells t2))])
   0 h (bm hsc)
   (fun gs2 s2 b2 h hx2=>?_) (fun gt2 t2 fr1 st1 h hb=>?_)
  ·unfold X8 at h
   refine cd h (fun hc h=>?_) fun hc h=>?_
   ·refine rn ?_
    obtain⟨fx,h⟩:=ck fx h
    obtain⟨fx,h⟩:=ck fx h
    obtain⟨c38,MS,h⟩:=lK h
    have fy:=(show rows D9.cells s2.1++[[.int .i64 (get (get a0 k0) s2.2.toNat),.int .i64 (get (get a0 k0) ((wr .i64 (s2.2+1)).toNat))]]=rows D9.cells c38 from by rw[MS];first|exact bA (E:=D9.cells) s2.1 [(D9.mk (get (get a0 k0) s2.2.toNat) (get (get a0 k0) ((wr .i64 (s2.2+1)).toNat)))]|simp only[go_sem,rows,List.map_append,List.map_cons,List.map_nil])
    have fy:=fa fy (show s2.1.length+1=c38.length from by rw[MS];simp)
    obtain⟨fx,h⟩:=ck fx h
    refine dwy [] 2 ?_
    refine rn ?_
    cases h
    exact J2 (gs2+1) (bm hsc)
   ·refine rn ?_
    cases h
    exact U0 gs2 (bm hsc)
  ·try simp only[go_sem,fx]
   unfold X9 at h
   refine R8 hb ?_
   obtain⟨fx,h⟩:=ck fx h
   refine rn ?_
   cases h
   exact dc (gs0+1) (bm hsc (hu:=(.lv (.live _ _ _ _ (.arr _ _ _ _ _ (.cons _ _ _ _ (.cons _ _ _ _ (vZ (by first|(simp;done)|simp[Fr.get])) .nil) (.same _))) (.live _ _ _ _ (.arr _ _ _ _ _ (qX (.cons _ _ _ _ (.cons _ _ _ _ .s (.cons _ _ _ _ (.ref _ _ _ _ _ _ _ _ _ (nK.trans rfl) (qY (by first|decide|simp)) (by decide) (sD _) (by simp only[go_sem])) .nil)) .nil))) (.nil _))))))
 ·refine cf ?_
  refine cP ?_;simp only[go_sem,fx]
  exact⟨gs0,(bm hsc)⟩
 ·try simp only[go_sem,fx]
  unfold Y1 at h
  refine R8 hb ?_
  refine rr ?_
  exact fo (.agg [.sl false 2 32 (rows y4.cells t0)]) (.agg _ _ (.cons _ _ _ _ (.ref _ _ _ _ _ _ _ _ _ (nK.trans rfl) zE (by decide) (sD _) (by simp only[go_sem])) .nil)) h hsc
end Go.Proofs.YtoekkdodipnmpaaGreatDoor
