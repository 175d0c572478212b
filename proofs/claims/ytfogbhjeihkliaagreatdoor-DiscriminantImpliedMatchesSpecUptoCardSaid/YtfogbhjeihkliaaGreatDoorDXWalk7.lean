import Derived.Test.YtfogbhjeihkliaaGreatDoorDXCat
import Derived.Test.YtfogbhjeihkliaaGreatDoorDXWalk1
import Derived.Test.YtfogbhjeihkliaaGreatDoorDXWalk6
set_option linter.unusedVariables false
set_option linter.unusedSimpArgs false
set_option maxHeartbeats 2000000
set_option maxRecDepth 100000
namespace Go.Proofs.YtfogbhjeihkliaaGreatDoor
open Go Go.Am
theorem dB(n:Nat)(a0:(List w8))(r:(List (List w5)))(h:X2 n a0=some r):Pure Tryz.prog gl 26 [.sl false 3 40 (rows w8.cells a0)] (.sl false 1 24 (rows (slc 5 40 w5.cells) r)):=by
 intro st
 unfold X2 at h
 have fx:=trivial
 refine fb 19 [.tmp 2] [0,2,3,5,6,7,8,9] Tryz.func26 fun hsc=>?_
 refine r0 ?_
 refine r0 ?_
 refine r0 ?_
 (repeat apply sq_)
 refine oI 1 24 ?_
 try simp only[List.append_assoc,List.cons_append,List.nil_append]
 refine R4 (F:=[(3,.ref false st.length 0 0 0),(6,.sl false 3 40 (rows w8.cells a0)),(7,.int .i64 (↑a0.length:Int)),(8,.int .i64 0)]) (T:=st++[some (.arr 0 1 24 (rows (slc 5 40 w5.cells) []))]) (Af hsc (.lv (.nil _)) (by simp) ⟨.nref _ _ _ _ _ _ (lH.trans rfl),.s,.s,.s,trivial⟩ (by simp)) ?_
 refine aln 6 fun hl0=>?_
 refine rng (body:=gb n a0) (kk:=gi) (n:=a0.length) (s0:=[])
  (fun(gs0:Nat) (k0:Nat) (s0:(List (List w5)))=>[(3,.ref false st.length gs0 0 s0.length),(6,.sl false 3 40 (rows w8.cells a0)),(7,.int .i64 (↑a0.length:Int)),(8,.int .i64 (↑k0:Int))])
  (fun(gs0:Nat) (k0:Nat) (s0:(List (List w5)))=>st++[some (.arr gs0 1 24 (rows (slc 5 40 w5.cells) s0))])
  (fun(gt0:Nat) (t0:(List (List w5)))=>[(3,.ref false st.length gt0 0 t0.length)])
  (fun(gt0:Nat) (t0:(List (List w5)))=>st++[some (.arr gt0 1 24 (rows (slc 5 40 w5.cells) t0))])
  0 fx hl0 h (bm hsc)
  (fun gs0 k0 s0 b0 fx h hx0=>?_) (fun gs0 s0=>?_) (fun gt0 t0 fr1 st1 h hb=>?_)
 ·unfold gb at h
  refine ct ?_
  refine r0 ?_
  refine r0 ?_
  refine r0 ?_
  refine cl h (vV n _) fun v8 h=>?_
  obtain⟨c10,RY,h⟩:=oz h
  have fy:=(show rows (slc 5 40 w5.cells) s0++[[.sl false 5 40 (rows w5.cells v8)]]=rows (slc 5 40 w5.cells) c10 from by rw[RY];first|exact U8 (E:=(slc 5 40 w5.cells)) s0 [v8]|simp only[go_sem,rows,List.map_append,List.map_cons,List.map_nil])
  have fy:=fa fy (show s0.length+1=c10.length from by rw[RY];simp)
  obtain⟨fx,h⟩:=ck fx h
  try simp only[go_sem,fx,fy]
  refine rn ?_
  cases h
  exact gW (gs0+1) (bm hsc)
 ·refine cf ?_
  refine gV ?_;simp only[go_sem,fx]
  exact⟨gs0,(bm hsc)⟩
 ·try simp only[go_sem,fx]
  unfold gi at h
  refine R4 hb ?_
  refine rr ?_
  exact fo (.sl false 1 24 (rows (slc 5 40 w5.cells) t0)) (.ref _ _ _ _ _ _ _ _ _ (lH.trans rfl) nI (by decide) (ru _) (by simp only[go_sem])) h hsc
theorem fG(n:Nat)(a0:(List (List w5)))(r:(List w5))(h:Y0 n a0=some r):Pure Tryz.prog gl 25 [.sl false 1 24 (rows (slc 5 40 w5.cells) a0)] (.sl false 5 40 (rows w5.cells r)):=by
 intro st
 unfold Y0 at h
 have fx:=trivial
 refine fb 48 [.tmp 2] [0,2,3,4,5,6,14,21,22,23,24,25,26,27,28,29,30,38] Tryz.func25 fun hsc=>?_
 obtain⟨v1,hv1,h⟩:=F9 h
 unfold yt at hv1
 obtain⟨hc1,hv1⟩:=MD hv1
 have hv1:=Option.some.inj hv1
 refine rn ?_
 refine(Et a0 hc1.2 hc1.1 st).mono ?_
 rintro d1 st1 ⟨N,o,g,rfl,rfl,hge,hlk⟩
 try simp only[go_sem,fx]
 refine rn ?_
 refine(AH rfl (by kernel_rfl) (fun x y=>dU x y _ (AG x y)) hlk (by omega)).mono ?_
 rintro d2 st2 ⟨rfl,rfl⟩
 rw[FV M8.swo CK,hv1]
 have DA:aZ (st++N) [(o,Ob.arr g 5 40 (rows w5.cells v1))]=st++N.set (o-st.length) (some (Ob.arr g 5 40 (rows w5.cells v1))):=by
  show(st++N).set o _=_
  rw[List.set_append_right _ _ hge]
 have hlv:a0.flatten.length=v1.length:=by rw[←hv1];exact(ke _ _).length_eq.symm
 rw[DA,hlv]
 try simp only[go_sem,fx]
 refine ql (fr':=[(0,.sl false 1 24 (rows (slc 5 40 w5.cells) a0)),(3,.F6),(4,.ref false o g 0 v1.length)]) ⟨rfl,rfl,rfl,trivial⟩ ?_
 refine R4 (Bo (F:=[(0,.sl false 1 24 (rows (slc 5 40 w5.cells) a0)),(3,.F6),(4,.sl false 5 40 (rows w5.cells v1))]) hsc ⟨.s,.s,.ref _ _ _ _ _ 5 40 (rows w5.cells v1) _ (by
  rw[←DA]
  show((st++N).set o _)[o]? =_
  rw[List.getElem?_set_self (T6 hlk)]) (by unfold Am.look;rw[List.getElem?_eq_none hge];rfl) (by decide) (ru _) (by rw[List.drop_zero,List.take_of_length_le];rw[Ae];exact Nat.le_refl _),trivial⟩ (by simp)) ?_
 refine r0 ?_
 (repeat apply sq_)
 refine oI 5 40 ?_
 try simp only[List.append_assoc,List.cons_append,List.nil_append]
 refine R4 (F:=[(0,.sl false 1 24 (rows (slc 5 40 w5.cells) a0)),(3,.ref false st.length 0 0 0),(4,.sl false 5 40 (rows w5.cells v1)),(5,.int .i64 0)]) (T:=st++[some (.arr 0 5 40 (rows w5.cells []))]) (Af hsc (.lv (.nil _)) (by simp) ⟨.s,.nref _ _ _ _ _ _ (lH.trans rfl),.s,.s,trivial⟩ (by simp)) ?_
 (repeat apply sq_)
 refine E8 (body:=U7 n v1 a0) (kk:=cE) (n:=n) (s0:=([],0))
  (fun(gs0:Nat) (s0:(List w5)×Int)=>[(0,.sl false 1 24 (rows (slc 5 40 w5.cells) a0)),(3,.ref false st.length gs0 0 s0.1.length),(4,.sl false 5 40 (rows w5.cells v1)),(5,.int .i64 s0.2)])
  (fun(gs0:Nat) (s0:(List w5)×Int)=>st++[some (.arr gs0 5 40 (rows w5.cells s0.1))])
  (fun(gt0:Nat) (t0:(List w5))=>[(3,.ref false st.length gt0 0 t0.length)])
  (fun(gt0:Nat) (t0:(List w5))=>st++[some (.arr gt0 5 40 (rows w5.cells t0))])
  0 h (bm hsc)
  (fun gs0 s0 b0 h hx0=>?_) (fun gt0 t0 fr1 st1 h hb=>?_)
 ·unfold U7 at h
  refine cd h (fun hc h=>?_) fun hc h=>?_
  ·refine rn ?_
   refine E8 (body:=aM v1 s0) (kk:=fF s0 a0 v1) (n:=n) (s0:=s0.2)
    (fun(gs2:Unit) (s2:Int)=>[(0,.sl false 1 24 (rows (slc 5 40 w5.cells) a0)),(3,.ref false st.length gs0 0 s0.1.length),(4,.sl false 5 40 (rows w5.cells v1)),(5,.int .i64 s0.2),(6,.int .i64 s2)])
    (fun(gs2:Unit) (s2:Int)=>st++[some (.arr gs0 5 40 (rows w5.cells s0.1))])
    (fun(gt2:Unit) (t2:Int)=>[(0,.sl false 1 24 (rows (slc 5 40 w5.cells) a0)),(3,.ref false st.length gs0 0 s0.1.length),(4,.sl false 5 40 (rows w5.cells v1)),(5,.int .i64 s0.2),(6,.int .i64 t2)])
    (fun(gt2:Unit) (t2:Int)=>st++[some (.arr gs0 5 40 (rows w5.cells s0.1))])
    () h (bm hsc)
    (fun gs2 s2 b2 h hx2=>?_) (fun gt2 t2 fr1 st1 h hb=>?_)
   ·unfold aM at h
    refine rs ?_
    obtain⟨fx,h⟩:=ck fx h
    obtain⟨fx,h⟩:=ck fx h
    refine dw [] 0 ?_
    refine cd h (fun hc h=>?_) fun hc h=>?_
    ·refine rn ?_
     cases h
     exact F5 () (bm hsc)
    ·refine rn ?_
     cases h
     exact K7 () (bm hsc)
   ·try simp only[go_sem,fx]
    unfold fF at h
    refine R4 hb ?_
    refine cd h (fun hc h=>?_) fun hc h=>?_
    ·obtain⟨fx,h⟩:=ck fx h
     obtain⟨c33,Vk,h⟩:=oz h
     have fy:=(show rows w5.cells s0.1++[[.int .i64 ((get v1 s0.2.toNat).from_),.int .i64 ((get v1 s0.2.toNat).to_),.int .i64 ((get v1 s0.2.toNat).level),.int .i64 ((get v1 s0.2.toNat).rule),.int .i64 ((get v1 s0.2.toNat).lex)]]=rows w5.cells c33 from by rw[Vk];first|exact U8 (E:=w5.cells) s0.1 [(get v1 s0.2.toNat)]|simp only[go_sem,rows,List.map_append,List.map_cons,List.map_nil])
     have fy:=fa fy (show s0.1.length+1=c33.length from by rw[Vk];simp)
     obtain⟨fx,h⟩:=ck fx h
     refine r1 ?_
     refine rn ?_
     cases h
     exact F5 (gs0+1) (bm hsc)
    ·refine rn ?_
     cases h
     exact F5 gs0 (bm hsc)
  ·refine rn ?_
   cases h
   exact K7 gs0 (bm hsc)
 ·try simp only[go_sem,fx]
  unfold cE at h
  refine R4 hb ?_
  refine rr ?_
  exact fo (.sl false 5 40 (rows w5.cells t0)) (.ref _ _ _ _ _ _ _ _ _ (lH.trans rfl) nI (by decide) (ru _) (by simp only[go_sem])) h hsc
theorem kT(n:Nat)(a0:x5)(a1:(List w8))(r:(List w5)×w9)(h:dx n a0 a1=some r):Pure Tryz.prog gl 10 [.agg [.sl false 2 40 (rows x7.cells a0.hierarchy.types),.sl false 3 32 (rows y8.cells a0.hierarchy.C1),.sl false 10 152 (rows x6.cells a0.rules),.sl false 9 144 (rows C5.cells a0.I7),.sl false 2 32 (rows y4.cells a0.start.nodes)],.sl false 3 40 (rows w8.cells a1)] (.tup [.sl false 5 40 (rows w5.cells r.1),.agg [.int .i64 r.2.code,.int .i64 r.2.index]]):=by
 intro st
 unfold dx at h
 have fx:=trivial
 refine fb 18 [.tmp 4,.cell 5 37] [0,1,2,4,5,6,12] Tryz.func10 fun hsc=>?_
 refine cl h (jq n _ _) fun v1 h=>?_
 refine cd h (fun hc h=>?_) fun hc h=>?_
 ·refine rs ?_
  refine dw [] 0 ?_
  refine rr ?_
  exact fo (.tup [.sl false 5 40 (rows w5.cells []),.agg [.int .i64 v1.code,.int .i64 v1.index]]) (.tup _ _ (.cons _ _ _ _ (.F6 _ _ _ (by decide)) (.cons _ _ _ _ .s .nil)) rfl) h hsc
 ·refine cl h (dB n _) fun v2 h=>?_
  refine cl h (fG n _) fun v3 h=>?_
  exact rt
theorem jY(n:Nat)(a0:x5)(a1:(List w8))(a2:(List w7))(r:w9)(h:bZ n a0 a1 a2=some r):Pure Tryz.prog gl 32 [.agg [.sl false 2 40 (rows x7.cells a0.hierarchy.types),.sl false 3 32 (rows y8.cells a0.hierarchy.C1),.sl false 10 152 (rows x6.cells a0.rules),.sl false 9 144 (rows C5.cells a0.I7),.sl false 2 32 (rows y4.cells a0.start.nodes)],.sl false 3 40 (rows w8.cells a1),.sl false 6 48 (rows w7.cells a2)] (.agg [.int .i64 r.code,.int .i64 r.index]):=by
 intro st
 unfold bZ at h
 have fx:=trivial
 refine fb 20 [.cell 6 37] [0,1,2,3,6,7,13,17] Tryz.func32 fun hsc=>?_
 refine cl h (jq n _ _) fun v1 h=>?_
 refine cd h (fun hc h=>?_) fun hc h=>?_
 ·exact rt
 ·refine cd h (fun hc h=>?_) fun hc h=>?_
  ·refine cl h (cF _ _) fun v2 h=>?_
   exact rt
  ·exact rt
theorem V5(n:Nat)(a0:(List w5))(a1:w5)(r:Int×Bool)(h:C8 n a0 a1=some r):Pure Tryz.prog gl 64 [.sl false 5 40 (rows w5.cells a0),.agg [.int .i64 a1.from_,.int .i64 a1.to_,.int .i64 a1.level,.int .i64 a1.rule,.int .i64 a1.lex],.fn 54 [] []] (.tup [.int .i64 r.1,.bool r.2]):=by
 intro st
 unfold C8 at h
 have fx:=trivial
 refine fb 49 [.tmp 6,.tmp 7] [0,1,2,4,6,7,8,9,10,11,17,31,40,41,42,43,44,45,46,47] Tryz.func64 fun hsc=>?_
 refine rn ?_
 refine E8 (body:=B7 a0 a1) (kk:=D7 a0 a1) (n:=n) (s0:=((↑a0.length:Int),0))
  (fun(gs0:Unit) (s0:Int×Int)=>[(0,.sl false 5 40 (rows w5.cells a0)),(2,.fn 54 [] []),(4,.ptr st.length 0 0 0),(8,.int .i64 (↑a0.length:Int)),(9,.int .i64 s0.2),(10,.int .i64 s0.1)])
  (fun(gs0:Unit) (s0:Int×Int)=>st++[some (.arr 0 5 0 [[.int .i64 a1.from_,.int .i64 a1.to_,.int .i64 a1.level,.int .i64 a1.rule,.int .i64 a1.lex]])])
  (fun(gt0:Unit) (t0:Int)=>[(0,.sl false 5 40 (rows w5.cells a0)),(2,.fn 54 [] []),(4,.ptr st.length 0 0 0),(8,.int .i64 (↑a0.length:Int)),(9,.int .i64 t0)])
  (fun(gt0:Unit) (t0:Int)=>st++[some (.arr 0 5 0 [[.int .i64 a1.from_,.int .i64 a1.to_,.int .i64 a1.level,.int .i64 a1.rule,.int .i64 a1.lex]])])
  () h (bm hsc)
  (fun gs0 s0 b0 h hx0=>?_) (fun gt0 t0 fr1 st1 h hb=>?_)
 ·unfold B7 at h
  refine cd h (fun hc h=>?_) fun hc h=>?_
  ·refine rn ?_
   obtain⟨fx,h⟩:=ck fx h
   refine dw [] 0 ?_
   obtain⟨v6,hv6,h⟩:=F9 h
   refine A9 (dU _ _ _ hv6) ?_
   try simp only[go_sem,fx]
   refine cd h (fun hc h=>?_) fun hc h=>?_
   ·refine rn ?_
    cases h
    exact F5 () (bm hsc)
   ·refine rn ?_
    cases h
    exact F5 () (bm hsc)
  ·refine rn ?_
   cases h
   exact K7 () (bm hsc)
 ·try simp only[go_sem,fx]
  unfold D7 at h
  refine R4 hb ?_
  refine rs ?_
  obtain⟨fx,h⟩:=ck fx h
  refine dw [] 0 ?_
  obtain⟨v10,hv10,h⟩:=F9 h
  refine fT (fun hG=>(dU _ _ _ (tO hv10 (by simpa using hG)))) ?_
  try simp only[go_sem,fx]
  exact rt
theorem eX(n:Nat)(a0:(List w5))(a1:w7)(r:Bool)(h:S0 n a0 a1=some r):Pure Tryz.prog gl 35 [.sl false 5 40 (rows w5.cells a0),.agg [.int .i64 a1.what.from_,.int .i64 a1.what.to_,.int .i64 a1.what.level,.int .i64 a1.what.rule,.int .i64 a1.what.lex,.bool a1.yes]] (.bool r):=by
 intro st
 unfold S0 at h
 have fx:=trivial
 refine fb 18 [.tmp 4] [0,1,3,4,6] Tryz.func35 fun hsc=>?_
 refine cl h (V5 n _ _) fun v1 h=>?_
 exact rt
theorem pz(n:Nat)(a0:w7)(R2:(List w5))(r:Bool)(h:dN n a0 R2=some r):∀(st:St) (o0:Nat) (hnd: [o0].Nodup) (jI:Am.look st o0=some (.arr 0 1 0 [[.sl false 5 40 (rows w5.cells R2)]])),Am.Spec Tryz.prog gl 63 [.agg [.int .i64 a0.what.from_,.int .i64 a0.what.to_,.int .i64 a0.what.level,.int .i64 a0.what.rule,.int .i64 a0.what.lex,.bool a0.yes],.ptr o0 0 0 0] st (fun d st'=>d= .bool r∧st'=puts st []):=by
 intro st o0 hnd jI
 unfold dN at h
 have ho0:=T6 jI
 have fx:=idf ho0
 refine fb 8 [.tmp 3] [0,1,2,3] Tryz.func63 fun hsc=>?_
 refine mJ (s':=(aZ st [(o0,(.arr 0 1 0 [[.sl false 5 40 (rows w5.cells R2)]]))])) (N5 (by simp[jI])) ?_
 refine cl h (eX n _ _) fun v1 h=>?_
 refine rr ?_
 exact fuo (.bool (!v1)) (.same _) h hsc (hr:=by rintro rfl;exact⟨rfl,N5 (by simp[jI])⟩)
theorem iE(n:Nat)(a0:(List w7))(R2:(List w5))(r:Int)(h:M9 n a0 R2=some r):∀(st:St) (o0:Nat) (hnd: [o0].Nodup) (jI:Am.look st o0=some (.arr 0 1 0 [[.sl false 5 40 (rows w5.cells R2)]])),Am.Spec Tryz.prog gl 91 [.sl false 6 48 (rows w7.cells a0),.fn 63 [] [.ptr o0 0 0 0]] st (fun d st'=>d= .int .i64 r∧st'=puts st []):=by
 intro st o0 hnd jI
 unfold M9 at h
 have ho0:=T6 jI
 have fx:=idf ho0
 refine fb 19 [.tmp 4] [0,1,4,5,7,8,9,16] Tryz.func91 fun hsc=>?_
 refine mJ (s':=(aZ st [(o0,(.arr 0 1 0 [[.sl false 5 40 (rows w5.cells R2)]]))])) (N5 (by simp[jI])) ?_
 refine aln 0 fun hl0=>?_
 refine rng (body:=K8 n a0 R2) (kk:=K9) (n:=a0.length) (s0:=())
  (fun(gs0:Unit) (k0:Nat) (s0:Unit)=>[(0,.sl false 6 48 (rows w7.cells a0)),(1,.fn 63 [] [.ptr o0 0 0 0]),(7,.int .i64 (↑a0.length:Int)),(8,.int .i64 (↑k0:Int))])
  (fun(gs0:Unit) (k0:Nat) (s0:Unit)=>(aZ st [(o0,(.arr 0 1 0 [[.sl false 5 40 (rows w5.cells R2)]]))]))
  (fun(gt0:Unit) (t0:Unit)=>[])
  (fun(gt0:Unit) (t0:Unit)=>(aZ st [(o0,(.arr 0 1 0 [[.sl false 5 40 (rows w5.cells R2)]]))]))
  () fx hl0 h (Po hsc)
  (fun gs0 k0 s0 b0 fx h hx0=>?_) (fun gs0 s0=>?_) (fun gt0 t0 fr1 st1 h hb=>?_)
 ·unfold K8 at h
  refine ct ?_
  refine rn ?_
  obtain⟨v1,hv1,h⟩:=F9 h
  refine(pz n _ _ _ hv1 _ _ hnd (by simp only[go_sem,fx])).mono ?_
  rintro d1 st1 ⟨rfl,rfl⟩
  refine cd h (fun hc h=>?_) fun hc h=>?_
  ·refine ra ?_
   cases h
   refine F4 ?_;have h:=congrArg some (hx0 _ rfl)
   refine rr ?_
   exact fus (.int .i64 (↑k0:Int)) (.same _) h hsc (hr:=by rintro rfl;exact⟨rfl,N5 (by simp[jI])⟩)
  ·refine rn ?_
   cases h
   exact gW () (Po hsc)
 ·refine cf ?_
  refine gV ?_;simp only[go_sem,fx]
  exact⟨(),(Po hsc)⟩
 ·try simp only[go_sem,fx]
  unfold K9 at h
  refine R4 hb ?_
  refine rr ?_
  exact fus (.int .i64 (-1)) (.same _) h hsc (hr:=by rintro rfl;exact⟨rfl,N5 (by simp[jI])⟩)
theorem gu(n:Nat)(a0:(List w7))(R2:(List w5))(r:Bool)(h:G8 n a0 R2=some r):∀(st:St) (o0:Nat) (hnd: [o0].Nodup) (jI:Am.look st o0=some (.arr 0 1 0 [[.sl false 5 40 (rows w5.cells R2)]])),Am.Spec Tryz.prog gl 62 [.sl false 6 48 (rows w7.cells a0),.fn 63 [] [.ptr o0 0 0 0]] st (fun d st'=>d= .bool r∧st'=puts st []):=by
 intro st o0 hnd jI
 unfold G8 at h
 have ho0:=T6 jI
 have fx:=idf ho0
 refine fb 9 [.tmp 4] [0,1,4] Tryz.func62 fun hsc=>?_
 refine mJ (s':=(aZ st [(o0,(.arr 0 1 0 [[.sl false 5 40 (rows w5.cells R2)]]))])) (N5 (by simp[jI])) ?_
 refine rn ?_
 obtain⟨v1,hv1,h⟩:=F9 h
 refine(iE n _ _ _ hv1 _ _ hnd (by simp only[go_sem,fx])).mono ?_
 rintro d1 st1 ⟨rfl,rfl⟩
 refine rr ?_
 exact fus (.bool (decide (0≤v1))) (.same _) h hsc (hr:=by rintro rfl;exact⟨rfl,N5 (by simp[jI])⟩)
theorem eC(n:Nat)(a0:(List (List w5)))(a1:(List w7))(r:(List Int))(h:L4 n a0 a1=some r):Pure Tryz.prog gl 33 [.sl false 1 24 (rows (slc 5 40 w5.cells) a0),.sl false 6 48 (rows w7.cells a1)] (.sl false 1 8 (rows Z4 r)):=by
 intro st
 unfold L4 at h
 have fx:=trivial
 refine fb 25 [.tmp 4] [0,1,4,5,6,7,8,9,10,11,18] Tryz.func33 fun hsc=>?_
 refine r0 ?_
 refine r0 ?_
 refine r0 ?_
 (repeat apply sq_)
 refine oI 1 8 ?_
 try simp only[List.append_assoc,List.cons_append,List.nil_append]
 refine R4 (F:=[(1,.sl false 6 48 (rows w7.cells a1)),(5,.ref false st.length 0 0 0),(8,.sl false 1 24 (rows (slc 5 40 w5.cells) a0)),(9,.int .i64 (↑a0.length:Int)),(10,.int .i64 0)]) (T:=st++[some (.arr 0 1 8 (rows Z4 []))]) (Af hsc (.lv (.nil _)) (by simp) ⟨.s,.nref _ _ _ _ _ _ (lH.trans rfl),.s,.s,.s,trivial⟩ (by simp)) ?_
 refine aln 8 fun hl0=>?_
 refine rng (body:=aQ n a1 a0) (kk:=aR) (n:=a0.length) (s0:=[])
  (fun(gs0:Nat) (k0:Nat) (s0:(List Int))=>[(1,.sl false 6 48 (rows w7.cells a1)),(5,.ref false st.length gs0 0 s0.length),(8,.sl false 1 24 (rows (slc 5 40 w5.cells) a0)),(9,.int .i64 (↑a0.length:Int)),(10,.int .i64 (↑k0:Int))])
  (fun(gs0:Nat) (k0:Nat) (s0:(List Int))=>st++[some (.arr gs0 1 8 (rows Z4 s0))])
  (fun(gt0:Nat) (t0:(List Int))=>[(5,.ref false st.length gt0 0 t0.length)])
  (fun(gt0:Nat) (t0:(List Int))=>st++[some (.arr gt0 1 8 (rows Z4 t0))])
  0 fx hl0 h (bm hsc)
  (fun gs0 k0 s0 b0 fx h hx0=>?_) (fun gs0 s0=>?_) (fun gt0 t0 fr1 st1 h hb=>?_)
 ·unfold aQ at h
  refine ct ?_
  refine rn ?_
  obtain⟨v8,hv8,h⟩:=F9 h
  refine(gu n _ _ _ hv8 _ _ (by simp) (cW.trans rfl)).mono ?_
  rintro d1 st1 ⟨rfl,rfl⟩
  refine cd h (fun hc h=>?_) fun hc h=>?_
  ·obtain⟨c10,RY,h⟩:=oz h
   have fy:=(show rows Z4 s0++[[.int .i64 (↑k0:Int)]]=rows Z4 c10 from by rw[RY];first|exact U8 (E:=Z4) s0 [(↑k0:Int)]|simp only[go_sem,rows,List.map_append,List.map_cons,List.map_nil])
   have fy:=fa fy (show s0.length+1=c10.length from by rw[RY];simp)
   obtain⟨fx,h⟩:=ck fx h
   refine r1 ?_
   refine rn ?_
   cases h
   exact gW (gs0+1) (bm hsc)
  ·refine rn ?_
   cases h
   exact gW gs0 (bm hsc)
 ·refine cf ?_
  refine gV ?_;simp only[go_sem,fx]
  exact⟨gs0,(bm hsc)⟩
 ·try simp only[go_sem,fx]
  unfold aR at h
  refine R4 hb ?_
  refine rr ?_
  exact fo (.sl false 1 8 (rows Z4 t0)) (.ref _ _ _ _ _ _ _ _ _ (lH.trans rfl) nI (by decide) (ru _) (by simp only[go_sem])) h hsc
theorem S7(n:Nat)(a0:x5)(a1:(List w8))(a2:(List w7))(r:(List Int)×w9)(h:J4 n a0 a1 a2=some r):Pure Tryz.prog gl 13 [.agg [.sl false 2 40 (rows x7.cells a0.hierarchy.types),.sl false 3 32 (rows y8.cells a0.hierarchy.C1),.sl false 10 152 (rows x6.cells a0.rules),.sl false 9 144 (rows C5.cells a0.I7),.sl false 2 32 (rows y4.cells a0.start.nodes)],.sl false 3 40 (rows w8.cells a1),.sl false 6 48 (rows w7.cells a2)] (.tup [.sl false 1 8 (rows Z4 r.1),.agg [.int .i64 r.2.code,.int .i64 r.2.index]]):=by
 intro st
 unfold J4 at h
 have fx:=trivial
 refine fb 22 [.tmp 6,.cell 7 37] [0,1,2,3,6,7,8,15] Tryz.func13 fun hsc=>?_
 refine cl h (jY n _ _ _) fun v1 h=>?_
 refine cd h (fun hc h=>?_) fun hc h=>?_
 ·refine rs ?_
  refine dw [] 0 ?_
  refine rr ?_
  exact fo (.tup [.sl false 1 8 (rows Z4 []),.agg [.int .i64 v1.code,.int .i64 v1.index]]) (.tup _ _ (.cons _ _ _ _ (.F6 _ _ _ (by decide)) (.cons _ _ _ _ .s .nil)) rfl) h hsc
 ·refine cl h (dB n _) fun v2 h=>?_
  refine cl h (eC n _ _) fun v3 h=>?_
  exact rt
theorem U6(n:Nat)(a0:(List Int))(a1:(List Int))(r:Bool)(h:J2 n a0 a1=some r):Pure Tryz.prog gl 14 [.sl false 1 8 (rows Z4 a0),.sl false 1 8 (rows Z4 a1)] (.bool r):=by
 intro st
 unfold J2 at h
 have fx:=trivial
 refine fb 26 [.tmp 4] [0,1,4,5,10,14,25] Tryz.func14 fun hsc=>?_
 refine cd h (fun hc h=>?_) fun hc h=>?_
 ·exact rt
 ·refine rn ?_
  refine E8 (body:=P1 a0 a1) (kk:=eB) (n:=n) (s0:=0)
   (fun(gs0:Unit) (s0:Int)=>[(0,.sl false 1 8 (rows Z4 a0)),(1,.sl false 1 8 (rows Z4 a1)),(5,.int .i64 s0)])
   (fun(gs0:Unit) (s0:Int)=>st)
   (fun(gt0:Unit) (t0:Unit)=>[])
   (fun(gt0:Unit) (t0:Unit)=>st)
   () h (gX hsc)
   (fun gs0 s0 b0 h hx0=>?_) (fun gt0 t0 fr1 st1 h hb=>?_)
  ·unfold P1 at h
   refine cd h (fun hc h=>?_) fun hc h=>?_
   ·refine rn ?_
    obtain⟨fx,h⟩:=ck fx h
    obtain⟨fx,h⟩:=ck fx h
    refine dw [] 0 ?_
    refine cd h (fun hc h=>?_) fun hc h=>?_
    ·refine ra ?_
     cases h
     refine aP ?_;have h:=congrArg some (hx0 _ rfl)
     exact rt
    ·refine rn ?_
     cases h
     exact F5 () (gX hsc)
   ·refine rn ?_
    cases h
    exact K7 () (gX hsc)
  ·try simp only[go_sem,fx]
   unfold eB at h
   refine R4 hb ?_
   exact rt
theorem G7(n:Nat)(r:Bool)(h:E0 n=some r):Pure Tryz.prog gl 9 [] (.bool r):=by
 intro st
 unfold E0 at h
 have fx:=trivial
 refine fb 47 [.tmp 0] [0,1,2,3,4,5,26,27,28,31,32,33,34,35,38,39,40,43,44,45] Tryz.func9 fun hsc=>?_
 refine cl h (ko n) fun v1 h=>?_
 refine cl h (jC ) fun v2 h=>?_
 refine cl h (kT n _ _) fun v3 h=>?_
 refine rn ?_
 refine dw [] 2 ?_
 obtain⟨v4,hv4,h⟩:=F9 h
 refine A9 (ko n _ hv4) ?_
 try simp only[go_sem,fx]
 obtain⟨v5,hv5,h⟩:=F9 h
 refine A9 (jC _ hv5) ?_
 try simp only[go_sem,fx]
 obtain⟨v7,hv7,h⟩:=F9 h
 refine A9 (S7 n _ _ _ _ hv7) ?_
 try simp only[go_sem,fx]
 refine rs ?_
 obtain⟨fx,h⟩:=ck fx h
 refine dw [] 1 ?_
 obtain⟨v11,hv11,h⟩:=F9 h
 refine fT (fun hG=>(U6 n _ _ _ (tO hv11 (by simpa using hG)))) ?_
 try simp only[go_sem,fx]
 exact rt
theorem gU(a0:Bs)(r:Bool)(h:X5 a0=some r):Pure Tryz.prog gl 57 [.str a0] (.bool r):=by
 intro st
 unfold X5 at h
 have fx:=trivial
 refine fb 54 [.tmp 2] [0,2,3,4,5,6,11,12,13,14,16,17,18,19,26,27,32,33,36,37,40,41,46,47,48,49,50,51,52] Tryz.func57 fun hsc=>?_
 refine cd h (fun hc h=>?_) fun hc h=>?_
 ·exact rt
 ·obtain⟨fx,h⟩:=ck fx h
  refine aln 16 fun hl0=>?_
  refine rng (body:=dF a0) (kk:=dG) (n:=(bytesOf a0).length) (s0:=())
   (fun(gs0:Unit) (k0:Nat) (s0:Unit)=>[(16,.sl false 1 1 (rows u8c (bytesOf a0))),(17,.int .i64 (↑((bytesOf a0).length):Int)),(18,.int .i64 (↑k0:Int))])
   (fun(gs0:Unit) (k0:Nat) (s0:Unit)=>st)
   (fun(gt0:Unit) (t0:Unit)=>[])
   (fun(gt0:Unit) (t0:Unit)=>st)
   () fx hl0 h (gX hsc)
   (fun gs0 k0 s0 b0 fx h hx0=>?_) (fun gs0 s0=>?_) (fun gt0 t0 fr1 st1 h hb=>?_)
  ·unfold dF at h
   refine ct ?_
   refine cd h (fun hc h=>?_) fun hc h=>?_
   ·refine ra ?_
    cases h
    refine F4 ?_;have h:=congrArg some (hx0 _ rfl)
    exact rt
   ·refine rn ?_
    cases h
    exact gW () (gX hsc)
  ·refine cf ?_
   refine gV ?_;simp only[go_sem,fx]
   exact⟨(),(gX hsc)⟩
  ·try simp only[go_sem,fx]
   unfold dG at h
   refine R4 hb ?_
   exact rt
end Go.Proofs.YtfogbhjeihkliaaGreatDoor
