import Derived.Test.YtoekkdodipnmpaaGreatDoorSWalk6
set_option linter.unusedVariables false
set_option linter.unusedSimpArgs false
set_option maxHeartbeats 2000000
set_option maxRecDepth 100000
namespace Go.Proofs.YtoekkdodipnmpaaGreatDoor
open Go Go.Am
theorem lf(n:Nat)(a0:w7)(a1:Int)(r:w5)(h:hY n a0 a1=some r):Pure Tryz.prog gl 16 [.agg [.int .i64 a0.num,.int .i64 a0.den],.int .i64 a1] (.agg [.int .i64 r.code,.int .i64 r.index]):=by
 intro st
 unfold hY at h
 have fx:=trivial
 refine fb 36 [.cell 4 39] [0,1,2,4,9,10,11,14,15,16,19,20,21,22,32] Tryz.func16 fun hsc=>?_
 refine cd h (fun hc h=>?_) fun hc h=>?_
 ·exact rt
 ·refine rn ?_
  refine dw [] 0 ?_
  obtain⟨v1,hv1,h⟩:=E7 h
  refine y9 (dN _ _ hv1) ?_
  try simp only[go_sem,fx]
  obtain⟨v2,hv2,h⟩:=E7 h
  refine y9 (gK n _ _ _ hv2) ?_
  try simp only[go_sem,fx]
  refine cd h (fun hc h=>?_) fun hc h=>?_
  ·exact rt
  ·exact rt
theorem yX(n:Nat)(a0:w7)(a1:w7)(r:w5)(h:vn n a0 a1=some r):Pure Tryz.prog gl 82 [.agg [.int .i64 a0.num,.int .i64 a0.den],.agg [.int .i64 a1.num,.int .i64 a1.den]] (.agg [.int .i64 r.code,.int .i64 r.index]):=by
 intro st
 unfold vn at h
 have fx:=trivial
 refine fb 14 [.cell 4 39] [0,1,2,3,4,5,10] Tryz.func82 fun hsc=>?_
 refine cl h (lf n _ _) fun v1 h=>?_
 refine cd h (fun hc h=>?_) fun hc h=>?_
 ·exact rt
 ·refine cl h (lf n _ _) fun v2 h=>?_
  exact rt
theorem fU(a0:Int)(a1:Int)(r:Int×Int)(h:aQ a0 a1=some r):Pure Tryz.prog gl 44 [.int .u64 a0,.int .u64 a1] (.tup [.int .u64 r.1,.int .u64 r.2]):=by
 intro st
 unfold aQ at h
 have fx:=trivial
 refine fb 51 [.tmp 4,.tmp 5] [0,1,4,5,6,7,8,9,10,11,12,13] Tryz.func44 fun hsc=>?_
 exact rt
theorem jh(a0:Int)(a1:Int)(r:Int×Bool)(h:dG a0 a1=some r):Pure Tryz.prog gl 48 [.int .u64 a0,.int .u64 a1] (.tup [.int .u64 r.1,.bool r.2]):=by
 intro st
 unfold dG at h
 have fx:=trivial
 refine fb 21 [.tmp 4,.tmp 5] [0,1,4,5,6,7,18,19] Tryz.func48 fun hsc=>?_
 refine cl h (fU _ _) fun v1 h=>?_
 exact rt
theorem xr(n:Nat)(a0:w7)(a1:w7)(r:w7×w5)(h:sv n a0 a1=some r):Pure Tryz.prog gl 83 [.agg [.int .i64 a0.num,.int .i64 a0.den],.agg [.int .i64 a1.num,.int .i64 a1.den]] (.tup [.agg [.int .i64 r.1.num,.int .i64 r.1.den],.agg [.int .i64 r.2.code,.int .i64 r.2.index]]):=by
 intro st
 unfold sv at h
 have fx:=trivial
 refine fb 78 [.cell 4 45,.cell 5 39] [0,1,2,3,4,5,6,7,8,9,10,11,12,13,14,15,57,58,59,70,71] Tryz.func83 fun hsc=>?_
 refine rn ?_
 refine dw [] 0 ?_
 obtain⟨v1,hv1,h⟩:=E7 h
 refine y9 (dN _ _ hv1) ?_
 try simp only[go_sem,fx]
 obtain⟨v2,hv2,h⟩:=E7 h
 refine y9 (dN _ _ hv2) ?_
 try simp only[go_sem,fx]
 refine cl h (gK n _ _) fun v3 h=>?_
 refine cl h (gK n _ _) fun v4 h=>?_
 refine rn ?_
 obtain⟨fx,h⟩:=ck fx h
 obtain⟨fx,h⟩:=ck fx h
 refine dw [] 0 ?_
 obtain⟨v9,hv9,h⟩:=E7 h
 refine y9 (jh _ _ _ hv9) ?_
 try simp only[go_sem,fx]
 refine rs ?_
 obtain⟨fx,h⟩:=ck fx h
 obtain⟨fx,h⟩:=ck fx h
 refine dw [] 0 ?_
 obtain⟨v12,hv12,h⟩:=E7 h
 refine y9 (jh _ _ _ hv12) ?_
 try simp only[go_sem,fx]
 refine cd h (fun hc h=>?_) fun hc h=>?_
 ·exact rt
 ·refine cl h (sA _ _ _) fun v13 h=>?_
  exact rt
theorem AY(n:Nat)(a0:w7)(a1:w7)(r:w7×w5)(h:yV n a0 a1=some r):Pure Tryz.prog gl 60 [.agg [.int .i64 a0.num,.int .i64 a0.den],.agg [.int .i64 a1.num,.int .i64 a1.den]] (.tup [.agg [.int .i64 r.1.num,.int .i64 r.1.den],.agg [.int .i64 r.2.code,.int .i64 r.2.index]]):=by
 intro st
 unfold yV at h
 have fx:=trivial
 refine fb 20 [.cell 4 45,.cell 5 39] [0,1,2,3,4,5,6,12] Tryz.func60 fun hsc=>?_
 refine cl h (yX n _ _) fun v1 h=>?_
 refine cd h (fun hc h=>?_) fun hc h=>?_
 ·refine rs ?_
  refine dw [1,2] 0 ?_
  try refine⟨by(simp<;>omega),?_⟩
  exact rt
 ·refine cl h (xr n _ _) fun v2 h=>?_
  exact rt
theorem mo:∀(n:Nat) (a0:B5) (S5:(List w7)) (iB:(List w7)) (qm:Int) (Bb:Int) (r:Bool×Int×Int) (h:S4 n a0 S5 iB qm Bb=some r),∀(st:St) (o0 o1 o2 o3:Nat) (hnd: [o0,o1,o2,o3].Nodup) (fY:Am.look st o0=some (.arr 0 1 0 [[.sl false 2 16 (rows w7.cells S5)]])) (ot:Am.look st o1=some (.arr 0 1 0 [[.sl false 2 16 (rows w7.cells iB)]])) (tX:Am.look st o2=some (.arr 0 2 0 [[.int .i64 qm,.int .i64 Bb]])) (Ds:Am.look st o3=some (.arr 0 1 0 [[.fn 59 [] [.ptr o0 0 0 0,.ptr o1 0 0 0,.ptr o2 0 0 0,.ptr o3 0 0 0]]])),Am.Spec Tryz.prog gl 59 [.agg [.int .i64 a0.rule,.int .i64 a0.lex,.sl false 3 40 (rows B5.cells a0.kids)],.ptr o0 0 0 0,.ptr o1 0 0 0,.ptr o2 0 0 0,.ptr o3 0 0 0] st (fun d st'=>d= .bool r.1∧st'=puts st [(o0,(.arr 0 1 0 [[.sl false 2 16 (rows w7.cells S5)]])),(o1,(.arr 0 1 0 [[.sl false 2 16 (rows w7.cells iB)]])),(o2,(.arr 0 2 0 [[.int .i64 r.2.1,.int .i64 r.2.2]])),(o3,(.arr 0 1 0 [[.fn 59 [] [.ptr o0 0 0 0,.ptr o1 0 0 0,.ptr o2 0 0 0,.ptr o3 0 0 0]]]))]):=by
 intro n
 induction n with
 |zero=>intro a0 S5 iB qm Bb r h;cases h
 |succ n ih=>
  intro a0 S5 iB qm Bb r h st o0 o1 o2 o3 hnd fY ot tX Ds
  unfold S4 at h
  have ho0:=S9 fY
  have ho1:=S9 ot
  have ho2:=S9 tX
  have ho3:=S9 Ds
  have fx:=fa (fa (fa (fa (idf ho0) (idf ho1)) (idf ho2)) (idf ho3)) (nd4 hnd)
  refine fb 45 [.tmp 6] [0,1,2,3,4,5,6,7,8,10,13,32,34,35,36,37,43] Tryz.func59 fun hsc=>?_
  refine kS (s':=(U1 st [(o0,(.arr 0 1 0 [[.sl false 2 16 (rows w7.cells S5)]])),(o1,(.arr 0 1 0 [[.sl false 2 16 (rows w7.cells iB)]])),(o2,(.arr 0 2 0 [[.int .i64 qm,.int .i64 Bb]])),(o3,(.arr 0 1 0 [[.fn 59 [] [.ptr o0 0 0 0,.ptr o1 0 0 0,.ptr o2 0 0 0,.ptr o3 0 0 0]]]))])) (K5 (by simp[fY,ot,tX,Ds])) ?_
  refine rn ?_
  refine eP (ao (S4 n) n qm Bb a0 S5 iB) r (fun(gj0:Unit) (j0:Int×Int)=>[(3,.ptr o2 0 0 0),(4,.ptr o3 0 0 0),(5,.ptr st.length 0 0 0),(7,.ptr (st.length+1) 0 0 0)]) (fun(gj0:Unit) (j0:Int×Int)=>(U1 st [(o0,(.arr 0 1 0 [[.sl false 2 16 (rows w7.cells S5)]])),(o1,(.arr 0 1 0 [[.sl false 2 16 (rows w7.cells iB)]])),(o2,(.arr 0 2 0 [[.int .i64 qm,.int .i64 Bb]])),(o3,(.arr 0 1 0 [[.fn 59 [] [.ptr o0 0 0 0,.ptr o1 0 0 0,.ptr o2 0 0 0,.ptr o3 0 0 0]]]))])++[some (.arr 0 3 0 [[.int .i64 a0.rule,.int .i64 a0.lex,.sl false 3 40 (rows B5.cells a0.kids)]]),some (.arr 0 2 0 [[.int .i64 j0.1,.int .i64 j0.2]])]) (fun gj0 j0 fr1 st1 h hb=>?_) (fun hj0=>?_)
  ·try simp only[go_sem,fx]
   unfold ao at h
   refine R8 hb ?_
   refine cl h (AY n _ _) fun v5 h=>?_
   refine cd h (fun hc h=>?_) fun hc h=>?_
   ·refine rr ?_
    exact fuo (.bool false) (.same _) h hsc
   ·refine aln 34 fun hl1=>?_
    refine rng (body:=cN (S4 n) a0 S5 iB) (kk:=cO) (n:=a0.kids.length) (s0:=(v5.1.num,v5.1.den))
     (fun(gs1:Unit) (k1:Nat) (s1:Int×Int)=>[(4,.ptr o3 0 0 0),(34,.sl false 3 40 (rows B5.cells a0.kids)),(35,.int .i64 (↑a0.kids.length:Int)),(36,.int .i64 (↑k1:Int))])
     (fun(gs1:Unit) (k1:Nat) (s1:Int×Int)=>(U1 st [(o0,(.arr 0 1 0 [[.sl false 2 16 (rows w7.cells S5)]])),(o1,(.arr 0 1 0 [[.sl false 2 16 (rows w7.cells iB)]])),(o2,(.arr 0 2 0 [[.int .i64 s1.1,.int .i64 s1.2]])),(o3,(.arr 0 1 0 [[.fn 59 [] [.ptr o0 0 0 0,.ptr o1 0 0 0,.ptr o2 0 0 0,.ptr o3 0 0 0]]]))]))
     (fun(gt1:Unit) (t1:Int×Int)=>[])
     (fun(gt1:Unit) (t1:Int×Int)=>(U1 st [(o0,(.arr 0 1 0 [[.sl false 2 16 (rows w7.cells S5)]])),(o1,(.arr 0 1 0 [[.sl false 2 16 (rows w7.cells iB)]])),(o2,(.arr 0 2 0 [[.int .i64 t1.1,.int .i64 t1.2]])),(o3,(.arr 0 1 0 [[.fn 59 [] [.ptr o0 0 0 0,.ptr o1 0 0 0,.ptr o2 0 0 0,.ptr o3 0 0 0]]]))]))
     () fx hl1 h (bu0 hsc)
     (fun gs1 k1 s1 b1 fx h hx1=>?_) (fun gs1 s1=>?_) (fun gt1 t1 fr1 st1 h hb=>?_)
    ·unfold cN at h
     refine ct ?_
     refine rn ?_
     obtain⟨v7,hv7,h⟩:=E7 h
     refine(ih _ _ _ _ _ _ hv7 _ _ _ _ _ hnd (by simp only[go_sem,fx]) (by simp only[go_sem,fx]) (by simp only[go_sem,fx]) (by simp only[go_sem,fx])).mono ?_
     rintro d1 st1 ⟨rfl,rfl⟩
     refine cd h (fun hc h=>?_) fun hc h=>?_
     ·refine ra ?_
      cases h
      refine D4 ?_;have h:=congrArg some (hx1 _ rfl)
      refine rr ?_
      exact fuo (.bool false) (.same _) h hsc
     ·refine rn ?_
      cases h
      exact dc () (bu0 hsc)
    ·refine cf ?_
     refine cP ?_;simp only[go_sem,fx]
     exact⟨(),(LB hsc)⟩
    ·try simp only[go_sem,fx]
     unfold cO at h
     refine R8 hb ?_
     refine rr ?_
     exact fus (.bool true) (.same _) h hsc
  ·refine cd h (fun hc h=>?_) fun hc h=>?_
   ·obtain⟨fx,h⟩:=ck fx h
    refine r0 ?_
    refine hj0 () _ _ _ h ?_;exact(bu hsc)
   ·obtain⟨fx,h⟩:=ck fx h
    refine r0 ?_
    refine hj0 () _ _ _ h ?_;exact(bu hsc)
theorem lB(n:Nat)(a0:(List w7))(a1:(List w7))(a2:B5)(r:w7×Bool)(h:eK n a0 a1 a2=some r):Pure Tryz.prog gl 33 [.sl false 2 16 (rows w7.cells a0),.sl false 2 16 (rows w7.cells a1),.agg [.int .i64 a2.rule,.int .i64 a2.lex,.sl false 3 40 (rows B5.cells a2.kids)]] (.tup [.agg [.int .i64 r.1.num,.int .i64 r.1.den],.bool r.2]):=by
 intro st
 unfold eK at h
 have fx:=trivial
 refine fb 18 [.cell 6 45,.tmp 7] [0,1,2,3,4,5,6,7,8,9,15] Tryz.func33 fun hsc=>?_
 refine rn ?_
 obtain⟨v1,hv1,h⟩:=E7 h
 refine(mo n _ _ _ _ _ _ hv1 _ _ _ _ _ (by simp) (U5.trans rfl) (qS.trans rfl) (U5.trans rfl) (U5.trans rfl)).mono ?_
 rintro d1 st1 ⟨rfl,rfl⟩
 refine cd h (fun hc h=>?_) fun hc h=>?_
 ·exact rt
 ·exact rt
theorem mX(n:Nat)(a0:y7)(a1:C4)(a2:B5)(r:w7×w5)(h:fS n a0 a1 a2=some r):Pure Tryz.prog gl 11 [.agg [.sl false 2 40 (rows x5.cells a0.hierarchy.types),.sl false 3 32 (rows A0.cells a0.hierarchy.C2),.sl false 10 152 (rows w8.cells a0.rules),.sl false 9 144 (rows D0.cells a0.B3),.sl false 2 32 (rows y4.cells a0.start.nodes)],.agg [.sl false 1 8 (rows E1 a1.rules),.sl false 1 8 (rows E1 a1.B3)],.agg [.int .i64 a2.rule,.int .i64 a2.lex,.sl false 3 40 (rows B5.cells a2.kids)]] (.tup [.agg [.int .i64 r.1.num,.int .i64 r.1.den],.agg [.int .i64 r.2.code,.int .i64 r.2.index]]):=by
 intro st
 unfold fS at h
 have fx:=trivial
 refine fb 49 [.cell 6 45,.cell 7 39] [0,1,2,3,4,5,6,7,8,9,10,11,12,13,19,27,44] Tryz.func11 fun hsc=>?_
 refine cl h (oq n _ _) fun v1 h=>?_
 refine cd h (fun hc h=>?_) fun hc h=>?_
 ·refine rs ?_
  refine dw [1,2] 0 ?_
  try refine⟨by(simp<;>omega),?_⟩
  exact rt
 ·refine cl h (oo n _ _) fun v2 h=>?_
  refine cd h (fun hc h=>?_) fun hc h=>?_
  ·refine rs ?_
   refine dw [1,2] 0 ?_
   try refine⟨by(simp<;>omega),?_⟩
   exact rt
  ·refine cl h (lA n _ _) fun v3 h=>?_
   refine cl h (lB n _ _ _) fun v4 h=>?_
   refine cd h (fun hc h=>?_) fun hc h=>?_
   ·refine cl h (cJ _ _) fun v5 h=>?_
    exact rt
   ·exact rt
theorem gE(n:Nat)(r:Bool)(h:M7 n=some r):Pure Tryz.prog gl 4 [] (.bool r):=by
 intro st
 unfold M7 at h
 have fx:=trivial
 refine fb 71 [.tmp 0] [0,1,2,3,4,5,24,25,26,27,30,31,32,33,36,37,38,39,40,43,44,45,46,47,50,51,52,53,54,55,67,68,69] Tryz.func4 fun hsc=>?_
 refine cl h (jG n) fun v1 h=>?_
 refine r0 ?_
 (repeat apply sq_)
 refine R8 (F:=[(1,.ptr st.length 0 0 0),(2,.ptr (st.length+3) 0 0 0)]) (T:=st++[some (.arr 0 5 0 [[.sl false 2 40 (rows x5.cells v1.hierarchy.types),.sl false 3 32 (rows A0.cells v1.hierarchy.C2),.sl false 10 152 (rows w8.cells v1.rules),.sl false 9 144 (rows D0.cells v1.B3),.sl false 2 32 (rows y4.cells v1.start.nodes)]]),some (.arr 0 3 40 (rows B5.cells [(B5.mk (-1) 9 [])])),some (.arr 0 3 40 [[.int .i64 (-1),.int .i64 19,.D3],[.int .i64 2,.int .i64 0,.ref true (st.length+1) 0 0 1]]),some (.arr 0 3 0 [[.int .i64 0,.int .i64 0,.ref true (st.length+2) 0 0 2]])]) (yu hsc (.lv (.live _ _ _ _ (.arr _ _ _ _ _ (.cons _ _ _ _ (.cons _ _ _ _ .s (.cons _ _ _ _ .s (.cons _ _ _ _ (.D3 _ _ _ (by decide)) .nil))) .nil)) (.lv (.lv (.nil _))))) (by simp) ⟨.s,.s,trivial⟩ (by simp)) ?_
 (repeat apply sq_)
 refine R8 (F:=[(1,.ptr st.length 0 0 0),(2,.ptr (st.length+3) 0 0 0)]) (T:=st++[some (.arr 0 5 0 [[.sl false 2 40 (rows x5.cells v1.hierarchy.types),.sl false 3 32 (rows A0.cells v1.hierarchy.C2),.sl false 10 152 (rows w8.cells v1.rules),.sl false 9 144 (rows D0.cells v1.B3),.sl false 2 32 (rows y4.cells v1.start.nodes)]]),none,some (.arr 0 3 40 (rows B5.cells [(B5.mk (-1) 19 []),(B5.mk 2 0 [(B5.mk (-1) 9 [])])])),some (.arr 0 3 0 [[.int .i64 0,.int .i64 0,.ref true (st.length+2) 0 0 2]])]) (yu hsc (.lv (.dead _ _ _ (.live _ _ _ _ (.arr _ _ _ _ _ (.cons _ _ _ _ (.cons _ _ _ _ .s (.cons _ _ _ _ .s (.cons _ _ _ _ (.D3 _ _ _ (by decide)) .nil))) (.cons _ _ _ _ (.cons _ _ _ _ .s (.cons _ _ _ _ .s (.cons _ _ _ _ (.ref _ _ _ _ _ _ _ _ _ (nK.trans rfl) (U5.trans rfl) (by decide) (sD _) (by first|(simp only[go_sem];done)|simp only[go_sem,B5.eY])) .nil))) .nil))) (.lv (.nil _))))) (by simp) ⟨.s,.s,trivial⟩ (by simp)) ?_
 (repeat apply sq_)
 refine R8 (F:=[(1,.ptr st.length 0 0 0),(2,.ptr (st.length+3) 0 0 0)]) (T:=st++[some (.arr 0 5 0 [[.sl false 2 40 (rows x5.cells v1.hierarchy.types),.sl false 3 32 (rows A0.cells v1.hierarchy.C2),.sl false 10 152 (rows w8.cells v1.rules),.sl false 9 144 (rows D0.cells v1.B3),.sl false 2 32 (rows y4.cells v1.start.nodes)]]),none,none,some (.arr 0 3 0 [[.int .i64 0,.int .i64 0,.sl false 3 40 (rows B5.cells [(B5.mk (-1) 19 []),(B5.mk 2 0 [(B5.mk (-1) 9 [])])])]])]) (yu hsc (.lv (.dead _ _ _ (.dead _ _ _ (.live _ _ _ _ (.arr _ _ _ _ _ (.cons _ _ _ _ (.cons _ _ _ _ .s (.cons _ _ _ _ .s (.cons _ _ _ _ (.ref _ _ _ _ _ _ _ _ _ (nK.trans rfl) (U5.trans rfl) (by decide) (sD _) (by first|(simp only[go_sem];done)|simp only[go_sem,B5.eY])) .nil))) (.same _))) (.nil _))))) (by simp) ⟨.s,.s,trivial⟩ (by simp)) ?_
 refine rn ?_
 obtain⟨v5,hv5,h⟩:=E7 h
 refine(vu n _ _ _ hv5 _ _ 0 (by simp) (U5.trans rfl)).mono ?_
 rintro d1 st1 ⟨rfl,rfl⟩
 obtain⟨fx,h⟩:=ck fx h
 obtain⟨fx,h⟩:=ck fx h
 obtain⟨fx,h⟩:=ck fx h
 refine cd h (fun hc h=>?_) fun hc h=>?_
 ·exact rt
 ·refine cl h (mX n _ _ _) fun v12 h=>?_
  exact rt
theorem pD(n:Nat)(a0:y7)(a1:C4)(r:(List w7)×(List w7)×w5)(h:cV n a0 a1=some r):Pure Tryz.prog gl 5 [.agg [.sl false 2 40 (rows x5.cells a0.hierarchy.types),.sl false 3 32 (rows A0.cells a0.hierarchy.C2),.sl false 10 152 (rows w8.cells a0.rules),.sl false 9 144 (rows D0.cells a0.B3),.sl false 2 32 (rows y4.cells a0.start.nodes)],.agg [.sl false 1 8 (rows E1 a1.rules),.sl false 1 8 (rows E1 a1.B3)]] (.tup [.sl false 2 16 (rows w7.cells r.1),.sl false 2 16 (rows w7.cells r.2.1),.agg [.int .i64 r.2.2.code,.int .i64 r.2.2.index]]):=by
 intro st
 unfold cV at h
 have fx:=trivial
 refine fb 26 [.tmp 4,.tmp 5,.cell 6 39] [0,1,2,3,4,5,6,7,8,9,15] Tryz.func5 fun hsc=>?_
 refine cl h (oq n _ _) fun v1 h=>?_
 refine cd h (fun hc h=>?_) fun hc h=>?_
 ·refine rs ?_
  refine dw [] 0 ?_
  refine rr ?_
  exact fo (.tup [.sl false 2 16 (rows w7.cells []),.sl false 2 16 (rows w7.cells []),.agg [.int .i64 v1.code,.int .i64 v1.index]]) (.tup _ _ (.cons _ _ _ _ (.D3 _ _ _ (by decide)) (.cons _ _ _ _ (.D3 _ _ _ (by decide)) (.cons _ _ _ _ .s .nil))) rfl) h hsc
 ·refine cl h (lA n _ _) fun v2 h=>?_
  exact rt
theorem bw(a0:Bs)(r:Bool)(h:N8 a0=some r):Pure Tryz.prog gl 38 [.str a0] (.bool r):=by
 intro st
 unfold N8 at h
 have fx:=trivial
 refine fb 54 [.tmp 2] [0,2,3,4,5,6,11,12,13,14,16,17,18,19,26,27,32,33,36,37,40,41,46,47,48,49,50,51,52] Tryz.func38 fun hsc=>?_
 refine cd h (fun hc h=>?_) fun hc h=>?_
 ·exact rt
 ·obtain⟨fx,h⟩:=ck fx h
  refine aln 16 fun hl0=>?_
  refine rng (body:=X1 a0) (kk:=X2) (n:=(bytesOf a0).length) (s0:=())
   (fun(gs0:Unit) (k0:Nat) (s0:Unit)=>[(16,.sl false 1 1 (rows u8c (bytesOf a0))),(17,.int .i64 (↑((bytesOf a0).length):Int)),(18,.int .i64 (↑k0:Int))])
   (fun(gs0:Unit) (k0:Nat) (s0:Unit)=>st)
   (fun(gt0:Unit) (t0:Unit)=>[])
   (fun(gt0:Unit) (t0:Unit)=>st)
   () fx hl0 h (cT hsc)
   (fun gs0 k0 s0 b0 fx h hx0=>?_) (fun gs0 s0=>?_) (fun gt0 t0 fr1 st1 h hb=>?_)
  ·unfold X1 at h
   refine ct ?_
   refine cd h (fun hc h=>?_) fun hc h=>?_
   ·refine ra ?_
    cases h
    refine D4 ?_;have h:=congrArg some (hx0 _ rfl)
    exact rt
   ·refine rn ?_
    cases h
    exact dc () (cT hsc)
  ·refine cf ?_
   refine cP ?_;simp only[go_sem,fx]
   exact⟨(),(cT hsc)⟩
  ·try simp only[go_sem,fx]
   unfold X2 at h
   refine R8 hb ?_
   exact rt
theorem gF(a0:(List x5))(r:w5)(h:F8 a0=some r):Pure Tryz.prog gl 64 [.sl false 2 40 (rows x5.cells a0)] (.agg [.int .i64 r.code,.int .i64 r.index]):=by
 intro st
 unfold F8 at h
 have fx:=trivial
 refine fb 90 [.cell 2 39] [0,2,3,4,6,7,8,13,14,15,16,18,19,20,21,28,33,34,35,36,43,53,57,58,59,60,67,68,69,70,76,77,78,79,80,81,82,83,84] Tryz.func64 fun hsc=>?_
 refine cd h (fun hc h=>?_) fun hc h=>?_
 ·exact rt
 ·refine aln 0 fun hl0=>?_
  refine rng (body:=O5 a0) (kk:=V5) (n:=a0.length) (s0:=())
   (fun(gs0:Unit) (k0:Nat) (s0:Unit)=>[(0,.sl false 2 40 (rows x5.cells a0)),(2,.ptr st.length 0 0 0),(18,.sl false 2 40 (rows x5.cells a0)),(19,.int .i64 (↑a0.length:Int)),(20,.int .i64 (↑k0:Int))])
   (fun(gs0:Unit) (k0:Nat) (s0:Unit)=>st++[some (.arr 0 2 0 [[.int .i64 0,.int .i64 0]])])
   (fun(gt0:Unit) (t0:Unit)=>[(2,.ptr st.length 0 0 0)])
   (fun(gt0:Unit) (t0:Unit)=>st++[some (.arr 0 2 0 [[.int .i64 0,.int .i64 0]])])
   () fx hl0 h (bm hsc)
   (fun gs0 k0 s0 b0 fx h hx0=>?_) (fun gs0 s0=>?_) (fun gt0 t0 fr1 st1 h hb=>?_)
  ·unfold O5 at h
   refine ct ?_
   refine cl h (bw _) fun v10 h=>?_
   refine cd h (fun hc h=>?_) fun hc h=>?_
   ·refine ra ?_
    cases h
    refine D4 ?_;have h:=congrArg some (hx0 _ rfl)
    exact rt
   ·obtain⟨fx,h⟩:=ck fx h
    refine aln 33 fun hl3=>?_
    refine rng (body:=J4 a0 k0) (kk:=O6 k0 a0) (n:=(a0.take k0).length) (s0:=())
     (fun(gs3:Unit) (k3:Nat) (s3:Unit)=>[(0,.sl false 2 40 (rows x5.cells a0)),(2,.ptr st.length 0 0 0),(3,.int .i64 (↑k0:Int)),(4,.ptr (st.length+1) 0 0 0),(18,.sl false 2 40 (rows x5.cells a0)),(19,.int .i64 (↑a0.length:Int)),(20,.int .i64 (↑k0:Int)),(33,.sl false 2 40 (rows x5.cells (a0.take k0))),(34,.int .i64 (↑((a0.take k0).length):Int)),(35,.int .i64 (↑k3:Int))])
     (fun(gs3:Unit) (k3:Nat) (s3:Unit)=>st++[some (.arr 0 2 0 [[.int .i64 0,.int .i64 0]]),some (.arr 0 2 0 [[.str ((get a0 k0).name),.sl false 1 8 (rows E1 ((get a0 k0).parents))]])])
     (fun(gt3:Unit) (t3:Unit)=>[(0,.sl false 2 40 (rows x5.cells a0)),(2,.ptr st.length 0 0 0),(3,.int .i64 (↑k0:Int)),(4,.ptr (st.length+1) 0 0 0),(18,.sl false 2 40 (rows x5.cells a0)),(19,.int .i64 (↑a0.length:Int)),(20,.int .i64 (↑k0:Int))])
     (fun(gt3:Unit) (t3:Unit)=>st++[some (.arr 0 2 0 [[.int .i64 0,.int .i64 0]]),some (.arr 0 2 0 [[.str ((get a0 k0).name),.sl false 1 8 (rows E1 ((get a0 k0).parents))]])])
     () fx hl3 h (bm hsc)
     (fun gs3 k3 s3 b3 fx h hx3=>?_) (fun gs3 s3=>?_) (fun gt3 t3 fr1 st1 h hb=>?_)
    ·unfold J4 at h
     refine ct ?_
     refine cd h (fun hc h=>?_) fun hc h=>?_
     ·refine ra ?_
      cases h
      refine D4 ?_;obtain rfl:=hx3 _ rfl;try simp only[go_sem,fx]
      refine D4 ?_;have h:=congrArg some (hx0 _ rfl)
      exact rt
     ·refine rn ?_
      cases h
      exact dc () (bm hsc)
    ·refine cf ?_
     refine cP ?_;simp only[go_sem,fx]
     exact⟨(),(bm hsc)⟩
    ·try simp only[go_sem,fx]
     unfold O6 at h
     refine R8 hb ?_
     refine cd h (fun hc h=>?_) fun hc h=>?_
     ·refine ra ?_
      cases h
      refine D4 ?_;have h:=congrArg some (hx0 _ rfl)
      exact rt
     ·refine aln 57 fun hl4=>?_
      refine rng (body:=O7 a0 k0) (kk:=O8) (n:=((get a0 k0).parents).length) (s0:=())
       (fun(gs4:Unit) (k4:Nat) (s4:Unit)=>[(0,.sl false 2 40 (rows x5.cells a0)),(2,.ptr st.length 0 0 0),(3,.int .i64 (↑k0:Int)),(4,.ptr (st.length+1) 0 0 0),(18,.sl false 2 40 (rows x5.cells a0)),(19,.int .i64 (↑a0.length:Int)),(20,.int .i64 (↑k0:Int)),(57,.sl false 1 8 (rows E1 ((get a0 k0).parents))),(58,.int .i64 (↑(((get a0 k0).parents).length):Int)),(59,.int .i64 (↑k4:Int))])
       (fun(gs4:Unit) (k4:Nat) (s4:Unit)=>st++[some (.arr 0 2 0 [[.int .i64 0,.int .i64 0]]),some (.arr 0 2 0 [[.str ((get a0 k0).name),.sl false 1 8 (rows E1 ((get a0 k0).parents))]])])
       (fun(gt4:Unit) (t4:Unit)=>[(0,.sl false 2 40 (rows x5.cells a0)),(2,.ptr st.length 0 0 0),(18,.sl false 2 40 (rows x5.cells a0)),(19,.int .i64 (↑a0.length:Int)),(20,.int .i64 (↑k0:Int))])
       (fun(gt4:Unit) (t4:Unit)=>st++[some (.arr 0 2 0 [[.int .i64 0,.int .i64 0]])])
       () fx hl4 h (bm hsc)
       (fun gs4 k4 s4 b4 fx h hx4=>?_) (fun gs4 s4=>?_) (fun gt4 t4 fr1 st1 h hb=>?_)
      ·unfold O7 at h
       refine ct ?_
       refine cd h (fun hc h=>?_) fun hc h=>?_
       ·refine ra ?_
        cases h
        refine D4 ?_;obtain rfl:=hx4 _ rfl;try simp only[go_sem,fx]
        refine D4 ?_;have h:=congrArg some (hx0 _ rfl)
        exact rt
       ·obtain⟨fx,h⟩:=ck fx h
        refine cd h (fun hc h=>?_) fun hc h=>?_
        ·refine ra ?_
         cases h
         refine D4 ?_;obtain rfl:=hx4 _ rfl;try simp only[go_sem,fx]
         refine D4 ?_;have h:=congrArg some (hx0 _ rfl)
         exact rt
        ·refine rn ?_
         cases h
         exact dc () (bm hsc)
      ·refine cf ?_
       refine cP ?_;simp only[go_sem,fx]
       exact⟨(),(bm hsc)⟩
      ·try simp only[go_sem,fx]
       unfold O8 at h
       refine R8 hb ?_
       refine rn ?_
       cases h
       exact dc () (bm hsc)
  ·refine cf ?_
   refine cP ?_;simp only[go_sem,fx]
   exact⟨(),(bm hsc)⟩
  ·try simp only[go_sem,fx]
   unfold V5 at h
   refine R8 hb ?_
   exact rt
theorem kl(n:Nat)(a0:(List x5))(r:Int)(h:U6 n a0=some r):Pure Tryz.prog gl 65 [.sl false 2 40 (rows x5.cells a0)] (.int .i64 r):=by
 intro st
 unfold U6 at h
 have fx:=trivial
 refine fb 83 [.tmp 2] [0,2,3,4,5,6,7,8,9,10,15,16,17,24,25,26,40,41,42,44,45,46,48,49,50,60,61,62,63,64,65,66,67,69,78] Tryz.func65 fun hsc=>?_
 obtain⟨v1,hv1,h⟩:=E7 h
 unfold nS at hv1
 obtain⟨ha,hv1⟩:=Gp hv1
 obtain⟨hsub,hv1⟩:=Gp hv1
 have hv1:=Option.some.inj hv1
 have hl:a0.length≤9223372036854775807:=by unfold top at ha;omega
 have ha2:a0.length≤top:=by omega
 obtain⟨sb,hsb⟩:∃f:Nat→Nat→Bool,f=fun(i j:Nat)=>(D7 n a0 (i:Int) (j:Int)).getD false:=⟨_,rfl⟩
 rw[←hsb]at hv1
 have jO:∀i j:Nat,i<a0.length→j<a0.length→D7 n a0 (i:Int) (j:Int)=some (sb i j):=fun i j hi hj=>by
  obtain⟨w,hw⟩:=Option.isSome_iff_exists.1 (List.all_eq_true.1 (List.all_eq_true.1 hsub i (List.mem_range.2 hi)) j (List.mem_range.2 hj))
  rw[hsb]
  show D7 n a0 (i:Int) (j:Int)=some ((D7 n a0 (i:Int) (j:Int)).getD false)
  rw[hw];rfl
 have fx:=fa ha ha2
 refine rn ?_
 have e0:List.replicate a0.length [D.D3]=mG st.length a0.length a0.length 0:=Cr.symm
 simp only[e0]
 refine arg_ (ρ:=Unit) (body:=fun _ (s:Unit)=>some (.nxt s)) (kk:=fun s=>some s) (n:=a0.length) (s0:=()) (e:=())
  (fun(_:Unit) (k0:Nat) (_:Unit)=>[(0,.sl false 2 40 (rows x5.cells a0)),(3,.int .i64 (↑a0.length:Int)),(4,.ref true st.length 0 0 a0.length),(15,.int .i64 (↑a0.length:Int)),(16,.int .i64 (↑k0:Int))])
  (fun(_:Unit) (k0:Nat) (_:Unit)=>st++(some (.arr 0 1 24 (mG st.length a0.length a0.length k0))::(tf k0 a0.length (pfl sb k0 0)).map (ine F3 1)))
  (fun(_:Unit) (_:Unit)=>[(0,.sl false 2 40 (rows x5.cells a0)),(3,.int .i64 (↑a0.length:Int)),(4,.ref true st.length 0 0 a0.length)])
  (fun(_:Unit) (_:Unit)=>st++(some (.arr 0 1 24 (mG st.length a0.length a0.length a0.length))::(tf a0.length a0.length (pfl sb a0.length 0)).map (ine F3 1)))
  () (wj _ _) (tK hsc (by simp[tf]) ⟨.s,.s,.s,.s,.s,trivial⟩ (by simp))
  (fun _ k0 _ b0 hk0 hb0 _=>?_) (fun _ _=>?_) (fun _ _ fr1 st1 _ hb=>?_)
 ·cases hb0
  have hw0:wr .i64 ((↑k0:Int)+1)=(↑(k0+1):Int):=Ej hk0 hl
  have eo1:(mG st.length a0.length a0.length k0).length=a0.length:=lM (by omega)
  have eo2:(mG st.length a0.length a0.length k0).set k0 [.ref true (st.length+(k0+1)) 0 0 a0.length]=mG st.length a0.length a0.length (k0+1):=Ep hk0
  have eo3:(mG st.length a0.length a0.length k0).getD k0 []=[.D3]:=Er (Nat.le_refl _) hk0
  have ez:List.replicate a0.length [D.bool false]=rows F3 (rf a0.length fun _=>default):=by rw[←Jk];simp[rows,F3]
  have fx:=fa fx hw0
  refine ct ?_
  refine r0 ?_
  refine r0 ?_
  refine r0 ?_
  (repeat apply sq_);apply er_;simp only[go_sem,fx,List.length_map,zI,eo1,eo2,eo3,hk0,Nat.zero_add,ez,Gx,GC]
  refine⟨by omega,?_⟩
  refine rn ?_
  refine arg_ (ρ:=Unit) (body:=fun _ (s:Unit)=>some (.nxt s)) (kk:=fun s=>some s) (n:=a0.length) (s0:=()) (e:=())
   (fun(_:Unit) (k1:Nat) (_:Unit)=>[(0,.sl false 2 40 (rows x5.cells a0)),(3,.int .i64 (↑a0.length:Int)),(4,.ref true st.length 0 0 a0.length),(5,.int .i64 (↑k0:Int)),(15,.int .i64 (↑a0.length:Int)),(16,.int .i64 (↑k0:Int)),(24,.int .i64 (↑a0.length:Int)),(25,.int .i64 (↑k1:Int))])
   (fun(_:Unit) (k1:Nat) (_:Unit)=>st++(some (.arr 0 1 24 (mG st.length a0.length a0.length (k0+1)))::(tf (k0+1) a0.length (pfl sb k0 k1)).map (ine F3 1)))
   (fun(_:Unit) (_:Unit)=>[(0,.sl false 2 40 (rows x5.cells a0)),(3,.int .i64 (↑a0.length:Int)),(4,.ref true st.length 0 0 a0.length),(15,.int .i64 (↑a0.length:Int)),(16,.int .i64 (↑k0:Int))])
   (fun(_:Unit) (_:Unit)=>st++(some (.arr 0 1 24 (mG st.length a0.length a0.length (k0+1)))::(tf (k0+1) a0.length (pfl sb k0 a0.length)).map (ine F3 1)))
   () (wj _ _) ?_
   (fun _ k1 _ b1 hk1 hb1 _=>?_) (fun _ _=>?_) (fun _ _ fr2 st2 _ hb2=>?_)
  ·exact tK hsc (by simp[tf]) ⟨.s,.s,.s,.s,.s,.s,.s,.s,trivial⟩ (by simp)
  ·cases hb1
   have hw1:wr .i64 ((↑k1:Int)+1)=(↑(k1+1):Int):=Ej hk1 hl
   have g1:(mG st.length a0.length a0.length (k0+1)).getD k0 []=[.ref true (st.length+(k0+1)) 0 0 a0.length]:=zH (by omega)
   have g2:(mG st.length a0.length a0.length (k0+1)).length=a0.length:=lM (by omega)
   have l1:Am.look ((tf (k0+1) a0.length (pfl sb k0 k1)).map (ine F3 1)) k0=some (.arr 0 1 1 (rows F3 (rf a0.length (pfl sb k0 k1 k0)))):=Et (by omega)
   have s1:∀v,((tf (k0+1) a0.length (pfl sb k0 k1)).map (ine F3 1)).set k0 (some (.arr 0 1 1 ((rows F3 (rf a0.length (pfl sb k0 k1 k0))).set k1 [.bool v])))=(tf (k0+1) a0.length (Gy (pfl sb k0 k1) k0 k1 v)).map (ine F3 1):=fun v=>by
    rw[←GA];simp[rows,F3]
   have g3:(rows F3 (rf a0.length (pfl sb k0 k1 k0))).length=a0.length:=by simp[rows,rf]
   have g4:(rows F3 (rf a0.length (pfl sb k0 k1 k0))).getD k1 []=[.bool (pfl sb k0 k1 k0 k1)]:=by rw[jk (by rw[Cv];exact hk1),zJ hk1];rfl
   have fx:=fa fx hw1
   refine ct ?_
   refine r0 ?_
   refine r0 ?_
   refine r0 ?_
   (repeat apply sq_);refine Lf [2,3,8] 0 follows (by kernel_rfl) (by rfl) ?_;simp only[go_sem,List.replicate_zero,fx,hk0,hk1,g1,g2,l1,g3,g4,Nat.zero_add]
   refine y9 (bW n _ _ _ _ (jO k0 k1 hk0 hk1)) ?_
   simp only[go_sem,fx,hk0,hk1,g1,g2,l1,g3,g4,Nat.zero_add,s1,GD]
   try refine⟨by(simp<;>omega),?_⟩
   refine rn ?_
   exact dc () (tK hsc (by simp[tf]) ⟨.s,.s,.s,.s,.s,.s,.s,.s,trivial⟩ (by simp))
  ·refine cf ?_
   refine cP ?_;simp only[go_sem,fx]
   exact⟨(),tK hsc (by simp[tf]) ⟨.s,.s,.s,.s,.s,trivial⟩ (by simp)⟩
  ·try simp only[go_sem,fx]
   refine R8 hb2 ?_
   simp only[Eu]
   refine rn ?_
   exact dc () (tK hsc (by simp[tf]) ⟨.s,.s,.s,.s,.s,trivial⟩ (by simp))
 ·refine cf ?_
  refine cP ?_;simp only[go_sem,fx]
  exact⟨(),tK hsc (by simp[tf]) ⟨.s,.s,.s,trivial⟩ (by simp)⟩
 try simp only[go_sem,fx]
 refine R8 hb ?_
 simp only[GF]
 refine R8 (Cu (F:=[(0,.sl false 2 40 (rows x5.cells a0)),(3,.int .i64 (↑a0.length:Int)),(4,.sl false 1 24 (rows (slc 1 1 F3) (tf a0.length a0.length sb)))]) (by decide) hsc Gz zI (fun _ _=>⟨.s,.s,.s,trivial⟩) (fun _ _ u=>⟨.s,.s,u,trivial⟩) (by simp) (by simp)) ?_
 rw[hv1]
 obtain⟨fx,h⟩:=ck fx h
 refine rn ?_
 refine rng (body:=U8 a0 v1) (kk:=V3) (n:=a0.length) (s0:=())
  (fun(gs0:Unit) (k0:Nat) (s0:Unit)=>[(3,.int .i64 (↑a0.length:Int)),(4,.sl false 1 24 (rows (slc 1 1 F3) v1)),(40,.int .i64 (↑a0.length:Int)),(41,.int .i64 (↑k0:Int))])
  (fun(gs0:Unit) (k0:Nat) (s0:Unit)=>st)
  (fun(gt0:Unit) (t0:Unit)=>[])
  (fun(gt0:Unit) (t0:Unit)=>st)
  () fx fx.2 h (cT hsc)
  (fun gs0 k0 s0 b0 fx h hx0=>?_) (fun gs0 s0=>?_) (fun gt0 t0 fr1 st1 h hb=>?_)
 ·unfold U8 at h
  refine ct ?_
  obtain⟨fx,h⟩:=ck fx h
  refine rn ?_
  refine rng (body:=U9 a0 v1 k0) (kk:=V2) (n:=k0) (s0:=())
   (fun(gs4:Unit) (k4:Nat) (s4:Unit)=>[(3,.int .i64 (↑a0.length:Int)),(4,.sl false 1 24 (rows (slc 1 1 F3) v1)),(7,.int .i64 (↑k0:Int)),(40,.int .i64 (↑a0.length:Int)),(41,.int .i64 (↑k0:Int)),(44,.int .i64 (↑k0:Int)),(45,.int .i64 (↑k4:Int))])
   (fun(gs4:Unit) (k4:Nat) (s4:Unit)=>st)
   (fun(gt4:Unit) (t4:Unit)=>[(3,.int .i64 (↑a0.length:Int)),(4,.sl false 1 24 (rows (slc 1 1 F3) v1)),(40,.int .i64 (↑a0.length:Int)),(41,.int .i64 (↑k0:Int))])
   (fun(gt4:Unit) (t4:Unit)=>st)
   () fx fx.2 h (cT hsc)
   (fun gs4 k4 s4 b4 fx h hx4=>?_) (fun gs4 s4=>?_) (fun gt4 t4 fr1 st1 h hb=>?_)
  ·unfold U9 at h
   refine ct ?_
   obtain⟨fx,h⟩:=ck fx h
   refine rn ?_
   refine rng (body:=V0 v1 k4 k0) (kk:=V1) (n:=a0.length) (s0:= -1)
    (fun(gs5:Unit) (k5:Nat) (s5:Int)=>[(3,.int .i64 (↑a0.length:Int)),(4,.sl false 1 24 (rows (slc 1 1 F3) v1)),(7,.int .i64 (↑k0:Int)),(8,.int .i64 (↑k4:Int)),(9,.int .i64 s5),(40,.int .i64 (↑a0.length:Int)),(41,.int .i64 (↑k0:Int)),(44,.int .i64 (↑k0:Int)),(45,.int .i64 (↑k4:Int)),(48,.int .i64 (↑a0.length:Int)),(49,.int .i64 (↑k5:Int))])
    (fun(gs5:Unit) (k5:Nat) (s5:Int)=>st)
    (fun(gt5:Unit) (t5:Int)=>[(3,.int .i64 (↑a0.length:Int)),(4,.sl false 1 24 (rows (slc 1 1 F3) v1)),(7,.int .i64 (↑k0:Int)),(40,.int .i64 (↑a0.length:Int)),(41,.int .i64 (↑k0:Int)),(44,.int .i64 (↑k0:Int)),(45,.int .i64 (↑k4:Int))])
    (fun(gt5:Unit) (t5:Int)=>st)
    () fx fx.2 h (cT hsc)
    (fun gs5 k5 s5 b5 fx h hx5=>?_) (fun gs5 s5=>?_) (fun gt5 t5 fr1 st1 h hb=>?_)
   ·unfold V0 at h
    refine ct ?_
    obtain⟨fx,h⟩:=ck fx h
    obtain⟨fx,h⟩:=ck fx h
    obtain⟨fx,h⟩:=ck fx h
    refine cd h (fun hc h=>?_) fun hc h=>?_
    ·refine cd h (fun hc h=>?_) fun hc h=>?_
     ·refine rn ?_
      cases h
      exact dc () (cT hsc)
     ·obtain⟨fx,h⟩:=ck fx h
      refine cd h (fun hc h=>?_) fun hc h=>?_
      ·refine ra ?_
       cases h
       refine D4 ?_;obtain rfl:=hx5 _ rfl;try simp only[go_sem,fx]
       refine D4 ?_;obtain rfl:=hx4 _ rfl;try simp only[go_sem,fx]
       refine D4 ?_;have h:=congrArg some (hx0 _ rfl)
       exact rt
      ·refine rn ?_
       cases h
       exact dc () (cT hsc)
    ·refine rn ?_
     cases h
     exact dc () (cT hsc)
   ·refine cf ?_
    refine cP ?_;simp only[go_sem,fx]
    exact⟨(),(cT hsc)⟩
   ·try simp only[go_sem,fx]
    unfold V1 at h
    refine R8 hb ?_
    refine rn ?_
    cases h
    exact dc () (cT hsc)
  ·refine cf ?_
   refine cP ?_;simp only[go_sem,fx]
   exact⟨(),(cT hsc)⟩
  ·try simp only[go_sem,fx]
   unfold V2 at h
   refine R8 hb ?_
   refine rn ?_
   cases h
   exact dc () (cT hsc)
 ·refine cf ?_
  refine cP ?_;simp only[go_sem,fx]
  exact⟨(),(cT hsc)⟩
 ·try simp only[go_sem,fx]
  unfold V3 at h
  refine R8 hb ?_
  exact rt
end Go.Proofs.YtoekkdodipnmpaaGreatDoor
