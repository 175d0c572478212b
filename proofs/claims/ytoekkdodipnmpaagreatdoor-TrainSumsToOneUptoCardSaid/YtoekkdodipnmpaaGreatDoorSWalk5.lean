import Derived.Test.YtoekkdodipnmpaaGreatDoorSWalk4
set_option linter.unusedVariables false
set_option linter.unusedSimpArgs false
set_option maxHeartbeats 2000000
set_option maxRecDepth 100000
namespace Go.Proofs.YtoekkdodipnmpaaGreatDoor
open Go Go.Am
theorem ly(n:Nat)(a0:Bs)(a1:Bs)(r:Bool)(h:T9 n a0 a1=some r):Pure Tryz.prog gl 97 [.str a0,.str a1] (.bool r):=by
 intro st
 unfold T9 at h
 have fx:=trivial
 refine fb 9 [.tmp 4] [0,1,4] Tryz.func97 fun hsc=>?_
 refine cl h (om n _ _) fun v1 h=>?_
 exact rt
theorem sY(n:Nat)(a0:Bs)(r:Bool)(h:gZ n a0=some r):Pure Tryz.prog gl 77 [.str a0] (.bool r):=by
 intro st
 unfold gZ at h
 have fx:=trivial
 refine fb 21 [.tmp 2] [0,2,3,9,10,13,14,17,18,19] Tryz.func77 fun hsc=>?_
 refine cl h (eX n _) fun v1 h=>?_
 refine rn ?_
 obtain⟨v2,hv2,h⟩:=E7 h
 refine iZ (fun hG=>(jj n _ _ (sM hv2 (by simpa using hG)))) ?_
 refine rn ?_
 obtain⟨v3,hv3,h⟩:=E7 h
 refine iZ (fun hG=>(ly n _ _ _ (sM hv3 (by simpa using hG)))) ?_
 exact rt
theorem sC(n:Nat)(a0:x7)(a1:A9)(a2:D0)(r:Int)(h:fI n a0 a1 a2=some r):Pure Tryz.prog gl 55 [.agg [.sl false 2 40 (rows x5.cells a0.types),.sl false 3 32 (rows A0.cells a0.C2)],.agg [.sl false 1 8 (rows Z2 a1.up),.sl false 1 8 (rows Z2 a1.down)],.agg [.str a2.word,.sl false 2 32 (rows y4.cells a2.graph.nodes),.int .i64 a2.weight,.int .i64 a2.meaning.kind,.str a2.meaning.name,.int .i64 a2.meaning.index,.str a2.meaning.type.base,.sl false 2 40 (rows u0.cells a2.meaning.type.args),.sl false 6 96 (rows w6.cells a2.meaning.args)]] (.int .i64 r):=by
 intro st
 unfold fI at h
 have fx:=trivial
 refine fb 34 [.tmp 6] [0,1,2,3,4,5,6,7,11,16,17,18,19,27] Tryz.func55 fun hsc=>?_
 refine cl h (sY n _) fun v1 h=>?_
 refine cd h (fun hc h=>?_) fun hc h=>?_
 ·exact rt
 ·refine cd h (fun hc h=>?_) fun hc h=>?_
  ·exact rt
  ·refine cl h (ji n _ _ _) fun v2 h=>?_
   refine cd h (fun hc h=>?_) fun hc h=>?_
   ·exact rt
   ·refine cl h (lx n _) fun v3 h=>?_
    exact rt
theorem iR(n:Nat)(a0:y7)(r:w5)(h:aE n a0=some r):Pure Tryz.prog gl 29 [.agg [.sl false 2 40 (rows x5.cells a0.hierarchy.types),.sl false 3 32 (rows A0.cells a0.hierarchy.C2),.sl false 10 152 (rows w8.cells a0.rules),.sl false 9 144 (rows D0.cells a0.B3),.sl false 2 32 (rows y4.cells a0.start.nodes)]] (.agg [.int .i64 r.code,.int .i64 r.index]):=by
 intro st
 unfold aE at h
 have fx:=trivial
 refine fb 112 [.cell 2 39] [0,1,2,3,4,5,6,7,8,10,11,12,13,14,15,22,27,34,35,36,37,38,45,46,47,48,55,65,77,83,84,85,86,95,107] Tryz.func29 fun hsc=>?_
 refine cl h (mj _) fun v1 h=>?_
 refine cd h (fun hc h=>?_) fun hc h=>?_
 ·exact rt
 ·refine cd h (fun hc h=>?_) fun hc h=>?_
  ·refine cl h (X0 _ _) fun v2 h=>?_
   exact rt
  ·refine cd h (fun hc h=>?_) fun hc h=>?_
   ·refine cl h (X0 _ _) fun v3 h=>?_
    exact rt
   ·refine cl h (iQ _) fun v4 h=>?_
    refine aln 45 fun hl0=>?_
    refine rng (body:=bJ n a0 v4) (kk:=bK n a0 v4) (n:=a0.rules.length) (s0:=[])
     (fun(gs0:Unit) (k0:Nat) (s0:(List (Bs×Int)))=>[(1,.ptr st.length 0 0 0),(2,.ptr (st.length+1) 0 0 0),(3,.ptr (st.length+2) 0 0 0),(5,.ptr (st.length+4) 0 0 0),(6,.mp (st.length+5)),(45,.sl false 10 152 (rows w8.cells a0.rules)),(46,.int .i64 (↑a0.rules.length:Int)),(47,.int .i64 (↑k0:Int))])
     (fun(gs0:Unit) (k0:Nat) (s0:(List (Bs×Int)))=>st++[some (.arr 0 5 0 [[.sl false 2 40 (rows x5.cells a0.hierarchy.types),.sl false 3 32 (rows A0.cells a0.hierarchy.C2),.sl false 10 152 (rows w8.cells a0.rules),.sl false 9 144 (rows D0.cells a0.B3),.sl false 2 32 (rows y4.cells a0.start.nodes)]]),some (.arr 0 2 0 [[.int .i64 0,.int .i64 0]]),some (.arr 0 2 0 [[.sl false 2 40 (rows x5.cells a0.hierarchy.types),.sl false 3 32 (rows A0.cells a0.hierarchy.C2)]]),none,some (.arr 0 2 0 [[.sl false 1 8 (rows Z2 v4.up),.sl false 1 8 (rows Z2 v4.down)]]),some (.mps false (mrw E1 s0))])
     (fun(gt0:Unit) (t0:(List (Bs×Int)))=>[(1,.ptr st.length 0 0 0),(2,.ptr (st.length+1) 0 0 0),(3,.ptr (st.length+2) 0 0 0),(5,.ptr (st.length+4) 0 0 0)])
     (fun(gt0:Unit) (t0:(List (Bs×Int)))=>st++[some (.arr 0 5 0 [[.sl false 2 40 (rows x5.cells a0.hierarchy.types),.sl false 3 32 (rows A0.cells a0.hierarchy.C2),.sl false 10 152 (rows w8.cells a0.rules),.sl false 9 144 (rows D0.cells a0.B3),.sl false 2 32 (rows y4.cells a0.start.nodes)]]),some (.arr 0 2 0 [[.int .i64 0,.int .i64 0]]),some (.arr 0 2 0 [[.sl false 2 40 (rows x5.cells a0.hierarchy.types),.sl false 3 32 (rows A0.cells a0.hierarchy.C2)]]),none,some (.arr 0 2 0 [[.sl false 1 8 (rows Z2 v4.up),.sl false 1 8 (rows Z2 v4.down)]])])
     () fx hl0 h (bm hsc)
     (fun gs0 k0 s0 b0 fx h hx0=>?_) (fun gs0 s0=>?_) (fun gt0 t0 fr1 st1 h hb=>?_)
    ·unfold bJ at h
     refine ct ?_
     refine cl h (kh _) fun v12 h=>?_
     refine cd h (fun hc h=>?_) fun hc h=>?_
     ·refine cl h (X0 _ _) fun v13 h=>?_
      refine ra ?_
      cases h
      refine D4 ?_;have h:=congrArg some (hx0 _ rfl)
      exact rt
     ·refine cd h (fun hc h=>?_) fun hc h=>?_
      ·refine cl h (X0 _ _) fun v14 h=>?_
       refine ra ?_
       cases h
       refine D4 ?_;have h:=congrArg some (hx0 _ rfl)
       exact rt
      ·refine r0 ?_
       obtain⟨c15,Mc,h⟩:=lK h
       have fy:=(show I7 ((get a0.rules k0).name) [.int .i64 (↑k0:Int)] (mrw E1 s0)=mrw E1 c15 from by rw[Mc];exact yt (E:=E1) _ _ _)
       refine r1 ?_
       refine cl h (sX n _ _ _) fun v17 h=>?_
       refine cd h (fun hc h=>?_) fun hc h=>?_
       ·refine cl h (X0 _ _) fun v18 h=>?_
        refine ra ?_
        cases h
        refine D4 ?_;have h:=congrArg some (hx0 _ rfl)
        exact rt
       ·refine rn ?_
        cases h
        exact dc () (bm hsc)
    ·refine cf ?_
     refine cP ?_;simp only[go_sem,fx]
     exact⟨(),(bm hsc)⟩
    ·try simp only[go_sem,fx]
     unfold bK at h
     refine R8 hb ?_
     refine aln 83 fun hl1=>?_
     refine rng (body:=bL n a0 v4) (kk:=bM n a0 v4) (n:=a0.B3.length) (s0:=())
      (fun(gs1:Unit) (k1:Nat) (s1:Unit)=>[(1,.ptr st.length 0 0 0),(2,.ptr (st.length+1) 0 0 0),(3,.ptr (st.length+2) 0 0 0),(5,.ptr (st.length+4) 0 0 0),(83,.sl false 9 144 (rows D0.cells a0.B3)),(84,.int .i64 (↑a0.B3.length:Int)),(85,.int .i64 (↑k1:Int))])
      (fun(gs1:Unit) (k1:Nat) (s1:Unit)=>st++[some (.arr 0 5 0 [[.sl false 2 40 (rows x5.cells a0.hierarchy.types),.sl false 3 32 (rows A0.cells a0.hierarchy.C2),.sl false 10 152 (rows w8.cells a0.rules),.sl false 9 144 (rows D0.cells a0.B3),.sl false 2 32 (rows y4.cells a0.start.nodes)]]),some (.arr 0 2 0 [[.int .i64 0,.int .i64 0]]),some (.arr 0 2 0 [[.sl false 2 40 (rows x5.cells a0.hierarchy.types),.sl false 3 32 (rows A0.cells a0.hierarchy.C2)]]),none,some (.arr 0 2 0 [[.sl false 1 8 (rows Z2 v4.up),.sl false 1 8 (rows Z2 v4.down)]])])
      (fun(gt1:Unit) (t1:Unit)=>[(1,.ptr st.length 0 0 0),(2,.ptr (st.length+1) 0 0 0),(3,.ptr (st.length+2) 0 0 0),(5,.ptr (st.length+4) 0 0 0)])
      (fun(gt1:Unit) (t1:Unit)=>st++[some (.arr 0 5 0 [[.sl false 2 40 (rows x5.cells a0.hierarchy.types),.sl false 3 32 (rows A0.cells a0.hierarchy.C2),.sl false 10 152 (rows w8.cells a0.rules),.sl false 9 144 (rows D0.cells a0.B3),.sl false 2 32 (rows y4.cells a0.start.nodes)]]),some (.arr 0 2 0 [[.int .i64 0,.int .i64 0]]),some (.arr 0 2 0 [[.sl false 2 40 (rows x5.cells a0.hierarchy.types),.sl false 3 32 (rows A0.cells a0.hierarchy.C2)]]),none,some (.arr 0 2 0 [[.sl false 1 8 (rows Z2 v4.up),.sl false 1 8 (rows Z2 v4.down)]])])
      () fx hl1 h (bm hsc)
      (fun gs1 k1 s1 b1 fx h hx1=>?_) (fun gs1 s1=>?_) (fun gt1 t1 fr1 st1 h hb=>?_)
     ·unfold bL at h
      refine ct ?_
      refine cl h (sC n _ _ _) fun v19 h=>?_
      refine cd h (fun hc h=>?_) fun hc h=>?_
      ·refine cl h (X0 _ _) fun v20 h=>?_
       refine ra ?_
       cases h
       refine D4 ?_;have h:=congrArg some (hx1 _ rfl)
       exact rt
      ·refine rn ?_
       cases h
       exact dc () (bm hsc)
     ·refine cf ?_
      refine cP ?_;simp only[go_sem,fx]
      exact⟨(),(bm hsc)⟩
     ·try simp only[go_sem,fx]
      unfold bM at h
      refine R8 hb ?_
      refine cl h (ji n _ _ _) fun v21 h=>?_
      refine cd h (fun hc h=>?_) fun hc h=>?_
      ·refine cl h (X0 _ _) fun v22 h=>?_
       exact rt
      ·exact rt
theorem cJ(a0:Int)(a1:Int)(r:w5)(h:bh a0 a1=some r):Pure Tryz.prog gl 30 [.int .i64 a0,.int .i64 a1] (.agg [.int .i64 r.code,.int .i64 r.index]):=by
 intro st
 unfold bh at h
 have fx:=trivial
 refine fb 8 [.cell 4 39] [0,1,4] Tryz.func30 fun hsc=>?_
 exact rt
theorem bk(a0:Int)(a1:Int)(r:w5)(h:bU a0 a1=some r):Pure Tryz.prog gl 58 [.int .i64 a0,.int .i64 a1] (.agg [.int .i64 r.code,.int .i64 r.index]):=by
 intro st
 unfold bU at h
 have fx:=trivial
 refine fb 8 [.cell 4 39] [0,1,4] Tryz.func58 fun hsc=>?_
 exact rt
theorem sZ:∀(n:Nat) (a0:B5) (a1:Int) (a2:Int) (S5:Int) (iB:(List x5)) (sk:(List A0)) (pQ:(List w8)) (ql:(List D0)) (su:(List y4)) (qm:Int) (r:w5×Int×Int) (h:bV n a0 a1 a2 S5 iB sk pQ ql su qm=some r),∀(st:St) (o0 o1 o2 o3:Nat) (hnd: [o0,o1,o2,o3].Nodup) (fY:Am.look st o0=some (.arr 0 1 0 [[.int .i64 S5]])) (ot:Am.look st o1=some (.arr 0 5 0 [[.sl false 2 40 (rows x5.cells iB),.sl false 3 32 (rows A0.cells sk),.sl false 10 152 (rows w8.cells pQ),.sl false 9 144 (rows D0.cells ql),.sl false 2 32 (rows y4.cells su)]])) (tX:Am.look st o2=some (.arr 0 1 0 [[.int .i64 qm]])) (Ds:Am.look st o3=some (.arr 0 1 0 [[.fn 57 [] [.ptr o0 0 0 0,.ptr o1 0 0 0,.ptr o2 0 0 0,.ptr o3 0 0 0]]])),Am.Spec Tryz.prog gl 57 [.agg [.int .i64 a0.rule,.int .i64 a0.lex,.sl false 3 40 (rows B5.cells a0.kids)],.int .i64 a1,.int .i64 a2,.ptr o0 0 0 0,.ptr o1 0 0 0,.ptr o2 0 0 0,.ptr o3 0 0 0] st (fun d st'=>d= .agg [.int .i64 r.1.code,.int .i64 r.1.index]∧st'=puts st [(o0,(.arr 0 1 0 [[.int .i64 r.2.1]])),(o1,(.arr 0 5 0 [[.sl false 2 40 (rows x5.cells iB),.sl false 3 32 (rows A0.cells sk),.sl false 10 152 (rows w8.cells pQ),.sl false 9 144 (rows D0.cells ql),.sl false 2 32 (rows y4.cells su)]])),(o2,(.arr 0 1 0 [[.int .i64 r.2.2]])),(o3,(.arr 0 1 0 [[.fn 57 [] [.ptr o0 0 0 0,.ptr o1 0 0 0,.ptr o2 0 0 0,.ptr o3 0 0 0]]]))]):=by
 intro n
 induction n with
 |zero=>intro a0 a1 a2 S5 iB sk pQ ql su qm r h;cases h
 |succ n ih=>
  intro a0 a1 a2 S5 iB sk pQ ql su qm r h st o0 o1 o2 o3 hnd fY ot tX Ds
  unfold bV at h
  have ho0:=S9 fY
  have ho1:=S9 ot
  have ho2:=S9 tX
  have ho3:=S9 Ds
  have fx:=fa (fa (fa (fa (idf ho0) (idf ho1)) (idf ho2)) (idf ho3)) (nd4 hnd)
  refine fb 118 [.cell 10 39] [0,1,2,3,4,5,6,7,10,11,12,14,15,21,25,26,30,35,36,37,38,39,40,43,44,45,46,47,48,49,50,51,52,53,54,55,56,57,58,62,67,68,69,73,88,94,96,100,101,102,103,114] Tryz.func57 fun hsc=>?_
  refine kS (s':=(U1 st [(o0,(.arr 0 1 0 [[.int .i64 S5]])),(o1,(.arr 0 5 0 [[.sl false 2 40 (rows x5.cells iB),.sl false 3 32 (rows A0.cells sk),.sl false 10 152 (rows w8.cells pQ),.sl false 9 144 (rows D0.cells ql),.sl false 2 32 (rows y4.cells su)]])),(o2,(.arr 0 1 0 [[.int .i64 qm]])),(o3,(.arr 0 1 0 [[.fn 57 [] [.ptr o0 0 0 0,.ptr o1 0 0 0,.ptr o2 0 0 0,.ptr o3 0 0 0]]]))])) (K5 (by simp[fY,ot,tX,Ds])) ?_
  refine cd h (fun hc h=>?_) fun hc h=>?_
  ·refine cl h (bk _ _) fun v1 h=>?_
   refine rr ?_
   exact fuo (.agg [.int .i64 v1.code,.int .i64 v1.index]) (.same _) h hsc
  ·refine cd h (fun hc h=>?_) fun hc h=>?_
   ·refine cl h (bk _ _) fun v2 h=>?_
    refine rr ?_
    exact fuo (.agg [.int .i64 v2.code,.int .i64 v2.index]) (.same _) h hsc
   ·refine cd h (fun hc h=>?_) fun hc h=>?_
    ·refine cl h (bk _ _) fun v3 h=>?_
     refine rr ?_
     exact fuo (.agg [.int .i64 v3.code,.int .i64 v3.index]) (.same _) h hsc
    ·refine rn ?_
     refine eP (fz (bV n) a0 S5 a1 iB sk pQ ql su a2) r (fun(gj0:Unit) (j0:Int×Int)=>[(1,.int .i64 a1),(2,.int .i64 a2),(6,.ptr o3 0 0 0),(7,.ptr st.length 0 0 0),(10,.ptr (st.length+1) 0 0 0),(11,.int .i64 S5),(12,.int .i64 j0.2)]) (fun(gj0:Unit) (j0:Int×Int)=>(U1 st [(o0,(.arr 0 1 0 [[.int .i64 (wr .i64 (S5+1))]])),(o1,(.arr 0 5 0 [[.sl false 2 40 (rows x5.cells iB),.sl false 3 32 (rows A0.cells sk),.sl false 10 152 (rows w8.cells pQ),.sl false 9 144 (rows D0.cells ql),.sl false 2 32 (rows y4.cells su)]])),(o2,(.arr 0 1 0 [[.int .i64 j0.1]])),(o3,(.arr 0 1 0 [[.fn 57 [] [.ptr o0 0 0 0,.ptr o1 0 0 0,.ptr o2 0 0 0,.ptr o3 0 0 0]]]))])++[some (.arr 0 3 0 [[.int .i64 a0.rule,.int .i64 a0.lex,.sl false 3 40 (rows B5.cells a0.kids)]]),some (.arr 0 2 0 [[.int .i64 0,.int .i64 0]])]) (fun gj0 j0 fr1 st1 h hb=>?_) (fun hj0=>?_)
     ·try simp only[go_sem,fx]
      unfold fz at h
      refine R8 hb ?_
      refine cd h (fun hc h=>?_) fun hc h=>?_
      ·refine cl h (bk _ _) fun v6 h=>?_
       refine rr ?_
       exact fuo (.agg [.int .i64 v6.code,.int .i64 v6.index]) (.same _) h hsc
      ·refine rn ?_
       refine eP (fu (bV n) S5 j0 a0 a1 iB sk pQ ql su) r (fun(gj1:Unit) (j1:Int)=>[(1,.int .i64 a1),(2,.int .i64 j1),(6,.ptr o3 0 0 0),(7,.ptr st.length 0 0 0),(10,.ptr (st.length+1) 0 0 0),(11,.int .i64 S5)]) (fun(gj1:Unit) (j1:Int)=>(U1 st [(o0,(.arr 0 1 0 [[.int .i64 (wr .i64 (S5+1))]])),(o1,(.arr 0 5 0 [[.sl false 2 40 (rows x5.cells iB),.sl false 3 32 (rows A0.cells sk),.sl false 10 152 (rows w8.cells pQ),.sl false 9 144 (rows D0.cells ql),.sl false 2 32 (rows y4.cells su)]])),(o2,(.arr 0 1 0 [[.int .i64 j0.1]])),(o3,(.arr 0 1 0 [[.fn 57 [] [.ptr o0 0 0 0,.ptr o1 0 0 0,.ptr o2 0 0 0,.ptr o3 0 0 0]]]))])++[some (.arr 0 3 0 [[.int .i64 a0.rule,.int .i64 a0.lex,.sl false 3 40 (rows B5.cells a0.kids)]]),some (.arr 0 2 0 [[.int .i64 0,.int .i64 0]])]) (fun gj1 j1 fr1 st1 h hb=>?_) (fun hj1=>?_)
       ·try simp only[go_sem,fx]
        unfold fu at h
        refine R8 hb ?_
        refine cd h (fun hc h=>?_) fun hc h=>?_
        ·refine cl h (bk _ _) fun v7 h=>?_
         refine rr ?_
         exact fuo (.agg [.int .i64 v7.code,.int .i64 v7.index]) (.same _) h hsc
        ·refine aln 100 fun hl2=>?_
         refine rng (body:=jd (bV n) a0 a1 j1 iB sk pQ ql su) (kk:=je) (n:=a0.kids.length) (s0:=((wr .i64 (S5+1)),j0.1))
          (fun(gs2:Unit) (k2:Nat) (s2:Int×Int)=>[(1,.int .i64 a1),(2,.int .i64 j1),(6,.ptr o3 0 0 0),(10,.ptr (st.length+1) 0 0 0),(100,.sl false 3 40 (rows B5.cells a0.kids)),(101,.int .i64 (↑a0.kids.length:Int)),(102,.int .i64 (↑k2:Int))])
          (fun(gs2:Unit) (k2:Nat) (s2:Int×Int)=>(U1 st [(o0,(.arr 0 1 0 [[.int .i64 s2.1]])),(o1,(.arr 0 5 0 [[.sl false 2 40 (rows x5.cells iB),.sl false 3 32 (rows A0.cells sk),.sl false 10 152 (rows w8.cells pQ),.sl false 9 144 (rows D0.cells ql),.sl false 2 32 (rows y4.cells su)]])),(o2,(.arr 0 1 0 [[.int .i64 s2.2]])),(o3,(.arr 0 1 0 [[.fn 57 [] [.ptr o0 0 0 0,.ptr o1 0 0 0,.ptr o2 0 0 0,.ptr o3 0 0 0]]]))])++[none,some (.arr 0 2 0 [[.int .i64 0,.int .i64 0]])])
          (fun(gt2:Unit) (t2:Int×Int)=>[(10,.ptr (st.length+1) 0 0 0)])
          (fun(gt2:Unit) (t2:Int×Int)=>(U1 st [(o0,(.arr 0 1 0 [[.int .i64 t2.1]])),(o1,(.arr 0 5 0 [[.sl false 2 40 (rows x5.cells iB),.sl false 3 32 (rows A0.cells sk),.sl false 10 152 (rows w8.cells pQ),.sl false 9 144 (rows D0.cells ql),.sl false 2 32 (rows y4.cells su)]])),(o2,(.arr 0 1 0 [[.int .i64 t2.2]])),(o3,(.arr 0 1 0 [[.fn 57 [] [.ptr o0 0 0 0,.ptr o1 0 0 0,.ptr o2 0 0 0,.ptr o3 0 0 0]]]))])++[none,some (.arr 0 2 0 [[.int .i64 0,.int .i64 0]])])
          () fx hl2 h (bu hsc)
          (fun gs2 k2 s2 b2 fx h hx2=>?_) (fun gs2 s2=>?_) (fun gt2 t2 fr1 st1 h hb=>?_)
         ·unfold jd at h
          refine ct ?_
          refine rn ?_
          obtain⟨v9,hv9,h⟩:=E7 h
          refine(ih _ _ _ _ _ _ _ _ _ _ _ hv9 _ _ _ _ _ hnd (by simp only[go_sem,fx]) (by simp only[go_sem,fx]) (by simp only[go_sem,fx]) (by simp only[go_sem,fx])).mono ?_
          rintro d1 st1 ⟨rfl,rfl⟩
          refine cd h (fun hc h=>?_) fun hc h=>?_
          ·refine ra ?_
           cases h
           refine D4 ?_;have h:=congrArg some (hx2 _ rfl)
           refine rr ?_
           exact fuo (.agg [.int .i64 v9.1.code,.int .i64 v9.1.index]) (.same _) h hsc
          ·refine rn ?_
           cases h
           exact dc () (bu hsc)
         ·refine cf ?_
          refine cP ?_;simp only[go_sem,fx]
          exact⟨(),(bu hsc)⟩
         ·try simp only[go_sem,fx]
          unfold je at h
          refine R8 hb ?_
          refine rr ?_
          exact fuo (.agg [.int .i64 0,.int .i64 0]) (.same _) h hsc
       ·refine cd h (fun hc h=>?_) fun hc h=>?_
        ·refine r0 ?_
         refine hj1 () _ _ _ h ?_;exact(bu hsc)
        ·refine r0 ?_
         refine hj1 () _ _ _ h ?_;exact(bu hsc)
     ·refine cd h (fun hc h=>?_) fun hc h=>?_
      ·obtain⟨fx,h⟩:=ck fx h
       refine r0 ?_
       refine hj0 () _ _ _ h ?_;exact(bu hsc)
      ·refine r0 ?_
       refine hj0 () _ _ _ h ?_;exact(bu hsc)
theorem oo(n:Nat)(a0:y7)(a1:B5)(r:w5)(h:lX n a0 a1=some r):Pure Tryz.prog gl 32 [.agg [.sl false 2 40 (rows x5.cells a0.hierarchy.types),.sl false 3 32 (rows A0.cells a0.hierarchy.C2),.sl false 10 152 (rows w8.cells a0.rules),.sl false 9 144 (rows D0.cells a0.B3),.sl false 2 32 (rows y4.cells a0.start.nodes)],.agg [.int .i64 a1.rule,.int .i64 a1.lex,.sl false 3 40 (rows B5.cells a1.kids)]] (.agg [.int .i64 r.code,.int .i64 r.index]):=by
 intro st
 unfold lX at h
 have fx:=trivial
 refine fb 21 [.cell 4 39] [0,1,2,3,4,5,6,7,8,15,18] Tryz.func32 fun hsc=>?_
 refine rn ?_
 obtain⟨v1,hv1,h⟩:=E7 h
 refine(sZ n _ _ _ _ _ _ _ _ _ _ _ hv1 _ _ _ _ _ (by simp) (U5.trans rfl) (qS.trans rfl) (U5.trans rfl) (U5.trans rfl)).mono ?_
 rintro d1 st1 ⟨rfl,rfl⟩
 refine cd h (fun hc h=>?_) fun hc h=>?_
 ·exact rt
 ·refine cd h (fun hc h=>?_) fun hc h=>?_
  ·refine cl h (bk _ _) fun v2 h=>?_
   exact rt
  ·exact rt
theorem td:∀(n:Nat) (a0:B5) (l1:(List Int)) (l2:(List Int)) (r:(List Int)×(List Int)) (h:dM n a0 l1 l2=some r),∀(st:St) (o0 o1 o2 o3 q1 q2:Nat) (hnd: [o0,o1,o2,o3].Nodup) (fY:Am.look st o0=some (.arr 0 2 0 [[.ref true o1 q1 0 l1.length,.ref true o2 q2 0 l2.length]])) (ot:Am.look st o1=some (.arr q1 1 8 (rows E1 l1))) (tX:Am.look st o2=some (.arr q2 1 8 (rows E1 l2))) (Ds:Am.look st o3=some (.arr 0 1 0 [[.fn 31 [] [.ptr o0 0 0 0,.ptr o3 0 0 0]]])),Am.Spec Tryz.prog gl 31 [.agg [.int .i64 a0.rule,.int .i64 a0.lex,.sl false 3 40 (rows B5.cells a0.kids)],.ptr o0 0 0 0,.ptr o3 0 0 0] st (fun d st'=>d= .tup []∧st'=puts st [(o0,(.arr 0 2 0 [[.ref true o1 q1 0 r.1.length,.ref true o2 q2 0 r.2.length]])),(o1,(.arr q1 1 8 (rows E1 r.1))),(o2,(.arr q2 1 8 (rows E1 r.2))),(o3,(.arr 0 1 0 [[.fn 31 [] [.ptr o0 0 0 0,.ptr o3 0 0 0]]]))]):=by
 intro n
 induction n with
 |zero=>intro a0 l1 l2 r h;cases h
 |succ n ih=>
  intro a0 l1 l2 r h st o0 o1 o2 o3 q1 q2 hnd fY ot tX Ds
  unfold dM at h
  have ho0:=S9 fY
  have ho1:=S9 ot
  have ho2:=S9 tX
  have ho3:=S9 Ds
  have fx:=fa (fa (fa (fa (idf ho0) (idf ho1)) (idf ho2)) (idf ho3)) (nd4 hnd)
  refine fb 36 [] [0,1,2,3,5,8,26,27,28,29] Tryz.func31 fun hsc=>?_
  refine kS (s':=(U1 st [(o0,(.arr 0 2 0 [[.ref true o1 q1 0 l1.length,.ref true o2 q2 0 l2.length]])),(o1,(.arr q1 1 8 (rows E1 l1))),(o2,(.arr q2 1 8 (rows E1 l2))),(o3,(.arr 0 1 0 [[.fn 31 [] [.ptr o0 0 0 0,.ptr o3 0 0 0]]]))])) (K5 (by simp[fY,ot,tX,Ds])) ?_
  refine rn ?_
  refine eP (fA (dM n) a0) r (fun(gj0:Unit) (j0:(List Int)×(List Int))=>[(2,.ptr o3 0 0 0),(3,.ptr st.length 0 0 0)]) (fun(gj0:Unit) (j0:(List Int)×(List Int))=>(U1 st [(o0,(.arr 0 2 0 [[.ref true o1 q1 0 j0.1.length,.ref true o2 q2 0 j0.2.length]])),(o1,(.arr q1 1 8 (rows E1 j0.1))),(o2,(.arr q2 1 8 (rows E1 j0.2))),(o3,(.arr 0 1 0 [[.fn 31 [] [.ptr o0 0 0 0,.ptr o3 0 0 0]]]))])++[some (.arr 0 3 0 [[.int .i64 a0.rule,.int .i64 a0.lex,.sl false 3 40 (rows B5.cells a0.kids)]])]) (fun gj0 j0 fr1 st1 h hb=>?_) (fun hj0=>?_)
  ·try simp only[go_sem,fx]
   unfold fA at h
   refine R8 hb ?_
   refine aln 26 fun hl1=>?_
   refine rng (body:=jf (dM n) a0) (kk:=jg) (n:=a0.kids.length) (s0:=(j0.1,j0.2))
    (fun(gs1:Unit) (k1:Nat) (s1:(List Int)×(List Int))=>[(2,.ptr o3 0 0 0),(26,.sl false 3 40 (rows B5.cells a0.kids)),(27,.int .i64 (↑a0.kids.length:Int)),(28,.int .i64 (↑k1:Int))])
    (fun(gs1:Unit) (k1:Nat) (s1:(List Int)×(List Int))=>(U1 st [(o0,(.arr 0 2 0 [[.ref true o1 q1 0 s1.1.length,.ref true o2 q2 0 s1.2.length]])),(o1,(.arr q1 1 8 (rows E1 s1.1))),(o2,(.arr q2 1 8 (rows E1 s1.2))),(o3,(.arr 0 1 0 [[.fn 31 [] [.ptr o0 0 0 0,.ptr o3 0 0 0]]]))]))
    (fun(gt1:Unit) (t1:(List Int)×(List Int))=>[])
    (fun(gt1:Unit) (t1:(List Int)×(List Int))=>(U1 st [(o0,(.arr 0 2 0 [[.ref true o1 q1 0 t1.1.length,.ref true o2 q2 0 t1.2.length]])),(o1,(.arr q1 1 8 (rows E1 t1.1))),(o2,(.arr q2 1 8 (rows E1 t1.2))),(o3,(.arr 0 1 0 [[.fn 31 [] [.ptr o0 0 0 0,.ptr o3 0 0 0]]]))]))
    () fx hl1 h (bu0 hsc)
    (fun gs1 k1 s1 b1 fx h hx1=>?_) (fun gs1 s1=>?_) (fun gt1 t1 fr1 st1 h hb=>?_)
   ·unfold jf at h
    refine ct ?_
    refine rn ?_
    obtain⟨v20,hv20,h⟩:=E7 h
    refine(ih _ _ _ _ hv20 _ _ _ _ _ q1 q2 hnd (by simp only[go_sem,fx]) (by simp only[go_sem,fx]) (by simp only[go_sem,fx]) (by simp only[go_sem,fx])).mono ?_
    rintro d1 st1 ⟨rfl,rfl⟩
    refine rn ?_
    cases h
    exact dc () (bu0 hsc)
   ·refine cf ?_
    refine cP ?_;simp only[go_sem,fx]
    exact⟨(),(LB hsc)⟩
   ·try simp only[go_sem,fx]
    unfold jg at h
    refine Em hb ?_
    refine rr ?_
    exact fus (.tup []) (.same _) h hsc
  ·refine cd h (fun hc h=>?_) fun hc h=>?_
   ·obtain⟨fx,h⟩:=ck fx h
    have fy:=(show(rows E1 l2).getD a0.lex.toNat []=E1 (get l2 a0.lex.toNat)from jk (E:=E1) (l:=l2) (k:=a0.lex.toNat) (by first|omega|(simp;omega)))
    have fy:=fa fy (show a0.lex.toNat<l2.length from by first|omega|(simp;omega))
    have fy:=fa fy (show(rows E1 l2).getD a0.lex.toNat []=E1 (get l2 a0.lex.toNat)from jk (E:=E1) (l:=l2) (k:=a0.lex.toNat) (by first|omega|(simp;omega)))
    have fy:=fa fy (show a0.lex.toNat<l2.length from by first|omega|(simp;omega))
    obtain⟨c7,hc7,h⟩:=lK h
    have fy:=fa fy (show(rows E1 l2).set a0.lex.toNat [.int .i64 (wr .i64 ((get l2 a0.lex.toNat)+1))]=rows E1 c7 from by rw[hc7];first|exact vY (E:=E1) _ _ _|simp only[go_sem,rows,List.map_set])
    refine r1 ?_
    have e9:D.ref true o2 q2 0 l2.length=D.ref true o2 q2 0 c7.length:=by simp[hc7]
    simp only[e9]
    refine hj0 () _ _ _ h ?_;exact(bu hsc)
   ·obtain⟨fx,h⟩:=ck fx h
    have fy:=(show(rows E1 l1).getD a0.rule.toNat []=E1 (get l1 a0.rule.toNat)from jk (E:=E1) (l:=l1) (k:=a0.rule.toNat) (by first|omega|(simp;omega)))
    have fy:=fa fy (show a0.rule.toNat<l1.length from by first|omega|(simp;omega))
    have fy:=fa fy (show(rows E1 l1).getD a0.rule.toNat []=E1 (get l1 a0.rule.toNat)from jk (E:=E1) (l:=l1) (k:=a0.rule.toNat) (by first|omega|(simp;omega)))
    have fy:=fa fy (show a0.rule.toNat<l1.length from by first|omega|(simp;omega))
    obtain⟨c16,MZ,h⟩:=lK h
    have fy:=fa fy (show(rows E1 l1).set a0.rule.toNat [.int .i64 (wr .i64 ((get l1 a0.rule.toNat)+1))]=rows E1 c16 from by rw[MZ];first|exact vY (E:=E1) _ _ _|simp only[go_sem,rows,List.map_set])
    refine r1 ?_
    have e18:D.ref true o1 q1 0 l1.length=D.ref true o1 q1 0 c16.length:=by simp[MZ]
    simp only[e18]
    refine hj0 () _ _ _ h ?_;exact(bu hsc)
end Go.Proofs.YtoekkdodipnmpaaGreatDoor
