import Derived.Test.YtfogbhjeihkliaaGreatDoorDXSort
import Derived.Test.YtfogbhjeihkliaaGreatDoorDXWalk5
set_option linter.unusedVariables false
set_option linter.unusedSimpArgs false
set_option maxHeartbeats 2000000
set_option maxRecDepth 100000
namespace Go.Proofs.YtfogbhjeihkliaaGreatDoor
open Go Go.Am
theorem uL(n:Nat)(a0:x5)(a1:w8)(r:w9)(h:kl n a0 a1=some r):Pure Tryz.prog gl 49 [.agg [.sl false 2 40 (rows x7.cells a0.hierarchy.types),.sl false 3 32 (rows y8.cells a0.hierarchy.C1),.sl false 10 152 (rows x6.cells a0.rules),.sl false 9 144 (rows C5.cells a0.I7),.sl false 2 32 (rows y4.cells a0.start.nodes)],.agg [.int .i64 a1.rule,.int .i64 a1.lex,.sl false 3 40 (rows w8.cells a1.kids)]] (.agg [.int .i64 r.code,.int .i64 r.index]):=by
 intro st
 unfold kl at h
 have fx:=trivial
 refine fb 21 [.cell 4 37] [0,1,2,3,4,5,6,7,8,15,18] Tryz.func49 fun hsc=>?_
 refine rn ?_
 obtain⟨v1,hv1,h⟩:=F9 h
 refine(zM n _ _ _ _ _ _ _ _ _ _ _ hv1 _ _ _ _ _ (by simp) (cW.trans rfl) (tI.trans rfl) (cW.trans rfl) (cW.trans rfl)).mono ?_
 rintro d1 st1 ⟨rfl,rfl⟩
 refine cd h (fun hc h=>?_) fun hc h=>?_
 ·exact rt
 ·refine cd h (fun hc h=>?_) fun hc h=>?_
  ·refine cl h (gL _ _) fun v2 h=>?_
   exact rt
  ·exact rt
theorem vU(n:Nat)(a0:x5)(a1:w8)(r:w9)(h:lO n a0 a1=some r):Pure Tryz.prog gl 74 [.agg [.sl false 2 40 (rows x7.cells a0.hierarchy.types),.sl false 3 32 (rows y8.cells a0.hierarchy.C1),.sl false 10 152 (rows x6.cells a0.rules),.sl false 9 144 (rows C5.cells a0.I7),.sl false 2 32 (rows y4.cells a0.start.nodes)],.agg [.int .i64 a1.rule,.int .i64 a1.lex,.sl false 3 40 (rows w8.cells a1.kids)]] (.agg [.int .i64 r.code,.int .i64 r.index]):=by
 intro st
 unfold lO at h
 have fx:=trivial
 refine fb 15 [.cell 4 37] [0,1,2,3,4,5,10] Tryz.func74 fun hsc=>?_
 refine cl h (oS n _) fun v1 h=>?_
 refine cd h (fun hc h=>?_) fun hc h=>?_
 ·exact rt
 ·refine cl h (uL n _ _) fun v2 h=>?_
  exact rt
theorem zd(a0:Int)(l1:(List Bs))(mZ:(List x7))(wJ:(List y8))(wK:(List x6))(uF:(List C5))(wL:(List y4))(r:(List Bs))(h:oP a0 l1 mZ wJ wK uF wL=some r):∀(st:St) (o0 o1 o2 q1:Nat) (hnd: [o0,o1,o2].Nodup) (jI:Am.look st o0=some (.arr 0 1 0 [[.ref false o1 q1 0 l1.length]])) (sY:Am.look st o1=some (.arr q1 1 16 (rows pA l1))) (BZ:Am.look st o2=some (.arr 0 5 0 [[.sl false 2 40 (rows x7.cells mZ),.sl false 3 32 (rows y8.cells wJ),.sl false 10 152 (rows x6.cells wK),.sl false 9 144 (rows C5.cells uF),.sl false 2 32 (rows y4.cells wL)]])),Am.Spec Tryz.prog gl 76 [.int .i64 a0,.ptr o0 0 0 0,.ptr o2 0 0 0] st (fun d st'=>d= .tup []∧st'=puts st [(o0,(.arr 0 1 0 [[.ref false o1 (q1+1) 0 r.length]])),(o1,(.arr (q1+1) 1 16 (rows pA r))),(o2,(.arr 0 5 0 [[.sl false 2 40 (rows x7.cells mZ),.sl false 3 32 (rows y8.cells wJ),.sl false 10 152 (rows x6.cells wK),.sl false 9 144 (rows C5.cells uF),.sl false 2 32 (rows y4.cells wL)]]))]):=by
 intro st o0 o1 o2 q1 hnd jI sY BZ
 unfold oP at h
 have ho0:=T6 jI
 have ho1:=T6 sY
 have ho2:=T6 BZ
 have fx:=fa (fa (fa (idf ho0) (idf ho1)) (idf ho2)) (nd3 hnd)
 refine fb 13 [] [0,1,2] Tryz.func76 fun hsc=>?_
 refine mJ (s':=(aZ st [(o0,(.arr 0 1 0 [[.ref false o1 q1 0 l1.length]])),(o1,(.arr q1 1 16 (rows pA l1))),(o2,(.arr 0 5 0 [[.sl false 2 40 (rows x7.cells mZ),.sl false 3 32 (rows y8.cells wJ),.sl false 10 152 (rows x6.cells wK),.sl false 9 144 (rows C5.cells uF),.sl false 2 32 (rows y4.cells wL)]]))])) (N5 (by simp[jI,sY,BZ])) ?_
 refine rs ?_
 obtain⟨fx,h⟩:=ck fx h
 obtain⟨c4,hc4,h⟩:=oz h
 have fy:=(show rows pA l1++[[.str ((get uF a0.toNat).word)]]=rows pA c4 from by rw[hc4];first|exact U8 (E:=pA) l1 [(get uF a0.toNat).word]|simp only[go_sem,rows,List.map_append,List.map_cons,List.map_nil])
 have fy:=fa fy (show l1.length+1=c4.length from by rw[hc4];simp)
 obtain⟨fx,h⟩:=ck fx h
 refine dwy [] 2 ?_
 refine rr ?_
 exact fuo (.tup []) (.same _) h hsc
theorem ze:∀(n:Nat) (a0:w8) (l1:(List Bs)) (mZ:(List x7)) (wJ:(List y8)) (wK:(List x6)) (uF:(List C5)) (wL:(List y4)) (r:(List Bs)) (h:cS n a0 l1 mZ wJ wK uF wL=some r),∀(st:St) (o0 o1 o2 q1:Nat) (hnd: [o0,o1,o2].Nodup) (jI:Am.look st o0=some (.arr 0 1 0 [[.ref false o1 q1 0 l1.length]])) (sY:Am.look st o1=some (.arr q1 1 16 (rows pA l1))) (BZ:Am.look st o2=some (.arr 0 5 0 [[.sl false 2 40 (rows x7.cells mZ),.sl false 3 32 (rows y8.cells wJ),.sl false 10 152 (rows x6.cells wK),.sl false 9 144 (rows C5.cells uF),.sl false 2 32 (rows y4.cells wL)]])),Am.Spec Tryz.prog gl 75 [.agg [.int .i64 a0.rule,.int .i64 a0.lex,.sl false 3 40 (rows w8.cells a0.kids)],.fn 76 [] [.ptr o0 0 0 0,.ptr o2 0 0 0]] st (fun d st'=>∃zo1:Nat,d= .tup []∧st'=puts st [(o0,(.arr 0 1 0 [[.ref false o1 zo1 0 r.length]])),(o1,(.arr zo1 1 16 (rows pA r))),(o2,(.arr 0 5 0 [[.sl false 2 40 (rows x7.cells mZ),.sl false 3 32 (rows y8.cells wJ),.sl false 10 152 (rows x6.cells wK),.sl false 9 144 (rows C5.cells uF),.sl false 2 32 (rows y4.cells wL)]]))]):=by
 intro n
 induction n with
 |zero=>intro a0 l1 mZ wJ wK uF wL r h;cases h
 |succ n ih=>
  intro a0 l1 mZ wJ wK uF wL r h st o0 o1 o2 q1 hnd jI sY BZ
  unfold cS at h
  have ho0:=T6 jI
  have ho1:=T6 sY
  have ho2:=T6 BZ
  have fx:=fa (fa (fa (idf ho0) (idf ho1)) (idf ho2)) (nd3 hnd)
  refine fb 24 [] [0,1,2,5,8,14,15,16,17] Tryz.func75 fun hsc=>?_
  refine mJ (s':=(aZ st [(o0,(.arr 0 1 0 [[.ref false o1 q1 0 l1.length]])),(o1,(.arr q1 1 16 (rows pA l1))),(o2,(.arr 0 5 0 [[.sl false 2 40 (rows x7.cells mZ),.sl false 3 32 (rows y8.cells wJ),.sl false 10 152 (rows x6.cells wK),.sl false 9 144 (rows C5.cells uF),.sl false 2 32 (rows y4.cells wL)]]))])) (N5 (by simp[jI,sY,BZ])) ?_
  refine rn ?_
  refine iI (fK (cS n) a0 mZ wJ wK uF wL) r (fun(gj0:Nat) (j0:(List Bs))=>[(1,.fn 76 [] [.ptr o0 0 0 0,.ptr o2 0 0 0]),(2,.ptr st.length 0 0 0)]) (fun(gj0:Nat) (j0:(List Bs))=>(aZ st [(o0,(.arr 0 1 0 [[.ref false o1 gj0 0 j0.length]])),(o1,(.arr gj0 1 16 (rows pA j0))),(o2,(.arr 0 5 0 [[.sl false 2 40 (rows x7.cells mZ),.sl false 3 32 (rows y8.cells wJ),.sl false 10 152 (rows x6.cells wK),.sl false 9 144 (rows C5.cells uF),.sl false 2 32 (rows y4.cells wL)]]))])++[some (.arr 0 3 0 [[.int .i64 a0.rule,.int .i64 a0.lex,.sl false 3 40 (rows w8.cells a0.kids)]])]) (fun gj0 j0 fr1 st1 h hb=>?_) (fun hj0=>?_)
  ·try simp only[go_sem,fx]
   unfold fK at h
   refine R4 hb ?_
   refine aln 14 fun hl1=>?_
   refine rng (body:=kP (cS n) a0 mZ wJ wK uF wL) (kk:=kQ) (n:=a0.kids.length) (s0:=j0)
    (fun(gs1:Nat) (k1:Nat) (s1:(List Bs))=>[(1,.fn 76 [] [.ptr o0 0 0 0,.ptr o2 0 0 0]),(14,.sl false 3 40 (rows w8.cells a0.kids)),(15,.int .i64 (↑a0.kids.length:Int)),(16,.int .i64 (↑k1:Int))])
    (fun(gs1:Nat) (k1:Nat) (s1:(List Bs))=>(aZ st [(o0,(.arr 0 1 0 [[.ref false o1 gs1 0 s1.length]])),(o1,(.arr gs1 1 16 (rows pA s1))),(o2,(.arr 0 5 0 [[.sl false 2 40 (rows x7.cells mZ),.sl false 3 32 (rows y8.cells wJ),.sl false 10 152 (rows x6.cells wK),.sl false 9 144 (rows C5.cells uF),.sl false 2 32 (rows y4.cells wL)]]))]))
    (fun(gt1:Nat) (t1:(List Bs))=>[])
    (fun(gt1:Nat) (t1:(List Bs))=>(aZ st [(o0,(.arr 0 1 0 [[.ref false o1 gt1 0 t1.length]])),(o1,(.arr gt1 1 16 (rows pA t1))),(o2,(.arr 0 5 0 [[.sl false 2 40 (rows x7.cells mZ),.sl false 3 32 (rows y8.cells wJ),.sl false 10 152 (rows x6.cells wK),.sl false 9 144 (rows C5.cells uF),.sl false 2 32 (rows y4.cells wL)]]))]))
    gj0 fx hl1 h (bu0 hsc)
    (fun gs1 k1 s1 b1 fx h hx1=>?_) (fun gs1 s1=>?_) (fun gt1 t1 fr1 st1 h hb=>?_)
   ·unfold kP at h
    refine ct ?_
    refine rn ?_
    obtain⟨v4,hv4,h⟩:=F9 h
    refine(ih _ _ _ _ _ _ _ _ hv4 _ _ _ _ gs1 hnd (by simp only[go_sem,fx]) (by simp only[go_sem,fx]) (by simp only[go_sem,fx])).mono ?_
    rintro d1 st1 ⟨g5,rfl,rfl⟩
    refine rn ?_
    cases h
    exact gW g5 (bu0 hsc)
   ·refine cf ?_
    refine gV ?_;simp only[go_sem,fx]
    exact⟨gs1,(Po hsc)⟩
   ·try simp only[go_sem,fx]
    unfold kQ at h
    refine Lp hb ?_
    refine rr ?_
    exact fus (.tup []) (.same _) h hsc (hr:=by rintro rfl;exact⟨gt1,rfl,rfl⟩)
  ·refine cd h (fun hc h=>?_) fun hc h=>?_
   ·refine rn ?_
    obtain⟨v1,hv1,h⟩:=F9 h
    refine(zd _ _ _ _ _ _ _ _ hv1 _ _ _ _ q1 hnd (by simp only[go_sem,fx]) (by simp only[go_sem,fx]) (by simp only[go_sem,fx])).mono ?_
    rintro d1 st1 ⟨rfl,rfl⟩
    try simp only[go_sem,fx]
    refine hj0 (q1+1) _ _ _ h ?_;exact(bu hsc)
   ·refine r0 ?_
    refine hj0 q1 _ _ _ h ?_;exact(bu hsc)
theorem zN(n:Nat)(a0:x5)(a1:w8)(r:(List Bs)×w9)(h:qA n a0 a1=some r):Pure Tryz.prog gl 50 [.agg [.sl false 2 40 (rows x7.cells a0.hierarchy.types),.sl false 3 32 (rows y8.cells a0.hierarchy.C1),.sl false 10 152 (rows x6.cells a0.rules),.sl false 9 144 (rows C5.cells a0.I7),.sl false 2 32 (rows y4.cells a0.start.nodes)],.agg [.int .i64 a1.rule,.int .i64 a1.lex,.sl false 3 40 (rows w8.cells a1.kids)]] (.tup [.sl false 1 16 (rows pA r.1),.agg [.int .i64 r.2.code,.int .i64 r.2.index]]):=by
 intro st
 unfold qA at h
 have fx:=trivial
 refine fb 20 [.tmp 4,.cell 5 37] [0,1,2,3,4,5,6,7,13] Tryz.func50 fun hsc=>?_
 refine cl h (vU n _ _) fun v1 h=>?_
 refine cd h (fun hc h=>?_) fun hc h=>?_
 ·refine rs ?_
  refine dw [] 0 ?_
  refine rr ?_
  exact fo (.tup [.sl false 1 16 (rows pA []),.agg [.int .i64 v1.code,.int .i64 v1.index]]) (.tup _ _ (.cons _ _ _ _ (.F6 _ _ _ (by decide)) (.cons _ _ _ _ .s .nil)) rfl) h hsc
 ·refine r0 ?_
  refine r0 ?_
  (repeat apply sq_)
  refine oI 1 16 ?_
  try simp only[List.append_assoc,List.cons_append,List.nil_append]
  refine R4 (F:=[(2,.ptr st.length 0 0 0),(3,.ptr (st.length+1) 0 0 0),(5,.ptr (st.length+2) 0 0 0),(7,.ptr (st.length+4) 0 0 0)]) (T:=st++[some (.arr 0 5 0 [[.sl false 2 40 (rows x7.cells a0.hierarchy.types),.sl false 3 32 (rows y8.cells a0.hierarchy.C1),.sl false 10 152 (rows x6.cells a0.rules),.sl false 9 144 (rows C5.cells a0.I7),.sl false 2 32 (rows y4.cells a0.start.nodes)]]),some (.arr 0 3 0 [[.int .i64 a1.rule,.int .i64 a1.lex,.sl false 3 40 (rows w8.cells a1.kids)]]),some (.arr 0 2 0 [[.int .i64 0,.int .i64 0]]),some (.arr 0 2 0 [[.int .i64 v1.code,.int .i64 v1.index]]),some (.arr 0 1 0 [[.ref false (st.length+5) 0 0 0]]),some (.arr 0 1 16 (rows pA []))]) (Af hsc (.lv (.lv (.lv (.lv (.live _ _ _ _ (.arr _ _ _ _ _ (.cons _ _ _ _ (.cons _ _ _ _ (.nref _ _ _ _ _ _ (pL.trans rfl)) .nil) (.same _))) (.lv (.nil _))))))) (by simp) ⟨.s,.s,.s,.s,trivial⟩ (by simp)) ?_
  refine rn ?_
  obtain⟨v2,hv2,h⟩:=F9 h
  refine(ze n _ _ _ _ _ _ _ _ hv2 _ _ _ _ 0 (by simp) (cW.trans rfl) (cW.trans rfl) (tI.trans rfl)).mono ?_
  rintro d1 st1 ⟨g3,rfl,rfl⟩
  refine rr ?_
  exact fo (.tup [.sl false 1 16 (rows pA v2),.agg [.int .i64 0,.int .i64 0]]) (.tup _ _ (.cons _ _ _ _ (.ref _ _ _ _ _ _ _ _ _ (pL.trans rfl) zq (by decide) (ru _) (by simp only[go_sem])) (.cons _ _ _ _ .s .nil)) rfl) h hsc
theorem oE(a0:(List Bs))(a1:(List Bs))(r:Bool)(h:aF a0 a1=some r):Pure Tryz.prog gl 51 [.sl false 1 16 (rows pA a0),.sl false 1 16 (rows pA a1)] (.bool r):=by
 intro st
 unfold aF at h
 have fx:=trivial
 refine fb 26 [.tmp 4] [0,1,4,5,10,12,13,14,24] Tryz.func51 fun hsc=>?_
 refine cd h (fun hc h=>?_) fun hc h=>?_
 ·exact rt
 ·refine aln 0 fun hl0=>?_
  refine rng (body:=ey a1 a0) (kk:=eA) (n:=a0.length) (s0:=())
   (fun(gs0:Unit) (k0:Nat) (s0:Unit)=>[(0,.sl false 1 16 (rows pA a0)),(1,.sl false 1 16 (rows pA a1)),(12,.int .i64 (↑a0.length:Int)),(13,.int .i64 (↑k0:Int))])
   (fun(gs0:Unit) (k0:Nat) (s0:Unit)=>st)
   (fun(gt0:Unit) (t0:Unit)=>[])
   (fun(gt0:Unit) (t0:Unit)=>st)
   () fx hl0 h (gX hsc)
   (fun gs0 k0 s0 b0 fx h hx0=>?_) (fun gs0 s0=>?_) (fun gt0 t0 fr1 st1 h hb=>?_)
  ·unfold ey at h
   refine ct ?_
   refine rn ?_
   obtain⟨fx,h⟩:=ck fx h
   refine dw [] 0 ?_
   refine cd h (fun hc h=>?_) fun hc h=>?_
   ·refine ra ?_
    cases h
    refine F4 ?_;have h:=congrArg some (hx0 _ rfl)
    exact rt
   ·refine rn ?_
    cases h
    exact gW () (gX hsc)
  ·refine cf ?_
   refine gV ?_;simp only[go_sem,fx]
   exact⟨(),(gX hsc)⟩
  ·try simp only[go_sem,fx]
   unfold eA at h
   refine R4 hb ?_
   exact rt
theorem jq(n:Nat)(a0:x5)(a1:(List w8))(r:w9)(h:I4 n a0 a1=some r):Pure Tryz.prog gl 24 [.agg [.sl false 2 40 (rows x7.cells a0.hierarchy.types),.sl false 3 32 (rows y8.cells a0.hierarchy.C1),.sl false 10 152 (rows x6.cells a0.rules),.sl false 9 144 (rows C5.cells a0.I7),.sl false 2 32 (rows y4.cells a0.start.nodes)],.sl false 3 40 (rows w8.cells a1)] (.agg [.int .i64 r.code,.int .i64 r.index]):=by
 intro st
 unfold I4 at h
 have fx:=trivial
 refine fb 56 [.cell 4 37] [0,1,2,4,5,6,7,8,9,10,16,20,22,23,24,25,34,46,51] Tryz.func24 fun hsc=>?_
 refine cl h (oS n _) fun v1 h=>?_
 refine cd h (fun hc h=>?_) fun hc h=>?_
 ·exact rt
 ·refine cd h (fun hc h=>?_) fun hc h=>?_
  ·refine cl h (cF _ _) fun v2 h=>?_
   exact rt
  ·refine aln 22 fun hl0=>?_
   refine rng (body:=cC n a0 a1) (kk:=cD) (n:=a1.length) (s0:=[])
    (fun(gs0:Unit) (k0:Nat) (s0:(List Bs))=>[(2,.ptr st.length 0 0 0),(4,.ptr (st.length+1) 0 0 0),(6,.sl false 1 16 (rows pA s0)),(22,.sl false 3 40 (rows w8.cells a1)),(23,.int .i64 (↑a1.length:Int)),(24,.int .i64 (↑k0:Int))])
    (fun(gs0:Unit) (k0:Nat) (s0:(List Bs))=>st++[some (.arr 0 5 0 [[.sl false 2 40 (rows x7.cells a0.hierarchy.types),.sl false 3 32 (rows y8.cells a0.hierarchy.C1),.sl false 10 152 (rows x6.cells a0.rules),.sl false 9 144 (rows C5.cells a0.I7),.sl false 2 32 (rows y4.cells a0.start.nodes)]]),some (.arr 0 2 0 [[.int .i64 0,.int .i64 0]])])
    (fun(gt0:Unit) (t0:(List Bs))=>[(4,.ptr (st.length+1) 0 0 0)])
    (fun(gt0:Unit) (t0:(List Bs))=>st++[none,some (.arr 0 2 0 [[.int .i64 0,.int .i64 0]])])
    () fx hl0 h (bm hsc)
    (fun gs0 k0 s0 b0 fx h hx0=>?_) (fun gs0 s0=>?_) (fun gt0 t0 fr1 st1 h hb=>?_)
   ·unfold cC at h
    refine ct ?_
    refine cl h (uL n _ _) fun v8 h=>?_
    refine cd h (fun hc h=>?_) fun hc h=>?_
    ·refine cl h (cF _ _) fun v9 h=>?_
     refine ra ?_
     cases h
     refine F4 ?_;have h:=congrArg some (hx0 _ rfl)
     exact rt
    ·refine cl h (zN n _ _) fun v10 h=>?_
     refine rn ?_
     refine iI (aL v10 k0) b0 (fun(gj2:Unit) (j2:(List Bs))=>[(2,.ptr st.length 0 0 0),(4,.ptr (st.length+1) 0 0 0),(6,.sl false 1 16 (rows pA j2)),(7,.int .i64 (↑k0:Int)),(10,.sl false 1 16 (rows pA v10.1)),(22,.sl false 3 40 (rows w8.cells a1)),(23,.int .i64 (↑a1.length:Int)),(24,.int .i64 (↑k0:Int))]) (fun(gj2:Unit) (j2:(List Bs))=>st++[some (.arr 0 5 0 [[.sl false 2 40 (rows x7.cells a0.hierarchy.types),.sl false 3 32 (rows y8.cells a0.hierarchy.C1),.sl false 10 152 (rows x6.cells a0.rules),.sl false 9 144 (rows C5.cells a0.I7),.sl false 2 32 (rows y4.cells a0.start.nodes)]]),some (.arr 0 2 0 [[.int .i64 0,.int .i64 0]])]) (fun gj2 j2 fr1 st1 h hb=>?_) (fun hj2=>?_)
     ·try simp only[go_sem,fx]
      unfold aL at h
      refine R4 hb ?_
      refine cl h (oE _ _) fun v11 h=>?_
      refine cd h (fun hc h=>?_) fun hc h=>?_
      ·refine cl h (cF _ _) fun v12 h=>?_
       refine ra ?_
       cases h
       refine F4 ?_;have h:=congrArg some (hx0 _ rfl)
       exact rt
      ·refine rn ?_
       cases h
       exact gW () (bm hsc)
     ·refine cd h (fun hc h=>?_) fun hc h=>?_
      ·refine r0 ?_
       refine hj2 () _ _ _ h ?_;exact(bm hsc)
      ·refine r0 ?_
       refine hj2 () _ _ _ h ?_;exact(bm hsc)
   ·refine cf ?_
    refine gV ?_;simp only[go_sem,fx]
    exact⟨(),(bm hsc)⟩
   ·try simp only[go_sem,fx]
    unfold cD at h
    refine R4 hb ?_
    exact rt
theorem uM:∀(n:Nat) (a0:w8) (a1:Int) (l1:(List w5)) (mZ:Int) (r:Int×(List w5)) (h:Q5 n a0 a1 l1 mZ=some r),∀(st:St) (o0 o1 o2 o3 q1:Nat) (hnd: [o0,o1,o2,o3].Nodup) (jI:Am.look st o0=some (.arr 0 1 0 [[.ref false o1 q1 0 l1.length]])) (sY:Am.look st o1=some (.arr q1 5 40 (rows w5.cells l1))) (BZ:Am.look st o2=some (.arr 0 1 0 [[.int .i64 mZ]])) (OT:Am.look st o3=some (.arr 0 1 0 [[.fn 82 [] [.ptr o0 0 0 0,.ptr o2 0 0 0,.ptr o3 0 0 0]]])),Am.Spec Tryz.prog gl 82 [.agg [.int .i64 a0.rule,.int .i64 a0.lex,.sl false 3 40 (rows w8.cells a0.kids)],.int .i64 a1,.ptr o0 0 0 0,.ptr o2 0 0 0,.ptr o3 0 0 0] st (fun d st'=>∃zo1:Nat,d= .tup []∧st'=puts st [(o0,(.arr 0 1 0 [[.ref false o1 zo1 0 r.2.length]])),(o1,(.arr zo1 5 40 (rows w5.cells r.2))),(o2,(.arr 0 1 0 [[.int .i64 r.1]])),(o3,(.arr 0 1 0 [[.fn 82 [] [.ptr o0 0 0 0,.ptr o2 0 0 0,.ptr o3 0 0 0]]]))]):=by
 intro n
 induction n with
 |zero=>intro a0 a1 l1 mZ r h;cases h
 |succ n ih=>
  intro a0 a1 l1 mZ r h st o0 o1 o2 o3 q1 hnd jI sY BZ OT
  unfold Q5 at h
  have ho0:=T6 jI
  have ho1:=T6 sY
  have ho2:=T6 BZ
  have ho3:=T6 OT
  have fx:=fa (fa (fa (fa (idf ho0) (idf ho1)) (idf ho2)) (idf ho3)) (nd4 hnd)
  refine fb 53 [] [0,1,2,3,4,5,7,8,9,11,27,33,37,38,39,40] Tryz.func82 fun hsc=>?_
  refine mJ (s':=(aZ st [(o0,(.arr 0 1 0 [[.ref false o1 q1 0 l1.length]])),(o1,(.arr q1 5 40 (rows w5.cells l1))),(o2,(.arr 0 1 0 [[.int .i64 mZ]])),(o3,(.arr 0 1 0 [[.fn 82 [] [.ptr o0 0 0 0,.ptr o2 0 0 0,.ptr o3 0 0 0]]]))])) (N5 (by simp[jI,sY,BZ,OT])) ?_
  refine rn ?_
  refine dw [] 0 ?_
  obtain⟨c2,hc2,h⟩:=oz h
  have fy:=(show rows w5.cells l1++[[.int .i64 mZ,.int .i64 0,.int .i64 a1,.int .i64 a0.rule,.int .i64 a0.lex]]=rows w5.cells c2 from by rw[hc2];first|exact U8 (E:=w5.cells) l1 [(w5.mk mZ 0 a1 a0.rule a0.lex)]|simp only[go_sem,rows,List.map_append,List.map_cons,List.map_nil])
  have fy:=fa fy (show l1.length+1=c2.length from by rw[hc2];simp)
  obtain⟨fx,h⟩:=ck fx h
  refine r1 ?_
  refine rn ?_
  refine iI (bU (Q5 n) a0 c2 l1 a1) r (fun(gj0:Unit) (j0:Int)=>[(1,.int .i64 a1),(2,.ptr o0 0 0 0),(3,.ptr o2 0 0 0),(4,.ptr o3 0 0 0),(5,.ptr st.length 0 0 0),(7,.int .i64 (↑l1.length:Int))]) (fun(gj0:Unit) (j0:Int)=>(aZ st [(o0,(.arr 0 1 0 [[.ref false o1 (q1+1) 0 c2.length]])),(o1,(.arr (q1+1) 5 40 (rows w5.cells c2))),(o2,(.arr 0 1 0 [[.int .i64 j0]])),(o3,(.arr 0 1 0 [[.fn 82 [] [.ptr o0 0 0 0,.ptr o2 0 0 0,.ptr o3 0 0 0]]]))])++[some (.arr 0 3 0 [[.int .i64 a0.rule,.int .i64 a0.lex,.sl false 3 40 (rows w8.cells a0.kids)]])]) (fun gj0 j0 fr1 st1 h hb=>?_) (fun hj0=>?_)
  ·try simp only[go_sem,fx]
   unfold bU at h
   refine R4 hb ?_
   refine rn ?_
   refine iI (bT (Q5 n) a0 j0 c2 l1) r (fun(gj1:Unit) (j1:Int)=>[(2,.ptr o0 0 0 0),(3,.ptr o2 0 0 0),(4,.ptr o3 0 0 0),(5,.ptr st.length 0 0 0),(7,.int .i64 (↑l1.length:Int)),(9,.int .i64 j1)]) (fun(gj1:Unit) (j1:Int)=>(aZ st [(o0,(.arr 0 1 0 [[.ref false o1 (q1+1) 0 c2.length]])),(o1,(.arr (q1+1) 5 40 (rows w5.cells c2))),(o2,(.arr 0 1 0 [[.int .i64 j0]])),(o3,(.arr 0 1 0 [[.fn 82 [] [.ptr o0 0 0 0,.ptr o2 0 0 0,.ptr o3 0 0 0]]]))])++[some (.arr 0 3 0 [[.int .i64 a0.rule,.int .i64 a0.lex,.sl false 3 40 (rows w8.cells a0.kids)]])]) (fun gj1 j1 fr1 st1 h hb=>?_) (fun hj1=>?_)
   ·try simp only[go_sem,fx]
    unfold bT at h
    refine R4 hb ?_
    refine aln 37 fun hl2=>?_
    refine rng (body:=iB (Q5 n) a0 j1) (kk:=iC l1) (n:=a0.kids.length) (s0:=(j0,c2))
     (fun(gs2:Nat) (k2:Nat) (s2:Int×(List w5))=>[(2,.ptr o0 0 0 0),(3,.ptr o2 0 0 0),(4,.ptr o3 0 0 0),(7,.int .i64 (↑l1.length:Int)),(9,.int .i64 j1),(37,.sl false 3 40 (rows w8.cells a0.kids)),(38,.int .i64 (↑a0.kids.length:Int)),(39,.int .i64 (↑k2:Int))])
     (fun(gs2:Nat) (k2:Nat) (s2:Int×(List w5))=>(aZ st [(o0,(.arr 0 1 0 [[.ref false o1 gs2 0 s2.2.length]])),(o1,(.arr gs2 5 40 (rows w5.cells s2.2))),(o2,(.arr 0 1 0 [[.int .i64 s2.1]])),(o3,(.arr 0 1 0 [[.fn 82 [] [.ptr o0 0 0 0,.ptr o2 0 0 0,.ptr o3 0 0 0]]]))]))
     (fun(gt2:Nat) (t2:Int×(List w5))=>[(2,.ptr o0 0 0 0),(3,.ptr o2 0 0 0),(7,.int .i64 (↑l1.length:Int))])
     (fun(gt2:Nat) (t2:Int×(List w5))=>(aZ st [(o0,(.arr 0 1 0 [[.ref false o1 gt2 0 t2.2.length]])),(o1,(.arr gt2 5 40 (rows w5.cells t2.2))),(o2,(.arr 0 1 0 [[.int .i64 t2.1]])),(o3,(.arr 0 1 0 [[.fn 82 [] [.ptr o0 0 0 0,.ptr o2 0 0 0,.ptr o3 0 0 0]]]))]))
     (q1+1) fx hl2 h (bu0 hsc)
     (fun gs2 k2 s2 b2 fx h hx2=>?_) (fun gs2 s2=>?_) (fun gt2 t2 fr1 st1 h hb=>?_)
    ·unfold iB at h
     refine ct ?_
     refine rn ?_
     obtain⟨v9,hv9,h⟩:=F9 h
     refine(ih _ _ _ _ _ hv9 _ _ _ _ _ gs2 hnd (by simp only[go_sem,fx]) (by simp only[go_sem,fx]) (by simp only[go_sem,fx]) (by simp only[go_sem,fx])).mono ?_
     rintro d1 st1 ⟨g10,rfl,rfl⟩
     refine rn ?_
     cases h
     exact gW g10 (bu0 hsc)
    ·refine cf ?_
     refine gV ?_;simp only[go_sem,fx]
     exact⟨gs2,(Po hsc)⟩
    ·try simp only[go_sem,fx]
     unfold iC at h
     refine R4 hb ?_
     obtain⟨fx,h⟩:=ck fx h
     have fy:=(show(rows w5.cells t2.2).getD l1.length []=w5.cells (get t2.2 l1.length)from qg (E:=w5.cells) (l:=t2.2) (k:=l1.length) (by first|omega|(simp;omega)))
     have fy:=fa fy (show l1.length<t2.2.length from by first|omega|(simp;omega))
     obtain⟨c14,RP,h⟩:=oz h
     have fy:=fa fy (show(rows w5.cells t2.2).set l1.length [.int .i64 ((get t2.2 l1.length).from_),.int .i64 t2.1,.int .i64 ((get t2.2 l1.length).level),.int .i64 ((get t2.2 l1.length).rule),.int .i64 ((get t2.2 l1.length).lex)]=rows w5.cells c14 from by rw[RP];first|exact CF (E:=w5.cells) _ _ _|simp only[go_sem,rows,List.map_set])
     refine r1 ?_
     have e16:D.ref false o1 gt2 0 t2.2.length=D.ref false o1 gt2 0 c14.length:=by simp[RP]
     simp only[e16]
     refine rr ?_
     exact fus (.tup []) (.same _) h hsc (hr:=by rintro rfl;exact⟨gt2,rfl,rfl⟩)
   ·refine cd h (fun hc h=>?_) fun hc h=>?_
    ·refine r0 ?_
     refine hj1 () _ _ _ h ?_;exact(bu hsc)
    ·refine r0 ?_
     refine hj1 () _ _ _ h ?_;exact(bu hsc)
  ·refine cd h (fun hc h=>?_) fun hc h=>?_
   ·refine r0 ?_
    refine hj0 () _ _ _ h ?_;exact(bu hsc)
   ·refine r0 ?_
    refine hj0 () _ _ _ h ?_;exact(bu hsc)
theorem eY{l r:(List w5)}(h:E6 l=some r):r.length=l.length:=by
 unfold E6 at h
 obtain⟨_,h⟩:=MD h
 obtain rfl:=Option.some.inj h
 exact(ke _ _).length_eq
theorem fz(l0:(List w5))(r:(List w5))(h:E6 l0=some r):∀(st:St) (o0 q0:Nat) (hnd: [o0].Nodup) (jI:Am.look st o0=some (.arr q0 5 40 (rows w5.cells l0))),Am.Spec Tryz.prog gl 53 [.ref false o0 q0 0 l0.length,.fn 54 [] []] st (fun d st'=>d= .tup []∧st'=puts st [(o0,(.arr q0 5 40 (rows w5.cells r)))]):=by
 intro st o0 q0 hnd jI
 unfold E6 at h
 obtain⟨hl,h⟩:=MD h
 obtain rfl:=Option.some.inj h
 rw[←FV M8.swo CK]
 exact AH rfl (by kernel_rfl) (fun x y=>dU x y _ (AG x y)) jI hl
theorem vV(n:Nat)(a0:w8)(r:(List w5))(h:jA n a0=some r):Pure Tryz.prog gl 55 [.agg [.int .i64 a0.rule,.int .i64 a0.lex,.sl false 3 40 (rows w8.cells a0.kids)]] (.sl false 5 40 (rows w5.cells r)):=by
 intro st
 unfold jA at h
 have fx:=trivial
 refine fb 13 [.tmp 2] [0,1,2,3,4,5] Tryz.func55 fun hsc=>?_
 refine r0 ?_
 refine r0 ?_
 refine r0 ?_
 refine r0 ?_
 refine r0 ?_
 (repeat apply sq_)
 refine oI 5 40 ?_
 try simp only[List.append_assoc,List.cons_append,List.nil_append]
 refine R4 (F:=[(1,.ptr st.length 0 0 0),(3,.ptr (st.length+1) 0 0 0),(5,.ptr (st.length+3) 0 0 0)]) (T:=st++[some (.arr 0 3 0 [[.int .i64 a0.rule,.int .i64 a0.lex,.sl false 3 40 (rows w8.cells a0.kids)]]),some (.arr 0 1 0 [[.ref false (st.length+4) 0 0 0]]),some (.arr 0 1 0 [[.int .i64 0]]),some (.arr 0 1 0 [[.fn 82 [] [.ptr (st.length+1) 0 0 0,.ptr (st.length+2) 0 0 0,.ptr (st.length+3) 0 0 0]]]),some (.arr 0 5 40 (rows w5.cells []))]) (Af hsc (.lv (.live _ _ _ _ (.arr _ _ _ _ _ (.cons _ _ _ _ (.cons _ _ _ _ (.nref _ _ _ _ _ _ (pL.trans rfl)) .nil) (.same _))) (.lv (.lv (.lv (.nil _)))))) (by simp) ⟨.s,.s,.s,trivial⟩ (by simp)) ?_
 refine rn ?_
 obtain⟨v1,hv1,h⟩:=F9 h
 refine(uM n _ _ _ _ _ hv1 _ _ _ _ _ 0 (by simp) (cW.trans rfl) (cW.trans rfl) (cW.trans rfl) (cW.trans rfl)).mono ?_
 rintro d1 st1 ⟨g2,rfl,rfl⟩
 refine rn ?_
 obtain⟨v3,hv3,h⟩:=F9 h
 refine(fz _ _ hv3 _ _ g2 (by simp) (cW.trans rfl)).mono ?_
 rintro d1 st1 ⟨rfl,rfl⟩
 have e4:D.ref false (st.length+4) g2 0 v1.2.length=D.ref false (st.length+4) g2 0 v3.length:=by rw[eY hv3]
 simp only[e4]
 refine rr ?_
 exact fo (.sl false 5 40 (rows w5.cells v3)) (.ref _ _ _ _ _ _ _ _ _ (pL.trans rfl) zq (by decide) (ru _) (by simp only[go_sem])) h hsc
end Go.Proofs.YtfogbhjeihkliaaGreatDoor
