import Derived.Test.YtfogbhjeihkliaaGreatDoorDXWalk13
set_option linter.unusedVariables false
set_option linter.unusedSimpArgs false
set_option maxHeartbeats 2000000
set_option maxRecDepth 100000
namespace Go.Proofs.YtfogbhjeihkliaaGreatDoor
open Go Go.Am
theorem rJ(n:Nat)(a0:x5)(a1:(List w8))(a2:Int)(r:(List w7)×w9)(h:eU n a0 a1 a2=some r):Pure Tryz.prog gl 16 [.agg [.sl false 2 40 (rows x7.cells a0.hierarchy.types),.sl false 3 32 (rows y8.cells a0.hierarchy.C1),.sl false 10 152 (rows x6.cells a0.rules),.sl false 9 144 (rows C5.cells a0.I7),.sl false 2 32 (rows y4.cells a0.start.nodes)],.sl false 3 40 (rows w8.cells a1),.int .i64 a2] (.tup [.sl false 6 48 (rows w7.cells r.1),.agg [.int .i64 r.2.code,.int .i64 r.2.index]]):=by
 intro st
 unfold eU at h
 have fx:=trivial
 refine fb 53 [.tmp 6,.cell 7 37] [0,1,2,3,6,7,8,9,10,12,18,23,24,25,26,27,32,33,34,35] Tryz.func16 fun hsc=>?_
 refine cl h (jq n _ _) fun v1 h=>?_
 refine cd h (fun hc h=>?_) fun hc h=>?_
 ·refine rs ?_
  refine dw [] 0 ?_
  refine rr ?_
  exact fo (.tup [.sl false 6 48 (rows w7.cells []),.agg [.int .i64 v1.code,.int .i64 v1.index]]) (.tup _ _ (.cons _ _ _ _ (.F6 _ _ _ (by decide)) (.cons _ _ _ _ .s .nil)) rfl) h hsc
 ·refine cd h (fun hc h=>?_) fun hc h=>?_
  ·refine cl h (cF _ _) fun v2 h=>?_
   refine rr ?_
   exact fo (.tup [.sl false 6 48 (rows w7.cells []),.agg [.int .i64 v2.code,.int .i64 v2.index]]) (.tup _ _ (.cons _ _ _ _ (.F6 _ _ _ (by decide)) (.cons _ _ _ _ .s .nil)) rfl) h hsc
  ·refine cl h (dB n _) fun v3 h=>?_
   refine cl h (fG n _) fun v4 h=>?_
   try simp only[go_sem,fx]
   (repeat apply sq_)
   refine oI 6 48 ?_
   try simp only[List.append_assoc,List.cons_append,List.nil_append]
   refine R4 (F:=[(2,.int .i64 a2),(7,.ptr (st.length+1) 0 0 0),(9,.sl false 1 24 (rows (slc 5 40 w5.cells) v3)),(10,.ref false (st.length+3) 0 0 0),(32,.sl false 5 40 (rows w5.cells v4)),(33,.int .i64 (↑v4.length:Int)),(34,.int .i64 0)]) (T:=st++[some (.arr 0 5 0 [[.sl false 2 40 (rows x7.cells a0.hierarchy.types),.sl false 3 32 (rows y8.cells a0.hierarchy.C1),.sl false 10 152 (rows x6.cells a0.rules),.sl false 9 144 (rows C5.cells a0.I7),.sl false 2 32 (rows y4.cells a0.start.nodes)]]),some (.arr 0 2 0 [[.int .i64 0,.int .i64 0]]),some (.arr 0 2 0 [[.int .i64 v1.code,.int .i64 v1.index]]),some (.arr 0 6 48 (rows w7.cells []))]) (Af hsc (.lv (.lv (.lv (.lv (.nil _))))) (by simp) ⟨.s,.s,.s,.nref _ _ _ _ _ _ (pL.trans rfl),.s,.s,.s,trivial⟩ (by simp)) ?_
   refine aln 32 fun hl0=>?_
   refine rng (body:=bK n a2 v3 v4) (kk:=eV) (n:=v4.length) (s0:=[])
    (fun(gs0:Nat) (k0:Nat) (s0:(List w7))=>[(2,.int .i64 a2),(7,.ptr (st.length+1) 0 0 0),(9,.sl false 1 24 (rows (slc 5 40 w5.cells) v3)),(10,.ref false (st.length+3) gs0 0 s0.length),(32,.sl false 5 40 (rows w5.cells v4)),(33,.int .i64 (↑v4.length:Int)),(34,.int .i64 (↑k0:Int))])
    (fun(gs0:Nat) (k0:Nat) (s0:(List w7))=>st++[none,some (.arr 0 2 0 [[.int .i64 0,.int .i64 0]]),none,some (.arr gs0 6 48 (rows w7.cells s0))])
    (fun(gt0:Nat) (t0:(List w7))=>[(7,.ptr (st.length+1) 0 0 0),(10,.ref false (st.length+3) gt0 0 t0.length)])
    (fun(gt0:Nat) (t0:(List w7))=>st++[none,some (.arr 0 2 0 [[.int .i64 0,.int .i64 0]]),none,some (.arr gt0 6 48 (rows w7.cells t0))])
    0 fx hl0 h (bm hsc)
    (fun gs0 k0 s0 b0 fx h hx0=>?_) (fun gs0 s0=>?_) (fun gt0 t0 fr1 st1 h hb=>?_)
   ·unfold bK at h
    refine ct ?_
    refine rn ?_
    obtain⟨fx,h⟩:=ck fx h
    refine dw [] 2 ?_
    obtain⟨v16,hv16,h⟩:=F9 h
    refine A9 (eX n _ _ _ hv16) ?_
    obtain⟨c18,Ve,h⟩:=oz h
    have fy:=(show rows w7.cells s0++[[.int .i64 ((get v4 k0).from_),.int .i64 ((get v4 k0).to_),.int .i64 ((get v4 k0).level),.int .i64 ((get v4 k0).rule),.int .i64 ((get v4 k0).lex),.bool v16]]=rows w7.cells c18 from by rw[Ve];first|exact U8 (E:=w7.cells) s0 [(w7.mk (get v4 k0) v16)]|simp only[go_sem,rows,List.map_append,List.map_cons,List.map_nil])
    have fy:=fa fy (show s0.length+1=c18.length from by rw[Ve];simp)
    obtain⟨fx,h⟩:=ck fx h
    try simp only[go_sem,fx,fy]
    refine rn ?_
    cases h
    exact gW (gs0+1) (bm hsc)
   ·refine cf ?_
    refine gV ?_;simp only[go_sem,fx]
    exact⟨gs0,(bm hsc)⟩
   ·try simp only[go_sem,fx]
    unfold eV at h
    refine R4 hb ?_
    refine rr ?_
    exact fo (.tup [.sl false 6 48 (rows w7.cells t0),.agg [.int .i64 0,.int .i64 0]]) (.tup _ _ (.cons _ _ _ _ (.ref _ _ _ _ _ _ _ _ _ (pL.trans rfl) zq (by decide) (ru _) (by simp only[go_sem])) (.cons _ _ _ _ .s .nil)) rfl) h hsc
theorem jl(n:Nat)(a0:x5)(a1:(List w8))(a2:Int)(r:Bool)(h:Q7 n a0 a1 a2=some r):Pure Tryz.prog gl 5 [.agg [.sl false 2 40 (rows x7.cells a0.hierarchy.types),.sl false 3 32 (rows y8.cells a0.hierarchy.C1),.sl false 10 152 (rows x6.cells a0.rules),.sl false 9 144 (rows C5.cells a0.I7),.sl false 2 32 (rows y4.cells a0.start.nodes)],.sl false 3 40 (rows w8.cells a1),.int .i64 a2] (.bool r):=by
 intro st
 unfold Q7 at h
 have fx:=trivial
 refine qp ?_;refine fb 128 [.tmp 6] [0,1,2,3,6,7,8,9,10,11,12,13,14,15,17,32,33,34,35,36,37,38,39,40,44,49,50,51,63,64,65,68,69,70,71,72,73,77,89,92,104,115,124,125,126] Tryz.func5 fun hsc=>?_
 refine rn ?_
 obtain⟨v1,hv1,h⟩:=F9 h
 refine(W6 (G7 n _ hv1)).to ?_
 refine cd h (fun hc h=>?_) fun hc h=>?_
 ·exact rt
 ·refine rn ?_
  obtain⟨v2,hv2,h⟩:=F9 h
  refine(W6 (rJ n _ _ _ _ hv2)).to ?_
  refine rn ?_
  obtain⟨v3,hv3,h⟩:=F9 h
  refine(W6 (Z0 n _ _ _ hv3)).to ?_
  refine rn ?_
  refine iI (F3 n v2 a0 a1 a2) r (fun(gj0:Unit) (j0:Int×Int)=>[(1,.sl false 3 40 (rows w8.cells a1)),(2,.int .i64 a2),(3,.ptr st.length 0 0 0),(7,.sl false 6 48 (rows w7.cells v2.1)),(8,.ptr (st.length+1) 0 0 0),(9,.ptr (st.length+2) 0 0 0)]) (fun(gj0:Unit) (j0:Int×Int)=>st++[some (.arr 0 5 0 [[.sl false 2 40 (rows x7.cells a0.hierarchy.types),.sl false 3 32 (rows y8.cells a0.hierarchy.C1),.sl false 10 152 (rows x6.cells a0.rules),.sl false 9 144 (rows C5.cells a0.I7),.sl false 2 32 (rows y4.cells a0.start.nodes)]]),some (.arr 0 2 0 [[.int .i64 v2.2.code,.int .i64 v2.2.index]]),some (.arr 0 2 0 [[.int .i64 j0.1,.int .i64 j0.2]])]) (fun gj0 j0 fr1 st1 h hb=>?_) (fun hj0=>?_)
  ·try simp only[go_sem,fx]
   unfold F3 at h
   refine R4 hb ?_
   refine cd h (fun hc h=>?_) fun hc h=>?_
   ·exact rt
   ·refine rn ?_
    obtain⟨v4,hv4,h⟩:=F9 h
    refine(W6 (kT n _ _ _ hv4)).to ?_
    refine cd h (fun hc h=>?_) fun hc h=>?_
    ·exact rt
    ·refine rn ?_
     refine E8 (body:=G3 v2 v4) (kk:=N0 n v2 a0 a1 a2) (n:=n) (s0:=0)
      (fun(gs1:Unit) (s1:Int)=>[(1,.sl false 3 40 (rows w8.cells a1)),(2,.int .i64 a2),(3,.ptr st.length 0 0 0),(7,.sl false 6 48 (rows w7.cells v2.1)),(8,.ptr (st.length+1) 0 0 0),(10,.sl false 5 40 (rows w5.cells v4.1)),(12,.int .i64 s1)])
      (fun(gs1:Unit) (s1:Int)=>st++[some (.arr 0 5 0 [[.sl false 2 40 (rows x7.cells a0.hierarchy.types),.sl false 3 32 (rows y8.cells a0.hierarchy.C1),.sl false 10 152 (rows x6.cells a0.rules),.sl false 9 144 (rows C5.cells a0.I7),.sl false 2 32 (rows y4.cells a0.start.nodes)]]),some (.arr 0 2 0 [[.int .i64 v2.2.code,.int .i64 v2.2.index]])])
      (fun(gt1:Unit) (t1:Unit)=>[(1,.sl false 3 40 (rows w8.cells a1)),(2,.int .i64 a2),(3,.ptr st.length 0 0 0),(7,.sl false 6 48 (rows w7.cells v2.1)),(8,.ptr (st.length+1) 0 0 0)])
      (fun(gt1:Unit) (t1:Unit)=>st++[some (.arr 0 5 0 [[.sl false 2 40 (rows x7.cells a0.hierarchy.types),.sl false 3 32 (rows y8.cells a0.hierarchy.C1),.sl false 10 152 (rows x6.cells a0.rules),.sl false 9 144 (rows C5.cells a0.I7),.sl false 2 32 (rows y4.cells a0.start.nodes)]]),some (.arr 0 2 0 [[.int .i64 v2.2.code,.int .i64 v2.2.index]])])
      () h (bm hsc)
      (fun gs1 s1 b1 h hx1=>?_) (fun gt1 t1 fr1 st1 h hb=>?_)
     ·unfold G3 at h
      refine cd h (fun hc h=>?_) fun hc h=>?_
      ·refine rn ?_
       obtain⟨fx,h⟩:=ck fx h
       obtain⟨fx,h⟩:=ck fx h
       refine dw [] 0 ?_
       refine cd h (fun hc h=>?_) fun hc h=>?_
       ·refine ra ?_
        cases h
        refine aP ?_;have h:=congrArg some (hx1 _ rfl)
        exact rt
       ·refine rn ?_
        cases h
        exact F5 () (bm hsc)
      ·refine rn ?_
       cases h
       exact K7 () (bm hsc)
     ·try simp only[go_sem,fx]
      unfold N0 at h
      refine R4 hb ?_
      refine cd h (fun hc h=>?_) fun hc h=>?_
      ·exact rt
      ·refine rn ?_
       obtain⟨v10,hv10,h⟩:=F9 h
       refine(W6 (S7 n _ _ _ _ hv10)).to ?_
       refine rn ?_
       refine E8 (body:=G4 n a1 a2) (kk:=N3 n v10) (n:=n) (s0:=([],0))
        (fun(gs2:Nat) (s2:(List Int)×Int)=>[(1,.sl false 3 40 (rows w8.cells a1)),(2,.int .i64 a2),(8,.ptr (st.length+1) 0 0 0),(13,.sl false 1 8 (rows Z4 v10.1)),(14,.ref false (st.length+2) gs2 0 s2.1.length),(15,.int .i64 s2.2)])
        (fun(gs2:Nat) (s2:(List Int)×Int)=>st++[none,some (.arr 0 2 0 [[.int .i64 v10.2.code,.int .i64 v10.2.index]]),some (.arr gs2 1 8 (rows Z4 s2.1))])
        (fun(gt2:Nat) (t2:(List Int))=>[(8,.ptr (st.length+1) 0 0 0),(13,.sl false 1 8 (rows Z4 v10.1)),(14,.ref false (st.length+2) gt2 0 t2.length)])
        (fun(gt2:Nat) (t2:(List Int))=>st++[none,some (.arr 0 2 0 [[.int .i64 v10.2.code,.int .i64 v10.2.index]]),some (.arr gt2 1 8 (rows Z4 t2))])
        0 h (bm hsc)
        (fun gs2 s2 b2 h hx2=>?_) (fun gt2 t2 fr1 st1 h hb=>?_)
       ·unfold G4 at h
        refine cd h (fun hc h=>?_) fun hc h=>?_
        ·refine rn ?_
         obtain⟨fx,h⟩:=ck fx h
         obtain⟨fx,h⟩:=ck fx h
         refine dw [] 0 ?_
         obtain⟨v36,hv36,h⟩:=F9 h
         refine A9 (W6 (kU n _ _ _ hv36)) ?_
         try simp only[go_sem,fx]
         refine cd h (fun hc h=>?_) fun hc h=>?_
         ·obtain⟨c38,RQ,h⟩:=oz h
          have fy:=(show rows Z4 s2.1++[[.int .i64 s2.2]]=rows Z4 c38 from by rw[RQ];first|exact U8 (E:=Z4) s2.1 [s2.2]|simp only[go_sem,rows,List.map_append,List.map_cons,List.map_nil])
          have fy:=fa fy (show s2.1.length+1=c38.length from by rw[RQ];simp)
          obtain⟨fx,h⟩:=ck fx h
          refine r1 ?_
          refine rn ?_
          cases h
          exact F5 (gs2+1) (bm hsc)
         ·refine rn ?_
          cases h
          exact F5 gs2 (bm hsc)
        ·refine rn ?_
         cases h
         exact K7 gs2 (bm hsc)
       ·try simp only[go_sem,fx]
        unfold N3 at h
        refine R4 hb ?_
        (repeat apply sq_)
        refine R4 (F:=[(8,.ptr (st.length+1) 0 0 0),(13,.sl false 1 8 (rows Z4 v10.1)),(14,.sl false 1 8 (rows Z4 t2))]) (T:=st++[none,some (.arr 0 2 0 [[.int .i64 v10.2.code,.int .i64 v10.2.index]])]) (Af hsc (.dead _ _ _ (.lv (.nil _))) (by simp) ⟨.s,.s,.ref _ _ _ _ _ _ _ _ _ (pL.trans rfl) (tQ (by first|decide|simp)) (by decide) (ru _) (by simp only[go_sem]),trivial⟩ (by simp)) ?_
        refine rn ?_
        obtain⟨v43,hv43,h⟩:=F9 h
        refine kG (fun hG=>(W6 (U6 n _ _ _ (tO hv43 (by simpa using hG))))) ?_
        exact rt
  ·refine cd h (fun hc h=>?_) fun hc h=>?_
   ·refine r0 ?_
    refine hj0 () _ _ _ h ?_;exact(bm hsc)
   ·refine r0 ?_
    refine hj0 () _ _ _ h ?_;exact(bm hsc)
theorem qc(n:Nat)(a0:(List w8))(a1:(List Int))(a2:w5)(r:Int)(h:bL n a0 a1 a2=some r):Pure Tryz.prog gl 21 [.sl false 3 40 (rows w8.cells a0),.sl false 1 8 (rows Z4 a1),.agg [.int .i64 a2.from_,.int .i64 a2.to_,.int .i64 a2.level,.int .i64 a2.rule,.int .i64 a2.lex]] (.int .i64 r):=by
 intro st
 unfold bL at h
 have fx:=trivial
 refine fb 27 [.tmp 6] [0,1,2,5,6,7,8,12,23] Tryz.func21 fun hsc=>?_
 refine rn ?_
 refine E8 (body:=S6 n a1 a0 a2) (kk:=bW) (n:=n) (s0:=(0,0))
  (fun(gs0:Unit) (s0:Int×Int)=>[(0,.sl false 3 40 (rows w8.cells a0)),(1,.sl false 1 8 (rows Z4 a1)),(5,.ptr st.length 0 0 0),(7,.int .i64 s0.1),(8,.int .i64 s0.2)])
  (fun(gs0:Unit) (s0:Int×Int)=>st++[some (.arr 0 5 0 [[.int .i64 a2.from_,.int .i64 a2.to_,.int .i64 a2.level,.int .i64 a2.rule,.int .i64 a2.lex]])])
  (fun(gt0:Unit) (t0:Int)=>[(7,.int .i64 t0)])
  (fun(gt0:Unit) (t0:Int)=>st)
  () h (bm hsc)
  (fun gs0 s0 b0 h hx0=>?_) (fun gt0 t0 fr1 st1 h hb=>?_)
 ·unfold S6 at h
  refine cd h (fun hc h=>?_) fun hc h=>?_
  ·refine rn ?_
   obtain⟨fx,h⟩:=ck fx h
   obtain⟨fx,h⟩:=ck fx h
   refine dw [] 0 ?_
   obtain⟨v9,hv9,h⟩:=F9 h
   refine A9 (bC n _ _ _ hv9) ?_
   try simp only[go_sem,fx]
   refine cd h (fun hc h=>?_) fun hc h=>?_
   ·refine rn ?_
    cases h
    exact F5 () (bm hsc)
   ·refine rn ?_
    cases h
    exact F5 () (bm hsc)
  ·refine rn ?_
   cases h
   exact K7 () (bm0 hsc)
 ·try simp only[go_sem,fx]
  unfold bW at h
  refine R4 hb ?_
  exact rt
theorem eK(n:Nat)(a0:x5)(a1:(List w8))(a2:(List w7))(r:Bool)(h:I5 n a0 a1 a2=some r):Pure Tryz.prog gl 8 [.agg [.sl false 2 40 (rows x7.cells a0.hierarchy.types),.sl false 3 32 (rows y8.cells a0.hierarchy.C1),.sl false 10 152 (rows x6.cells a0.rules),.sl false 9 144 (rows C5.cells a0.I7),.sl false 2 32 (rows y4.cells a0.start.nodes)],.sl false 3 40 (rows w8.cells a1),.sl false 6 48 (rows w7.cells a2)] (.bool r):=by
 intro st
 unfold I5 at h
 have fx:=trivial
 refine qp ?_;refine fb 191 [.tmp 6] [0,1,2,3,6,7,8,9,10,11,12,13,14,15,16,17,18,19,20,21,22,24,47,48,49,50,54,59,60,61,64,65,66,69,70,73,74,75,87,101,102,103,104,105,106,107,108,109,123,124,125,126,127,134,142,143,144,145,155,156,157,160,161,162,163,164,167,168,169,172,173,174,175,179,190] Tryz.func8 fun hsc=>?_
 refine rn ?_
 obtain⟨v1,hv1,h⟩:=F9 h
 refine(W6 (G7 n _ hv1)).to ?_
 refine cd h (fun hc h=>?_) fun hc h=>?_
 ·exact rt
 ·refine rn ?_
  obtain⟨v2,hv2,h⟩:=F9 h
  refine(W6 (lx n _ _ _ _ hv2)).to ?_
  refine rn ?_
  obtain⟨v3,hv3,h⟩:=F9 h
  refine(W6 (om n _ _ _ _ hv3)).to ?_
  refine rn ?_
  obtain⟨v4,hv4,h⟩:=F9 h
  refine(W6 (Z0 n _ _ _ hv4)).to ?_
  refine rn ?_
  refine iI (D5 n v2 v3 a1 a2) r (fun(gj0:Unit) (j0:Int×Int)=>[(1,.sl false 3 40 (rows w8.cells a1)),(2,.sl false 6 48 (rows w7.cells a2)),(7,.sl false 6 48 (rows w7.cells v2.1)),(8,.ptr (st.length+1) 0 0 0),(9,.ptr (st.length+2) 0 0 0),(10,.bool v3.2.1),(11,.ptr (st.length+3) 0 0 0),(12,.ptr (st.length+4) 0 0 0)]) (fun(gj0:Unit) (j0:Int×Int)=>st++[none,some (.arr 0 2 0 [[.int .i64 v2.2.code,.int .i64 v2.2.index]]),some (.arr 0 5 0 [[.int .i64 v3.1.from_,.int .i64 v3.1.to_,.int .i64 v3.1.level,.int .i64 v3.1.rule,.int .i64 v3.1.lex]]),some (.arr 0 2 0 [[.int .i64 v3.2.2.code,.int .i64 v3.2.2.index]]),some (.arr 0 2 0 [[.int .i64 j0.1,.int .i64 j0.2]])]) (fun gj0 j0 fr1 st1 h hb=>?_) (fun hj0=>?_)
  ·try simp only[go_sem,fx]
   unfold D5 at h
   refine R4 hb ?_
   refine cd h (fun hc h=>?_) fun hc h=>?_
   ·exact rt
   ·refine rn ?_
    obtain⟨v5,hv5,h⟩:=F9 h
    refine(W6 (ji n _ _ hv5)).to ?_
    refine rn ?_
    obtain⟨v6,hv6,h⟩:=F9 h
    refine(W6 (lu n _ _ _ hv6)).to ?_
    refine rn ?_
    refine E8 (body:=D3 n v5 a1 v6) (kk:=G6 n v2 v3) (n:=n) (s0:=(0,0,0,0,0,[],0,false,0))
     (fun(gs1:Nat) (s1:Int×Int×Int×Int×Int×(List w7)×Int×Bool×Int)=>[(1,.sl false 3 40 (rows w8.cells a1)),(7,.sl false 6 48 (rows w7.cells v2.1)),(8,.ptr (st.length+1) 0 0 0),(9,.ptr (st.length+2) 0 0 0),(10,.bool v3.2.1),(11,.ptr (st.length+3) 0 0 0),(13,.sl false 5 40 (rows w5.cells v5)),(14,.sl false 1 8 (rows Z4 v6)),(15,.ref false (st.length+5) gs1 0 s1.2.2.2.2.2.1.length),(16,.ptr (st.length+6) 0 0 0),(17,.int .i64 s1.2.2.2.2.2.2.1),(18,.bool s1.2.2.2.2.2.2.2.1),(19,.int .i64 s1.2.2.2.2.2.2.2.2)])
     (fun(gs1:Nat) (s1:Int×Int×Int×Int×Int×(List w7)×Int×Bool×Int)=>st++[none,some (.arr 0 2 0 [[.int .i64 v2.2.code,.int .i64 v2.2.index]]),some (.arr 0 5 0 [[.int .i64 v3.1.from_,.int .i64 v3.1.to_,.int .i64 v3.1.level,.int .i64 v3.1.rule,.int .i64 v3.1.lex]]),some (.arr 0 2 0 [[.int .i64 v3.2.2.code,.int .i64 v3.2.2.index]]),none,some (.arr gs1 6 48 (rows w7.cells s1.2.2.2.2.2.1)),some (.arr 0 5 0 [[.int .i64 s1.1,.int .i64 s1.2.1,.int .i64 s1.2.2.1,.int .i64 s1.2.2.2.1,.int .i64 s1.2.2.2.2.1]])])
     (fun(gt1:Nat) (t1:Int×Int×Int×Int×Int×(List w7)×Bool)=>[(7,.sl false 6 48 (rows w7.cells v2.1)),(8,.ptr (st.length+1) 0 0 0),(9,.ptr (st.length+2) 0 0 0),(10,.bool v3.2.1),(11,.ptr (st.length+3) 0 0 0),(15,.ref false (st.length+5) gt1 0 t1.2.2.2.2.2.1.length),(16,.ptr (st.length+6) 0 0 0),(18,.bool t1.2.2.2.2.2.2)])
     (fun(gt1:Nat) (t1:Int×Int×Int×Int×Int×(List w7)×Bool)=>st++[none,some (.arr 0 2 0 [[.int .i64 v2.2.code,.int .i64 v2.2.index]]),some (.arr 0 5 0 [[.int .i64 v3.1.from_,.int .i64 v3.1.to_,.int .i64 v3.1.level,.int .i64 v3.1.rule,.int .i64 v3.1.lex]]),some (.arr 0 2 0 [[.int .i64 v3.2.2.code,.int .i64 v3.2.2.index]]),none,some (.arr gt1 6 48 (rows w7.cells t1.2.2.2.2.2.1)),some (.arr 0 5 0 [[.int .i64 t1.1,.int .i64 t1.2.1,.int .i64 t1.2.2.1,.int .i64 t1.2.2.2.1,.int .i64 t1.2.2.2.2.1]])])
     0 h (bm hsc)
     (fun gs1 s1 b1 h hx1=>?_) (fun gt1 t1 fr1 st1 h hb=>?_)
    ·unfold D3 at h
     refine cd h (fun hc h=>?_) fun hc h=>?_
     ·obtain⟨fx,h⟩:=ck fx h
      refine rn ?_
      obtain⟨v17,hv17,h⟩:=F9 h
      refine(W6 (qc n _ _ _ _ hv17)).to ?_
      refine rn ?_
      refine iI (D4 v17 v6 s1 v5) b1 (fun(gj4:Nat) (j4:(List w7))=>[(1,.sl false 3 40 (rows w8.cells a1)),(7,.sl false 6 48 (rows w7.cells v2.1)),(8,.ptr (st.length+1) 0 0 0),(9,.ptr (st.length+2) 0 0 0),(10,.bool v3.2.1),(11,.ptr (st.length+3) 0 0 0),(13,.sl false 5 40 (rows w5.cells v5)),(14,.sl false 1 8 (rows Z4 v6)),(15,.ref false (st.length+5) gj4 0 j4.length),(16,.ptr (st.length+6) 0 0 0),(17,.int .i64 s1.2.2.2.2.2.2.1),(18,.bool s1.2.2.2.2.2.2.2.1),(19,.int .i64 s1.2.2.2.2.2.2.2.2),(20,.int .i64 v17)]) (fun(gj4:Nat) (j4:(List w7))=>st++[none,some (.arr 0 2 0 [[.int .i64 v2.2.code,.int .i64 v2.2.index]]),some (.arr 0 5 0 [[.int .i64 v3.1.from_,.int .i64 v3.1.to_,.int .i64 v3.1.level,.int .i64 v3.1.rule,.int .i64 v3.1.lex]]),some (.arr 0 2 0 [[.int .i64 v3.2.2.code,.int .i64 v3.2.2.index]]),none,some (.arr gj4 6 48 (rows w7.cells j4)),some (.arr 0 5 0 [[.int .i64 s1.1,.int .i64 s1.2.1,.int .i64 s1.2.2.1,.int .i64 s1.2.2.2.1,.int .i64 s1.2.2.2.2.1]])]) (fun gj4 j4 fr1 st1 h hb=>?_) (fun hj4=>?_)
      ·try simp only[go_sem,fx]
       unfold D4 at h
       refine R4 hb ?_
       refine cd h (fun hc h=>?_) fun hc h=>?_
       ·refine rn ?_
        cases h
        exact F5 gj4 (bm hsc)
       ·refine rn ?_
        refine iI (E1 s1 v5 j4) b1 (fun(gj5:Unit) (j5:Int)=>[(1,.sl false 3 40 (rows w8.cells a1)),(7,.sl false 6 48 (rows w7.cells v2.1)),(8,.ptr (st.length+1) 0 0 0),(9,.ptr (st.length+2) 0 0 0),(10,.bool v3.2.1),(11,.ptr (st.length+3) 0 0 0),(13,.sl false 5 40 (rows w5.cells v5)),(14,.sl false 1 8 (rows Z4 v6)),(15,.ref false (st.length+5) gj4 0 j4.length),(16,.ptr (st.length+6) 0 0 0),(17,.int .i64 s1.2.2.2.2.2.2.1),(18,.bool s1.2.2.2.2.2.2.2.1),(19,.int .i64 s1.2.2.2.2.2.2.2.2),(21,.int .i64 j5)]) (fun(gj5:Unit) (j5:Int)=>st++[none,some (.arr 0 2 0 [[.int .i64 v2.2.code,.int .i64 v2.2.index]]),some (.arr 0 5 0 [[.int .i64 v3.1.from_,.int .i64 v3.1.to_,.int .i64 v3.1.level,.int .i64 v3.1.rule,.int .i64 v3.1.lex]]),some (.arr 0 2 0 [[.int .i64 v3.2.2.code,.int .i64 v3.2.2.index]]),none,some (.arr gj4 6 48 (rows w7.cells j4)),some (.arr 0 5 0 [[.int .i64 s1.1,.int .i64 s1.2.1,.int .i64 s1.2.2.1,.int .i64 s1.2.2.2.1,.int .i64 s1.2.2.2.2.1]])]) (fun gj5 j5 fr1 st1 h hb=>?_) (fun hj5=>?_)
        ·try simp only[go_sem,fx]
         unfold E1 at h
         refine R4 hb ?_
         refine cd h (fun hc h=>?_) fun hc h=>?_
         ·refine rn ?_
          cases h
          exact F5 gj4 (bm hsc)
         ·refine rn ?_
          cases h
          exact F5 gj4 (bm hsc)
        ·refine cd h (fun hc h=>?_) fun hc h=>?_
         ·refine r0 ?_
          refine hj5 () _ _ _ h ?_;exact(bm hsc)
         ·refine r0 ?_
          refine hj5 () _ _ _ h ?_;exact(bm hsc)
      ·refine cd h (fun hc h=>?_) fun hc h=>?_
       ·obtain⟨c19,Vf,h⟩:=oz h
        have fy:=(show rows w7.cells s1.2.2.2.2.2.1++[[.int .i64 ((get v5 s1.2.2.2.2.2.2.2.2.toNat).from_),.int .i64 ((get v5 s1.2.2.2.2.2.2.2.2.toNat).to_),.int .i64 ((get v5 s1.2.2.2.2.2.2.2.2.toNat).level),.int .i64 ((get v5 s1.2.2.2.2.2.2.2.2.toNat).rule),.int .i64 ((get v5 s1.2.2.2.2.2.2.2.2.toNat).lex),.bool (decide (0<v17))]]=rows w7.cells c19 from by rw[Vf];first|exact U8 (E:=w7.cells) s1.2.2.2.2.2.1 [(w7.mk (get v5 s1.2.2.2.2.2.2.2.2.toNat) (decide (0<v17)))]|simp only[go_sem,rows,List.map_append,List.map_cons,List.map_nil])
        have fy:=fa fy (show s1.2.2.2.2.2.1.length+1=c19.length from by rw[Vf];simp)
        obtain⟨fx,h⟩:=ck fx h
        refine r1 ?_
        refine hj4 (gs1+1) _ _ _ h ?_;exact(bm hsc)
       ·refine r0 ?_
        refine hj4 gs1 _ _ _ h ?_;exact(bm hsc)
     ·refine rn ?_
      cases h
      exact K7 gs1 (bm hsc)
    ·try simp only[go_sem,fx]
     unfold G6 at h
     refine R4 hb ?_
     refine cd h (fun hc h=>?_) fun hc h=>?_
     ·exact rt
     ·refine rn ?_
      refine E8 (body:=E3 v2 t1) (kk:=L7) (n:=n) (s0:=0)
       (fun(gs6:Unit) (s6:Int)=>[(7,.sl false 6 48 (rows w7.cells v2.1)),(15,.ref false (st.length+5) gt1 0 t1.2.2.2.2.2.1.length),(22,.int .i64 s6)])
       (fun(gs6:Unit) (s6:Int)=>st++[none,none,none,none,none,some (.arr gt1 6 48 (rows w7.cells t1.2.2.2.2.2.1))])
       (fun(gt6:Unit) (t6:Unit)=>[])
       (fun(gt6:Unit) (t6:Unit)=>st)
       () h (bm hsc)
       (fun gs6 s6 b6 h hx6=>?_) (fun gt6 t6 fr1 st1 h hb=>?_)
      ·unfold E3 at h
       refine cd h (fun hc h=>?_) fun hc h=>?_
       ·refine rn ?_
        obtain⟨fx,h⟩:=ck fx h
        obtain⟨fx,h⟩:=ck fx h
        have fy:=(show(rows w7.cells t1.2.2.2.2.2.1).getD s6.toNat []=w7.cells (get t1.2.2.2.2.2.1 s6.toNat)from qg (E:=w7.cells) (l:=t1.2.2.2.2.2.1) (k:=s6.toNat) (by first|omega|(simp;omega)))
        have fy:=fa fy (show s6.toNat<t1.2.2.2.2.2.1.length from by first|omega|(simp;omega))
        refine dwy [] 0 ?_
        refine cd h (fun hc h=>?_) fun hc h=>?_
        ·refine ra ?_
         cases h
         refine aP ?_;have h:=congrArg some (hx6 _ rfl)
         exact rt
        ·refine rn ?_
         cases h
         exact F5 () (bm hsc)
       ·refine rn ?_
        cases h
        exact K7 () (bm0 hsc)
      ·try simp only[go_sem,fx]
       unfold L7 at h
       refine R4 hb ?_
       exact rt
  ·refine cd h (fun hc h=>?_) fun hc h=>?_
   ·refine r0 ?_
    refine hj0 () _ _ _ h ?_;exact(bm hsc)
   ·refine r0 ?_
    refine hj0 () _ _ _ h ?_;exact(bm hsc)
end Go.Proofs.YtfogbhjeihkliaaGreatDoor
