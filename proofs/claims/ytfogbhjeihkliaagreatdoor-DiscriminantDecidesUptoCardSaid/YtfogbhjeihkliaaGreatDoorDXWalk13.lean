import Derived.Test.YtfogbhjeihkliaaGreatDoorDXWalk12
set_option linter.unusedVariables false
set_option linter.unusedSimpArgs false
set_option maxHeartbeats 2000000
set_option maxRecDepth 100000
namespace Go.Proofs.YtfogbhjeihkliaaGreatDoor
open Go Go.Am
theorem qb(O2:(w8)→(w8)→Option (Bool))(oZ:∀(a0:w8) (a1:w8) (r:Bool) (h:O2 a0 a1=some r),Pure Tryz.prog gl 17 [.agg [.int .i64 a0.rule,.int .i64 a0.lex,.sl false 3 40 (rows w8.cells a0.kids)],.agg [.int .i64 a1.rule,.int .i64 a1.lex,.sl false 3 40 (rows w8.cells a1.kids)]] (.bool r))(a0:(List w8))(a1:(List w8))(r:Bool)(h:eT O2 a0 a1=some r):Pure Tryz.prog gl 36 [.sl false 3 40 (rows w8.cells a0),.sl false 3 40 (rows w8.cells a1)] (.bool r):=by
 intro st
 unfold eT at h
 have fx:=trivial
 refine fb 27 [.tmp 4] [0,1,4,5,10,12,13,14,25] Tryz.func36 fun hsc=>?_
 refine cd h (fun hc h=>?_) fun hc h=>?_
 ·exact rt
 ·refine aln 0 fun hl0=>?_
  refine rng (body:=S5 O2 a1 a0) (kk:=bV) (n:=a0.length) (s0:=())
   (fun(gs0:Unit) (k0:Nat) (s0:Unit)=>[(0,.sl false 3 40 (rows w8.cells a0)),(1,.sl false 3 40 (rows w8.cells a1)),(12,.int .i64 (↑a0.length:Int)),(13,.int .i64 (↑k0:Int))])
   (fun(gs0:Unit) (k0:Nat) (s0:Unit)=>st)
   (fun(gt0:Unit) (t0:Unit)=>[])
   (fun(gt0:Unit) (t0:Unit)=>st)
   () fx hl0 h (gX hsc)
   (fun gs0 k0 s0 b0 fx h hx0=>?_) (fun gs0 s0=>?_) (fun gt0 t0 fr1 st1 h hb=>?_)
  ·unfold S5 at h
   refine ct ?_
   refine rn ?_
   obtain⟨fx,h⟩:=ck fx h
   refine dw [] 0 ?_
   obtain⟨v2,hv2,h⟩:=F9 h
   refine A9 (oZ _ _ _ hv2) ?_
   try simp only[go_sem,fx]
   refine cd h (fun hc h=>?_) fun hc h=>?_
   ·refine ra ?_
    cases h
    refine F4 ?_;have h:=congrArg some (hx0 _ rfl)
    exact rt
   ·refine rn ?_
    cases h
    exact gW () (gX hsc)
  ·refine cf ?_
   refine gV ?_;simp only[go_sem,fx]
   exact⟨(),(gX hsc)⟩
  ·try simp only[go_sem,fx]
   unfold bV at h
   refine R4 hb ?_
   exact rt
theorem kU:∀(n:Nat) (a0:w8) (a1:w8) (r:Bool) (h:I8 n a0 a1=some r),Pure Tryz.prog gl 17 [.agg [.int .i64 a0.rule,.int .i64 a0.lex,.sl false 3 40 (rows w8.cells a0.kids)],.agg [.int .i64 a1.rule,.int .i64 a1.lex,.sl false 3 40 (rows w8.cells a1.kids)]] (.bool r):=by
 intro n
 induction n with
 |zero=>intro a0 a1 r h;cases h
 |succ n ih=>
  intro a0 a1 r h st
  unfold I8 at h
  have fx:=trivial
  refine fb 24 [.tmp 4] [0,1,2,3,4,11,12,13,14,15,18,19,20,21,22] Tryz.func17 fun hsc=>?_
  refine rn ?_
  obtain⟨v1,hv1,h⟩:=F9 h
  refine kG (fun hG=>(qb (I8 n) ih _ _ _ (tO hv1 (by simpa using hG)))) ?_
  exact rt
theorem iM(n:Nat)(a0:x5)(a1:(List w8))(a2:Int)(r:Bool)(h:O8 n a0 a1 a2=some r):Pure Tryz.prog gl 6 [.agg [.sl false 2 40 (rows x7.cells a0.hierarchy.types),.sl false 3 32 (rows y8.cells a0.hierarchy.C1),.sl false 10 152 (rows x6.cells a0.rules),.sl false 9 144 (rows C5.cells a0.I7),.sl false 2 32 (rows y4.cells a0.start.nodes)],.sl false 3 40 (rows w8.cells a1),.int .i64 a2] (.bool r):=by
 intro st
 unfold O8 at h
 have fx:=trivial
 refine qp ?_;refine fb 96 [.tmp 6] [0,1,2,3,6,7,8,9,10,11,12,13,14,15,17,21,22,23,24,25,30,43,45,57,58,59,60,61,66,77] Tryz.func6 fun hsc=>?_
 refine rn ?_
 obtain⟨v1,hv1,h⟩:=F9 h
 refine(W6 (G7 n _ hv1)).to ?_
 refine cd h (fun hc h=>?_) fun hc h=>?_
 ·exact rt
 ·refine cd h (fun hc h=>?_) fun hc h=>?_
  ·exact rt
  ·refine rn ?_
   refine E8 (body:=D2 n a1 a0 a2) (kk:=T5) (n:=n) (s0:=([],0))
    (fun(gs0:Nat) (s0:(List w7)×Int)=>[(1,.sl false 3 40 (rows w8.cells a1)),(2,.int .i64 a2),(3,.ptr st.length 0 0 0),(7,.ref false (st.length+1) gs0 0 s0.1.length),(8,.int .i64 s0.2)])
    (fun(gs0:Nat) (s0:(List w7)×Int)=>st++[some (.arr 0 5 0 [[.sl false 2 40 (rows x7.cells a0.hierarchy.types),.sl false 3 32 (rows y8.cells a0.hierarchy.C1),.sl false 10 152 (rows x6.cells a0.rules),.sl false 9 144 (rows C5.cells a0.I7),.sl false 2 32 (rows y4.cells a0.start.nodes)]]),some (.arr gs0 6 48 (rows w7.cells s0.1))])
    (fun(gt0:Unit) (t0:Unit)=>[])
    (fun(gt0:Unit) (t0:Unit)=>st)
    0 h (bm hsc)
    (fun gs0 s0 b0 h hx0=>?_) (fun gt0 t0 fr1 st1 h hb=>?_)
   ·unfold D2 at h
    refine cd h (fun hc h=>?_) fun hc h=>?_
    ·refine rn ?_
     obtain⟨v90,hv90,h⟩:=F9 h
     refine tV ?_;refine((om n _ _ _ _ hv90).borrow (args:=[.agg [.sl false 2 40 (rows x7.cells a0.hierarchy.types),.sl false 3 32 (rows y8.cells a0.hierarchy.C1),.sl false 10 152 (rows x6.cells a0.rules),.sl false 9 144 (rows C5.cells a0.I7),.sl false 2 32 (rows y4.cells a0.start.nodes)],.sl false 3 40 (rows w8.cells a1),.ref false (st.length+1) gs0 0 s0.1.length]) (.cons _ _ _ _ .s (.cons _ _ _ _ .s (.cons _ _ _ _ (.ref _ _ _ _ _ _ _ _ _ (pL.trans rfl) tS (by decide) (ru _) (by simp only[go_sem])) .nil))) (by simp) rfl ) ?_
     refine cd h (fun hc h=>?_) fun hc h=>?_
     ·refine ra ?_
      cases h
      refine aP ?_;have h:=congrArg some (hx0 _ rfl)
      exact rt
     ·refine cd h (fun hc h=>?_) fun hc h=>?_
      ·refine rn ?_
       obtain⟨v91,hv91,h⟩:=F9 h
       refine tV ?_;refine((S7 n _ _ _ _ hv91).freeze (st:=st++[some (.arr 0 5 0 [[.sl false 2 40 (rows x7.cells a0.hierarchy.types),.sl false 3 32 (rows y8.cells a0.hierarchy.C1),.sl false 10 152 (rows x6.cells a0.rules),.sl false 9 144 (rows C5.cells a0.I7),.sl false 2 32 (rows y4.cells a0.start.nodes)]]),some (.arr gs0 6 48 (rows w7.cells s0.1)),some (.arr 0 5 0 [[.int .i64 v90.1.from_,.int .i64 v90.1.to_,.int .i64 v90.1.level,.int .i64 v90.1.rule,.int .i64 v90.1.lex]]),some (.arr 0 2 0 [[.int .i64 v90.2.2.code,.int .i64 v90.2.2.index]])]) (args:=[.agg [.sl false 2 40 (rows x7.cells a0.hierarchy.types),.sl false 3 32 (rows y8.cells a0.hierarchy.C1),.sl false 10 152 (rows x6.cells a0.rules),.sl false 9 144 (rows C5.cells a0.I7),.sl false 2 32 (rows y4.cells a0.start.nodes)],.sl false 3 40 (rows w8.cells a1),.ref false (st.length+1) gs0 0 s0.1.length]) (T:=st++[some (.arr 0 5 0 [[.sl false 2 40 (rows x7.cells a0.hierarchy.types),.sl false 3 32 (rows y8.cells a0.hierarchy.C1),.sl false 10 152 (rows x6.cells a0.rules),.sl false 9 144 (rows C5.cells a0.I7),.sl false 2 32 (rows y4.cells a0.start.nodes)]]),none,some (.arr 0 5 0 [[.int .i64 v90.1.from_,.int .i64 v90.1.to_,.int .i64 v90.1.level,.int .i64 v90.1.rule,.int .i64 v90.1.lex]]),some (.arr 0 2 0 [[.int .i64 v90.2.2.code,.int .i64 v90.2.2.index]])]) (IU hsc (.lv (.dead _ _ _ (.lv (.lv (.nil _))))) (by simp)) (by simp) (.cons _ _ _ _ .s (.cons _ _ _ _ .s (.cons _ _ _ _ (.ref _ _ _ _ _ _ _ _ _ (pL.trans rfl) (cW.trans rfl) (by decide) (ru _) (by simp only[go_sem])) .nil))) (by simp) ?_)
       refine cd h (fun hc h=>?_) fun hc h=>?_
       ·refine ra ?_
        cases h
        refine aP ?_;have h:=congrArg some (hx0 _ rfl)
        exact rt
       ·refine rn ?_
        refine E8 (body:=G0 n a1 a2) (kk:=L6 n v91) (n:=n) (s0:=([],0))
         (fun(gs3:Nat) (s3:(List Int)×Int)=>[(1,.sl false 3 40 (rows w8.cells a1)),(2,.int .i64 a2),(12,.sl false 1 8 (rows Z4 v91.1)),(14,.ref false (st.length+5) gs3 0 s3.1.length),(15,.int .i64 s3.2)])
         (fun(gs3:Nat) (s3:(List Int)×Int)=>st++[none,none,none,none,none,some (.arr gs3 1 8 (rows Z4 s3.1))])
         (fun(gt3:Nat) (t3:(List Int))=>[(12,.sl false 1 8 (rows Z4 v91.1)),(14,.ref false (st.length+5) gt3 0 t3.length)])
         (fun(gt3:Nat) (t3:(List Int))=>st++[none,none,none,none,none,some (.arr gt3 1 8 (rows Z4 t3))])
         0 h (bm hsc)
         (fun gs3 s3 b3 h hx3=>?_) (fun gt3 t3 fr1 st1 h hb=>?_)
        ·unfold G0 at h
         refine cd h (fun hc h=>?_) fun hc h=>?_
         ·refine rn ?_
          obtain⟨fx,h⟩:=ck fx h
          obtain⟨fx,h⟩:=ck fx h
          refine dw [] 0 ?_
          obtain⟨v117,hv117,h⟩:=F9 h
          refine A9 (W6 (kU n _ _ _ hv117)) ?_
          try simp only[go_sem,fx]
          refine cd h (fun hc h=>?_) fun hc h=>?_
          ·obtain⟨c119,RV,h⟩:=oz h
           have fy:=(show rows Z4 s3.1++[[.int .i64 s3.2]]=rows Z4 c119 from by rw[RV];first|exact U8 (E:=Z4) s3.1 [s3.2]|simp only[go_sem,rows,List.map_append,List.map_cons,List.map_nil])
           have fy:=fa fy (show s3.1.length+1=c119.length from by rw[RV];simp)
           obtain⟨fx,h⟩:=ck fx h
           refine r1 ?_
           refine rn ?_
           cases h
           exact F5 (gs3+1) (bm hsc)
          ·refine rn ?_
           cases h
           exact F5 gs3 (bm hsc)
         ·refine rn ?_
          cases h
          exact K7 gs3 (bm hsc)
        ·try simp only[go_sem,fx]
         unfold L6 at h
         refine R4 hb ?_
         refine rn ?_
         obtain⟨v124,hv124,h⟩:=F9 h
         refine tV ?_;refine((U6 n _ _ _ hv124).borrow (args:=[.sl false 1 8 (rows Z4 v91.1),.ref false (st.length+5) gt3 0 t3.length]) (.cons _ _ _ _ .s (.cons _ _ _ _ (.ref _ _ _ _ _ _ _ _ _ (pL.trans rfl) tS (by decide) (ru _) (by simp only[go_sem])) .nil)) (by simp) rfl ) ?_
         refine ra ?_
         cases h
         refine aP ?_;have h:=congrArg some (hx0 _ rfl)
         exact rt
      ·refine rn ?_
       obtain⟨fx,h⟩:=ck fx h
       refine dw [] 2 ?_
       obtain⟨v127,hv127,h⟩:=F9 h
       refine A9 (W6 (bC n _ _ _ hv127)) ?_
       obtain⟨c129,RW,h⟩:=oz h
       have fy:=(show rows w7.cells s0.1++[[.int .i64 v90.1.from_,.int .i64 v90.1.to_,.int .i64 v90.1.level,.int .i64 v90.1.rule,.int .i64 v90.1.lex,.bool v127]]=rows w7.cells c129 from by rw[RW];first|exact U8 (E:=w7.cells) s0.1 [(w7.mk v90.1 v127)]|simp only[go_sem,rows,List.map_append,List.map_cons,List.map_nil])
       have fy:=fa fy (show s0.1.length+1=c129.length from by rw[RW];simp)
       obtain⟨fx,h⟩:=ck fx h
       try simp only[go_sem,fx,fy]
       refine rn ?_
       cases h
       exact F5 (gs0+1) (bm hsc)
    ·refine rn ?_
     cases h
     exact K7 () (bm0 hsc)
   ·try simp only[go_sem,fx]
    unfold T5 at h
    refine R4 hb ?_
    exact rt
theorem lx(n:Nat)(a0:x5)(a1:(List w8))(a2:(List w7))(r:(List w7)×w9)(h:bn n a0 a1 a2=some r):Pure Tryz.prog gl 20 [.agg [.sl false 2 40 (rows x7.cells a0.hierarchy.types),.sl false 3 32 (rows y8.cells a0.hierarchy.C1),.sl false 10 152 (rows x6.cells a0.rules),.sl false 9 144 (rows C5.cells a0.I7),.sl false 2 32 (rows y4.cells a0.start.nodes)],.sl false 3 40 (rows w8.cells a1),.sl false 6 48 (rows w7.cells a2)] (.tup [.sl false 6 48 (rows w7.cells r.1),.agg [.int .i64 r.2.code,.int .i64 r.2.index]]):=by
 intro st
 unfold bn at h
 have fx:=trivial
 refine fb 75 [.tmp 6,.cell 7 37] [0,1,2,3,6,7,8,9,10,11,13,14,16,23,32,35,36,37,38,41,42,43,44,53,60,61,62,63,64] Tryz.func20 fun hsc=>?_
 refine cl h (jY n _ _ _) fun v1 h=>?_
 refine cd h (fun hc h=>?_) fun hc h=>?_
 ·refine rs ?_
  refine dw [] 0 ?_
  refine rr ?_
  exact fo (.tup [.sl false 6 48 (rows w7.cells []),.agg [.int .i64 v1.code,.int .i64 v1.index]]) (.tup _ _ (.cons _ _ _ _ (.F6 _ _ _ (by decide)) (.cons _ _ _ _ .s .nil)) rfl) h hsc
 ·refine cl h (dB n _) fun v2 h=>?_
  refine cl h (eC n _ _) fun v3 h=>?_
  refine cd h (fun hc h=>?_) fun hc h=>?_
  ·refine rr ?_
   exact fo (.tup [.sl false 6 48 (rows w7.cells []),.agg [.int .i64 0,.int .i64 0]]) (.tup _ _ (.cons _ _ _ _ (.F6 _ _ _ (by decide)) (.cons _ _ _ _ .s .nil)) rfl) h hsc
  ·refine cl h (fG n _) fun v4 h=>?_
   try simp only[go_sem,fx]
   (repeat apply sq_)
   refine oI 6 48 ?_
   try simp only[List.append_assoc,List.cons_append,List.nil_append]
   refine R4 (F:=[(7,.ptr (st.length+1) 0 0 0),(9,.sl false 1 24 (rows (slc 5 40 w5.cells) v2)),(10,.sl false 1 8 (rows Z4 v3)),(11,.ref false (st.length+3) 0 0 0),(35,.sl false 5 40 (rows w5.cells v4)),(36,.int .i64 (↑v4.length:Int)),(37,.int .i64 0)]) (T:=st++[some (.arr 0 5 0 [[.sl false 2 40 (rows x7.cells a0.hierarchy.types),.sl false 3 32 (rows y8.cells a0.hierarchy.C1),.sl false 10 152 (rows x6.cells a0.rules),.sl false 9 144 (rows C5.cells a0.I7),.sl false 2 32 (rows y4.cells a0.start.nodes)]]),some (.arr 0 2 0 [[.int .i64 0,.int .i64 0]]),some (.arr 0 2 0 [[.int .i64 v1.code,.int .i64 v1.index]]),some (.arr 0 6 48 (rows w7.cells []))]) (Af hsc (.lv (.lv (.lv (.lv (.nil _))))) (by simp) ⟨.s,.s,.s,.nref _ _ _ _ _ _ (pL.trans rfl),.s,.s,.s,trivial⟩ (by simp)) ?_
   refine aln 35 fun hl0=>?_
   refine rng (body:=aX n v3 v2 v4) (kk:=dQ) (n:=v4.length) (s0:=[])
    (fun(gs0:Nat) (k0:Nat) (s0:(List w7))=>[(7,.ptr (st.length+1) 0 0 0),(9,.sl false 1 24 (rows (slc 5 40 w5.cells) v2)),(10,.sl false 1 8 (rows Z4 v3)),(11,.ref false (st.length+3) gs0 0 s0.length),(35,.sl false 5 40 (rows w5.cells v4)),(36,.int .i64 (↑v4.length:Int)),(37,.int .i64 (↑k0:Int))])
    (fun(gs0:Nat) (k0:Nat) (s0:(List w7))=>st++[none,some (.arr 0 2 0 [[.int .i64 0,.int .i64 0]]),none,some (.arr gs0 6 48 (rows w7.cells s0))])
    (fun(gt0:Nat) (t0:(List w7))=>[(7,.ptr (st.length+1) 0 0 0),(11,.ref false (st.length+3) gt0 0 t0.length)])
    (fun(gt0:Nat) (t0:(List w7))=>st++[none,some (.arr 0 2 0 [[.int .i64 0,.int .i64 0]]),none,some (.arr gt0 6 48 (rows w7.cells t0))])
    0 fx hl0 h (bm hsc)
    (fun gs0 k0 s0 b0 fx h hx0=>?_) (fun gs0 s0=>?_) (fun gt0 t0 fr1 st1 h hb=>?_)
   ·unfold aX at h
    refine ct ?_
    refine aln 10 fun hl2=>?_
    refine rng (body:=R7 n v3 v2 v4 k0) (kk:=dP v3 s0 v4 k0) (n:=v3.length) (s0:=0)
     (fun(gs2:Unit) (k2:Nat) (s2:Int)=>[(7,.ptr (st.length+1) 0 0 0),(9,.sl false 1 24 (rows (slc 5 40 w5.cells) v2)),(10,.sl false 1 8 (rows Z4 v3)),(11,.ref false (st.length+3) gs0 0 s0.length),(13,.ptr (st.length+4) 0 0 0),(14,.int .i64 s2),(35,.sl false 5 40 (rows w5.cells v4)),(36,.int .i64 (↑v4.length:Int)),(37,.int .i64 (↑k0:Int)),(41,.sl false 1 8 (rows Z4 v3)),(42,.int .i64 (↑v3.length:Int)),(43,.int .i64 (↑k2:Int))])
     (fun(gs2:Unit) (k2:Nat) (s2:Int)=>st++[none,some (.arr 0 2 0 [[.int .i64 0,.int .i64 0]]),none,some (.arr gs0 6 48 (rows w7.cells s0)),some (.arr 0 5 0 [[.int .i64 ((get v4 k0).from_),.int .i64 ((get v4 k0).to_),.int .i64 ((get v4 k0).level),.int .i64 ((get v4 k0).rule),.int .i64 ((get v4 k0).lex)]])])
     (fun(gt2:Unit) (t2:Int)=>[(7,.ptr (st.length+1) 0 0 0),(9,.sl false 1 24 (rows (slc 5 40 w5.cells) v2)),(10,.sl false 1 8 (rows Z4 v3)),(11,.ref false (st.length+3) gs0 0 s0.length),(13,.ptr (st.length+4) 0 0 0),(14,.int .i64 t2),(35,.sl false 5 40 (rows w5.cells v4)),(36,.int .i64 (↑v4.length:Int)),(37,.int .i64 (↑k0:Int))])
     (fun(gt2:Unit) (t2:Int)=>st++[none,some (.arr 0 2 0 [[.int .i64 0,.int .i64 0]]),none,some (.arr gs0 6 48 (rows w7.cells s0)),some (.arr 0 5 0 [[.int .i64 ((get v4 k0).from_),.int .i64 ((get v4 k0).to_),.int .i64 ((get v4 k0).level),.int .i64 ((get v4 k0).rule),.int .i64 ((get v4 k0).lex)]])])
     () fx hl2 h (bm hsc)
     (fun gs2 k2 s2 b2 fx h hx2=>?_) (fun gs2 s2=>?_) (fun gt2 t2 fr1 st1 h hb=>?_)
    ·unfold R7 at h
     refine ct ?_
     refine rn ?_
     obtain⟨fx,h⟩:=ck fx h
     refine dw [] 0 ?_
     obtain⟨v22,hv22,h⟩:=F9 h
     refine A9 (eX n _ _ _ hv22) ?_
     try simp only[go_sem,fx]
     refine cd h (fun hc h=>?_) fun hc h=>?_
     ·refine rn ?_
      cases h
      exact gW () (bm hsc)
     ·refine rn ?_
      cases h
      exact gW () (bm hsc)
    ·refine cf ?_
     refine gV ?_;simp only[go_sem,fx]
     exact⟨(),(bm hsc)⟩
    ·try simp only[go_sem,fx]
     unfold dP at h
     refine R4 hb ?_
     refine cd h (fun hc h=>?_) fun hc h=>?_
     ·obtain⟨c24,Vb,h⟩:=oz h
      have fy:=(show rows w7.cells s0++[[.int .i64 ((get v4 k0).from_),.int .i64 ((get v4 k0).to_),.int .i64 ((get v4 k0).level),.int .i64 ((get v4 k0).rule),.int .i64 ((get v4 k0).lex),.bool (decide (0<t2))]]=rows w7.cells c24 from by rw[Vb];first|exact U8 (E:=w7.cells) s0 [(w7.mk (get v4 k0) (decide (0<t2)))]|simp only[go_sem,rows,List.map_append,List.map_cons,List.map_nil])
      have fy:=fa fy (show s0.length+1=c24.length from by rw[Vb];simp)
      obtain⟨fx,h⟩:=ck fx h
      refine r1 ?_
      refine rn ?_
      cases h
      exact gW (gs0+1) (bm hsc)
     ·refine rn ?_
      cases h
      exact gW gs0 (bm hsc)
   ·refine cf ?_
    refine gV ?_;simp only[go_sem,fx]
    exact⟨gs0,(bm hsc)⟩
   ·try simp only[go_sem,fx]
    unfold dQ at h
    refine R4 hb ?_
    refine rr ?_
    exact fo (.tup [.sl false 6 48 (rows w7.cells t0),.agg [.int .i64 0,.int .i64 0]]) (.tup _ _ (.cons _ _ _ _ (.ref _ _ _ _ _ _ _ _ _ (pL.trans rfl) zq (by decide) (ru _) (by simp only[go_sem])) (.cons _ _ _ _ .s .nil)) rfl) h hsc
theorem gy(n:Nat)(a0:x5)(a1:(List w8))(a2:(List w7))(r:Bool)(h:L5 n a0 a1 a2=some r):Pure Tryz.prog gl 7 [.agg [.sl false 2 40 (rows x7.cells a0.hierarchy.types),.sl false 3 32 (rows y8.cells a0.hierarchy.C1),.sl false 10 152 (rows x6.cells a0.rules),.sl false 9 144 (rows C5.cells a0.I7),.sl false 2 32 (rows y4.cells a0.start.nodes)],.sl false 3 40 (rows w8.cells a1),.sl false 6 48 (rows w7.cells a2)] (.bool r):=by
 intro st
 unfold L5 at h
 have fx:=trivial
 refine qp ?_;refine fb 90 [.tmp 6] [0,1,2,3,6,7,8,9,10,11,12,13,14,15,17,29,30,31,32,33,34,35,40,53,81,82,83,86,87,88] Tryz.func7 fun hsc=>?_
 refine rn ?_
 obtain⟨v1,hv1,h⟩:=F9 h
 refine(W6 (G7 n _ hv1)).to ?_
 refine cd h (fun hc h=>?_) fun hc h=>?_
 ·exact rt
 ·refine rn ?_
  obtain⟨v2,hv2,h⟩:=F9 h
  refine(W6 (lx n _ _ _ _ hv2)).to ?_
  refine cd h (fun hc h=>?_) fun hc h=>?_
  ·exact rt
  ·refine rn ?_
   refine E8 (body:=E4 a2) (kk:=J7 n v2 a0 a1 a2) (n:=n) (s0:=([],0))
    (fun(gs0:Nat) (s0:(List w7)×Int)=>[(1,.sl false 3 40 (rows w8.cells a1)),(2,.sl false 6 48 (rows w7.cells a2)),(3,.ptr st.length 0 0 0),(7,.sl false 6 48 (rows w7.cells v2.1)),(9,.ref false (st.length+2) gs0 0 s0.1.length),(10,.int .i64 s0.2)])
    (fun(gs0:Nat) (s0:(List w7)×Int)=>st++[some (.arr 0 5 0 [[.sl false 2 40 (rows x7.cells a0.hierarchy.types),.sl false 3 32 (rows y8.cells a0.hierarchy.C1),.sl false 10 152 (rows x6.cells a0.rules),.sl false 9 144 (rows C5.cells a0.I7),.sl false 2 32 (rows y4.cells a0.start.nodes)]]),none,some (.arr gs0 6 48 (rows w7.cells s0.1))])
    (fun(gt0:Nat) (t0:(List w7))=>[(1,.sl false 3 40 (rows w8.cells a1)),(2,.sl false 6 48 (rows w7.cells a2)),(3,.ptr st.length 0 0 0),(7,.sl false 6 48 (rows w7.cells v2.1)),(9,.ref false (st.length+2) gt0 0 t0.length)])
    (fun(gt0:Nat) (t0:(List w7))=>st++[some (.arr 0 5 0 [[.sl false 2 40 (rows x7.cells a0.hierarchy.types),.sl false 3 32 (rows y8.cells a0.hierarchy.C1),.sl false 10 152 (rows x6.cells a0.rules),.sl false 9 144 (rows C5.cells a0.I7),.sl false 2 32 (rows y4.cells a0.start.nodes)]]),none,some (.arr gt0 6 48 (rows w7.cells t0))])
    0 h (bm hsc)
    (fun gs0 s0 b0 h hx0=>?_) (fun gt0 t0 fr1 st1 h hb=>?_)
   ·unfold E4 at h
    refine cd h (fun hc h=>?_) fun hc h=>?_
    ·refine r0 ?_
     refine r0 ?_
     obtain⟨fx,h⟩:=ck fx h
     obtain⟨c21,Vc,h⟩:=oz h
     have fy:=(show rows w7.cells s0.1++[[.int .i64 ((get a2 s0.2.toNat).what.from_),.int .i64 ((get a2 s0.2.toNat).what.to_),.int .i64 ((get a2 s0.2.toNat).what.level),.int .i64 ((get a2 s0.2.toNat).what.rule),.int .i64 ((get a2 s0.2.toNat).what.lex),.bool ((get a2 s0.2.toNat).yes)]]=rows w7.cells c21 from by rw[Vc];first|exact U8 (E:=w7.cells) s0.1 [(get a2 s0.2.toNat)]|simp only[go_sem,rows,List.map_append,List.map_cons,List.map_nil])
     have fy:=fa fy (show s0.1.length+1=c21.length from by rw[Vc];simp)
     obtain⟨fx,h⟩:=ck fx h
     refine r1 ?_
     refine rn ?_
     cases h
     exact F5 (gs0+1) (bm hsc)
    ·refine rn ?_
     cases h
     exact K7 gs0 (bm hsc)
   ·try simp only[go_sem,fx]
    unfold J7 at h
    refine R4 hb ?_
    refine rn ?_
    refine E8 (body:=E5 v2) (kk:=J8 n a0 a1 a2) (n:=n) (s0:=(t0,0))
     (fun(gs1:Nat) (s1:(List w7)×Int)=>[(1,.sl false 3 40 (rows w8.cells a1)),(2,.sl false 6 48 (rows w7.cells a2)),(3,.ptr st.length 0 0 0),(7,.sl false 6 48 (rows w7.cells v2.1)),(9,.ref false (st.length+2) gs1 0 s1.1.length),(11,.int .i64 s1.2)])
     (fun(gs1:Nat) (s1:(List w7)×Int)=>st++[some (.arr 0 5 0 [[.sl false 2 40 (rows x7.cells a0.hierarchy.types),.sl false 3 32 (rows y8.cells a0.hierarchy.C1),.sl false 10 152 (rows x6.cells a0.rules),.sl false 9 144 (rows C5.cells a0.I7),.sl false 2 32 (rows y4.cells a0.start.nodes)]]),none,some (.arr gs1 6 48 (rows w7.cells s1.1))])
     (fun(gt1:Nat) (t1:(List w7))=>[(1,.sl false 3 40 (rows w8.cells a1)),(2,.sl false 6 48 (rows w7.cells a2)),(3,.ptr st.length 0 0 0),(9,.ref false (st.length+2) gt1 0 t1.length)])
     (fun(gt1:Nat) (t1:(List w7))=>st++[some (.arr 0 5 0 [[.sl false 2 40 (rows x7.cells a0.hierarchy.types),.sl false 3 32 (rows y8.cells a0.hierarchy.C1),.sl false 10 152 (rows x6.cells a0.rules),.sl false 9 144 (rows C5.cells a0.I7),.sl false 2 32 (rows y4.cells a0.start.nodes)]]),none,some (.arr gt1 6 48 (rows w7.cells t1))])
     gt0 h (bm hsc)
     (fun gs1 s1 b1 h hx1=>?_) (fun gt1 t1 fr1 st1 h hb=>?_)
    ·unfold E5 at h
     refine cd h (fun hc h=>?_) fun hc h=>?_
     ·refine r0 ?_
      refine r0 ?_
      obtain⟨fx,h⟩:=ck fx h
      obtain⟨c36,Vd,h⟩:=oz h
      have fy:=(show rows w7.cells s1.1++[[.int .i64 ((get v2.1 s1.2.toNat).what.from_),.int .i64 ((get v2.1 s1.2.toNat).what.to_),.int .i64 ((get v2.1 s1.2.toNat).what.level),.int .i64 ((get v2.1 s1.2.toNat).what.rule),.int .i64 ((get v2.1 s1.2.toNat).what.lex),.bool ((get v2.1 s1.2.toNat).yes)]]=rows w7.cells c36 from by rw[Vd];first|exact U8 (E:=w7.cells) s1.1 [(get v2.1 s1.2.toNat)]|simp only[go_sem,rows,List.map_append,List.map_cons,List.map_nil])
      have fy:=fa fy (show s1.1.length+1=c36.length from by rw[Vd];simp)
      obtain⟨fx,h⟩:=ck fx h
      refine r1 ?_
      refine rn ?_
      cases h
      exact F5 (gs1+1) (bm hsc)
     ·refine rn ?_
      cases h
      exact K7 gs1 (bm hsc)
    ·try simp only[go_sem,fx]
     unfold J8 at h
     refine R4 hb ?_
     refine rn ?_
     obtain⟨v41,hv41,h⟩:=F9 h
     refine(W6 (S7 n _ _ _ _ hv41)).to ?_
     refine rn ?_
     obtain⟨v42,hv42,h⟩:=F9 h
     refine tV ?_;refine((S7 n _ _ _ _ hv42).freeze (st:=st++[some (.arr 0 5 0 [[.sl false 2 40 (rows x7.cells a0.hierarchy.types),.sl false 3 32 (rows y8.cells a0.hierarchy.C1),.sl false 10 152 (rows x6.cells a0.rules),.sl false 9 144 (rows C5.cells a0.I7),.sl false 2 32 (rows y4.cells a0.start.nodes)]]),none,some (.arr gt1 6 48 (rows w7.cells t1)),some (.arr 0 2 0 [[.int .i64 v41.2.code,.int .i64 v41.2.index]])]) (args:=[.agg [.sl false 2 40 (rows x7.cells a0.hierarchy.types),.sl false 3 32 (rows y8.cells a0.hierarchy.C1),.sl false 10 152 (rows x6.cells a0.rules),.sl false 9 144 (rows C5.cells a0.I7),.sl false 2 32 (rows y4.cells a0.start.nodes)],.sl false 3 40 (rows w8.cells a1),.ref false (st.length+2) gt1 0 t1.length]) (T:=st++[some (.arr 0 5 0 [[.sl false 2 40 (rows x7.cells a0.hierarchy.types),.sl false 3 32 (rows y8.cells a0.hierarchy.C1),.sl false 10 152 (rows x6.cells a0.rules),.sl false 9 144 (rows C5.cells a0.I7),.sl false 2 32 (rows y4.cells a0.start.nodes)]]),none,none,some (.arr 0 2 0 [[.int .i64 v41.2.code,.int .i64 v41.2.index]])]) (IU hsc (.lv (.dead _ _ _ (.dead _ _ _ (.lv (.nil _))))) (by simp)) (by simp) (.cons _ _ _ _ .s (.cons _ _ _ _ .s (.cons _ _ _ _ (.ref _ _ _ _ _ _ _ _ _ (pL.trans rfl) (cW.trans rfl) (by decide) (ru _) (by simp only[go_sem])) .nil))) (by simp) ?_)
     refine rn ?_
     obtain⟨v43,hv43,h⟩:=F9 h
     refine kG (fun hG=>(W6 (U6 n _ _ _ (tO hv43 (by simpa using hG))))) ?_
     exact rt
end Go.Proofs.YtfogbhjeihkliaaGreatDoor
