import Derived.Test.YtfogbhjeihkliaaGreatDoorDXWalk11
set_option linter.unusedVariables false
set_option linter.unusedSimpArgs false
set_option maxHeartbeats 2000000
set_option maxRecDepth 100000
namespace Go.Proofs.YtfogbhjeihkliaaGreatDoor
open Go Go.Am
theorem nh(a0:w5)(a1:w5)(r:Bool)(h:W5 a0 a1=some r):Pure Tryz.prog gl 31 [.agg [.int .i64 a0.from_,.int .i64 a0.to_,.int .i64 a0.level,.int .i64 a0.rule,.int .i64 a0.lex],.agg [.int .i64 a1.from_,.int .i64 a1.to_,.int .i64 a1.level,.int .i64 a1.rule,.int .i64 a1.lex]] (.bool r):=by
 intro st
 unfold W5 at h
 have fx:=trivial
 refine fb 50 [.tmp 4] [0,1,2,3,4,9,19,29,39] Tryz.func31 fun hsc=>?_
 refine cd h (fun hc h=>?_) fun hc h=>?_
 ·exact rt
 ·refine cd h (fun hc h=>?_) fun hc h=>?_
  ·exact rt
  ·refine cd h (fun hc h=>?_) fun hc h=>?_
   ·exact rt
   ·refine cd h (fun hc h=>?_) fun hc h=>?_
    ·exact rt
    ·exact rt
theorem ji(n:Nat)(a0:(List w8))(r:(List w5))(h:U1 n a0=some r):Pure Tryz.prog gl 12 [.sl false 3 40 (rows w8.cells a0)] (.sl false 5 40 (rows w5.cells r)):=by
 intro st
 unfold U1 at h
 have fx:=trivial
 refine qp ?_;refine fb 115 [.tmp 2] [0,2,3,4,5,6,7,8,9,10,11,16,27,33,44,50,55,56,57,58,59,60,61,62,63,70,71,85,86,87,88,89,90,91,92,93,94,95] Tryz.func12 fun hsc=>?_
 refine rn ?_
 refine E8 (body:=P2 n a0) (kk:=aS) (n:=n) (s0:=([],0))
  (fun(gs0:Nat) (s0:(List w5)×Int)=>[(0,.sl false 3 40 (rows w8.cells a0)),(3,.ref false st.length gs0 0 s0.1.length),(4,.int .i64 s0.2)])
  (fun(gs0:Nat) (s0:(List w5)×Int)=>st++[some (.arr gs0 5 40 (rows w5.cells s0.1))])
  (fun(gt0:Nat) (t0:(List w5))=>[(3,.ref false st.length gt0 0 t0.length)])
  (fun(gt0:Nat) (t0:(List w5))=>st++[some (.arr gt0 5 40 (rows w5.cells t0))])
  0 h (bm hsc)
  (fun gs0 s0 b0 h hx0=>?_) (fun gt0 t0 fr1 st1 h hb=>?_)
 ·unfold P2 at h
  refine cd h (fun hc h=>?_) fun hc h=>?_
  ·obtain⟨fx,h⟩:=ck fx h
   refine rn ?_
   obtain⟨v282,hv282,h⟩:=F9 h
   refine(W6 (kS n _ _ _ _ hv282)).to ?_
   refine rn ?_
   refine E8 (body:=K4 n v282 a0) (kk:=aJ s0) (n:=n) (s0:=(s0.1,0))
    (fun(Fi:Nat) (s11:(List w5)×Int)=>[(0,.sl false 3 40 (rows w8.cells a0)),(3,.ref false st.length Fi 0 s11.1.length),(4,.int .i64 s0.2),(5,.sl false 5 40 (rows w5.cells v282)),(6,.int .i64 s11.2)])
    (fun(Fi:Nat) (s11:(List w5)×Int)=>st++[some (.arr Fi 5 40 (rows w5.cells s11.1))])
    (fun(RR:Nat) (t11:(List w5))=>[(0,.sl false 3 40 (rows w8.cells a0)),(3,.ref false st.length RR 0 t11.length),(4,.int .i64 s0.2)])
    (fun(RR:Nat) (t11:(List w5))=>st++[some (.arr RR 5 40 (rows w5.cells t11))])
    gs0 h (bm hsc)
    (fun Fi s11 b11 h Zk=>?_) (fun RR t11 fr1 st1 h hb=>?_)
   ·unfold K4 at h
    refine cd h (fun hc h=>?_) fun hc h=>?_
    ·refine rn ?_
     refine E8 (body:=K2 n a0 s11 v282) (kk:=aG n s11 v282 a0) (n:=n) (s0:=(0,0))
      (fun(UU:Unit) (s15:Int×Int)=>[(0,.sl false 3 40 (rows w8.cells a0)),(3,.ref false st.length Fi 0 s11.1.length),(4,.int .i64 s0.2),(5,.sl false 5 40 (rows w5.cells v282)),(6,.int .i64 s11.2),(7,.int .i64 s15.1),(8,.int .i64 s15.2)])
      (fun(UU:Unit) (s15:Int×Int)=>st++[some (.arr Fi 5 40 (rows w5.cells s11.1))])
      (fun(UW:Unit) (t15:Int)=>[(0,.sl false 3 40 (rows w8.cells a0)),(3,.ref false st.length Fi 0 s11.1.length),(4,.int .i64 s0.2),(5,.sl false 5 40 (rows w5.cells v282)),(6,.int .i64 s11.2),(7,.int .i64 t15)])
      (fun(UW:Unit) (t15:Int)=>st++[some (.arr Fi 5 40 (rows w5.cells s11.1))])
      () h (bm hsc)
      (fun UU s15 b15 h Zl=>?_) (fun UW t15 fr1 st1 h hb=>?_)
     ·unfold K2 at h
      refine cd h (fun hc h=>?_) fun hc h=>?_
      ·refine rn ?_
       obtain⟨fx,h⟩:=ck fx h
       obtain⟨fx,h⟩:=ck fx h
       refine dw [] 0 ?_
       obtain⟨v381,hv381,h⟩:=F9 h
       refine A9 (W6 (bC n _ _ _ hv381)) ?_
       try simp only[go_sem,fx]
       refine cd h (fun hc h=>?_) fun hc h=>?_
       ·refine rn ?_
        cases h
        exact F5 () (bm hsc)
       ·refine rn ?_
        cases h
        exact F5 () (bm hsc)
      ·refine rn ?_
       cases h
       exact K7 () (bm hsc)
     ·try simp only[go_sem,fx]
      unfold aG at h
      refine R4 hb ?_
      refine rn ?_
      refine E8 (body:=K3 s11 v282) (kk:=aH n t15 a0 s11 v282) (n:=n) (s0:=(0,false))
       (fun(UY:Unit) (s16:Int×Bool)=>[(0,.sl false 3 40 (rows w8.cells a0)),(3,.ref false st.length Fi 0 s11.1.length),(4,.int .i64 s0.2),(5,.sl false 5 40 (rows w5.cells v282)),(6,.int .i64 s11.2),(7,.int .i64 t15),(9,.bool s16.2),(10,.int .i64 s16.1)])
       (fun(UY:Unit) (s16:Int×Bool)=>st++[some (.arr Fi 5 40 (rows w5.cells s11.1))])
       (fun(UZ:Unit) (t16:Bool)=>[(0,.sl false 3 40 (rows w8.cells a0)),(3,.ref false st.length Fi 0 s11.1.length),(4,.int .i64 s0.2),(5,.sl false 5 40 (rows w5.cells v282)),(6,.int .i64 s11.2),(7,.int .i64 t15),(9,.bool t16)])
       (fun(UZ:Unit) (t16:Bool)=>st++[some (.arr Fi 5 40 (rows w5.cells s11.1))])
       () h (bm hsc)
       (fun UY s16 b16 h Zm=>?_) (fun UZ t16 fr1 st1 h hb=>?_)
      ·unfold K3 at h
       refine cd h (fun hc h=>?_) fun hc h=>?_
       ·refine rn ?_
        obtain⟨fx,h⟩:=ck fx h
        obtain⟨fx,h⟩:=ck fx h
        have fy:=(show(rows w5.cells s11.1).getD s16.1.toNat []=w5.cells (get s11.1 s16.1.toNat)from qg (E:=w5.cells) (l:=s11.1) (k:=s16.1.toNat) (by first|omega|(simp;omega)))
        have fy:=fa fy (show s16.1.toNat<s11.1.length from by first|omega|(simp;omega))
        obtain⟨fx,h⟩:=ck fx h
        refine dwy [] 0 ?_
        refine rn ?_
        cases h
        exact F5 () (bm hsc)
       ·refine rn ?_
        cases h
        exact K7 () (bm hsc)
      ·try simp only[go_sem,fx]
       unfold aH at h
       refine R4 hb ?_
       refine cd h (fun hc h=>?_) fun hc h=>?_
       ·refine rn ?_
        cases h
        exact F5 Fi (bm hsc)
       ·refine r0 ?_
        obtain⟨fx,h⟩:=ck fx h
        obtain⟨c401,RS,h⟩:=oz h
        have fy:=(show rows w5.cells s11.1++[[.int .i64 ((get v282 s11.2.toNat).from_),.int .i64 ((get v282 s11.2.toNat).to_),.int .i64 ((get v282 s11.2.toNat).level),.int .i64 ((get v282 s11.2.toNat).rule),.int .i64 ((get v282 s11.2.toNat).lex)]]=rows w5.cells c401 from by rw[RS];first|exact U8 (E:=w5.cells) s11.1 [(get v282 s11.2.toNat)]|simp only[go_sem,rows,List.map_append,List.map_cons,List.map_nil])
        have fy:=fa fy (show s11.1.length+1=c401.length from by rw[RS];simp)
        obtain⟨fx,h⟩:=ck fx h
        refine r1 ?_
        refine rn ?_
        refine E8 (body:=K1) (kk:=aI s11) (n:=n) (s0:=(c401,(wr .i64 ((↑c401.length:Int)-1))))
         (fun(Nb:Nat) (s17:(List w5)×Int)=>[(0,.sl false 3 40 (rows w8.cells a0)),(3,.ref false st.length Nb 0 s17.1.length),(4,.int .i64 s0.2),(5,.sl false 5 40 (rows w5.cells v282)),(6,.int .i64 s11.2),(11,.int .i64 s17.2)])
         (fun(Nb:Nat) (s17:(List w5)×Int)=>st++[some (.arr Nb 5 40 (rows w5.cells s17.1))])
         (fun(RT:Nat) (t17:(List w5))=>[(0,.sl false 3 40 (rows w8.cells a0)),(3,.ref false st.length RT 0 t17.length),(4,.int .i64 s0.2),(5,.sl false 5 40 (rows w5.cells v282)),(6,.int .i64 s11.2)])
         (fun(RT:Nat) (t17:(List w5))=>st++[some (.arr RT 5 40 (rows w5.cells t17))])
         (Fi+1) h (bm hsc)
         (fun Nb s17 b17 h Zn=>?_) (fun RT t17 fr1 st1 h hb=>?_)
        ·unfold K1 at h
         refine rs ?_
         obtain⟨fx,h⟩:=ck fx h
         obtain⟨fx,h⟩:=ck fx h
         have fy:=(show(rows w5.cells s17.1).getD s17.2.toNat []=w5.cells (get s17.1 s17.2.toNat)from qg (E:=w5.cells) (l:=s17.1) (k:=s17.2.toNat) (by first|omega|(simp;omega)))
         have fy:=fa fy (show s17.2.toNat<s17.1.length from by first|omega|(simp;omega))
         obtain⟨fx,h⟩:=ck fx h
         obtain⟨fx,h⟩:=ck fx h
         have fy:=fa fy (show(rows w5.cells s17.1).getD ((wr .i64 (s17.2-1)).toNat) []=w5.cells (get s17.1 ((wr .i64 (s17.2-1)).toNat))from qg (E:=w5.cells) (l:=s17.1) (k:=(wr .i64 (s17.2-1)).toNat) (by first|omega|(simp;omega)))
         have fy:=fa fy (show(wr .i64 (s17.2-1)).toNat<s17.1.length from by first|omega|(simp;omega))
         refine dwy [] 0 ?_
         obtain⟨v449,hv449,h⟩:=F9 h
         refine fT (fun hG=>(W6 (nh _ _ _ (tO hv449 (by simpa using hG))))) ?_
         try simp only[go_sem,fx,fy]
         refine cd h (fun hc h=>?_) fun hc h=>?_
         ·refine rn ?_
          obtain⟨fx,h⟩:=ck fx h
          have fy:=(show(rows w5.cells s17.1).getD ((wr .i64 (s17.2-1)).toNat) []=w5.cells (get s17.1 ((wr .i64 (s17.2-1)).toNat))from qg (E:=w5.cells) (l:=s17.1) (k:=(wr .i64 (s17.2-1)).toNat) (by first|omega|(simp;omega)))
          have fy:=fa fy (show(wr .i64 (s17.2-1)).toNat<s17.1.length from by first|omega|(simp;omega))
          obtain⟨fx,h⟩:=ck fx h
          have fy:=fa fy (show(rows w5.cells s17.1).getD s17.2.toNat []=w5.cells (get s17.1 s17.2.toNat)from qg (E:=w5.cells) (l:=s17.1) (k:=s17.2.toNat) (by first|omega|(simp;omega)))
          have fy:=fa fy (show s17.2.toNat<s17.1.length from by first|omega|(simp;omega))
          have fy:=fa fy (show(rows w5.cells s17.1).getD s17.2.toNat []=w5.cells (get s17.1 s17.2.toNat)from qg (E:=w5.cells) (l:=s17.1) (k:=s17.2.toNat) (by first|omega|(simp;omega)))
          have fy:=fa fy (show s17.2.toNat<s17.1.length from by first|omega|(simp;omega))
          obtain⟨c460,Ml,h⟩:=oz h
          have fy:=fa fy (show(rows w5.cells s17.1).set s17.2.toNat [.int .i64 ((get s17.1 ((wr .i64 (s17.2-1)).toNat)).from_),.int .i64 ((get s17.1 ((wr .i64 (s17.2-1)).toNat)).to_),.int .i64 ((get s17.1 ((wr .i64 (s17.2-1)).toNat)).level),.int .i64 ((get s17.1 ((wr .i64 (s17.2-1)).toNat)).rule),.int .i64 ((get s17.1 ((wr .i64 (s17.2-1)).toNat)).lex)]=rows w5.cells c460 from by rw[Ml];first|exact CF (E:=w5.cells) _ _ _|simp only[go_sem,rows,List.map_set])
          have fy:=fa fy (show c460.length=s17.1.length from by simp[Ml])
          have fy:=fa fy (show(rows w5.cells c460).getD ((wr .i64 (s17.2-1)).toNat) []=w5.cells (get c460 ((wr .i64 (s17.2-1)).toNat))from qg (E:=w5.cells) (l:=c460) (k:=(wr .i64 (s17.2-1)).toNat) (by first|omega|(simp;omega)|(rw[Ml,List.length_set];omega)))
          have fy:=fa fy (show(wr .i64 (s17.2-1)).toNat<s17.1.length from by first|omega|(simp;omega))
          obtain⟨c465,RU,h⟩:=oz h
          have fy:=fa fy (show(rows w5.cells c460).set ((wr .i64 (s17.2-1)).toNat) [.int .i64 ((get s17.1 s17.2.toNat).from_),.int .i64 ((get s17.1 s17.2.toNat).to_),.int .i64 ((get s17.1 s17.2.toNat).level),.int .i64 ((get s17.1 s17.2.toNat).rule),.int .i64 ((get s17.1 s17.2.toNat).lex)]=rows w5.cells c465 from by rw[RU];first|exact CF (E:=w5.cells) _ _ _|simp only[go_sem,rows,List.map_set])
          refine dwy [] 0 ?_
          have e467:D.ref false st.length Nb 0 s17.1.length=D.ref false st.length Nb 0 c465.length:=by simp[Ml,RU]
          simp only[e467]
          refine rn ?_
          cases h
          exact F5 Nb (bm hsc)
         ·refine rn ?_
          cases h
          exact K7 Nb (bm hsc)
        ·try simp only[go_sem,fx]
         unfold aI at h
         refine R4 hb ?_
         refine rn ?_
         cases h
         exact F5 RT (bm hsc)
    ·refine rn ?_
     cases h
     exact K7 Fi (bm hsc)
   ·try simp only[go_sem,fx]
    unfold aJ at h
    refine R4 hb ?_
    refine rn ?_
    cases h
    exact F5 RR (bm hsc)
  ·refine rn ?_
   cases h
   exact K7 gs0 (bm hsc)
 ·try simp only[go_sem,fx]
  unfold aS at h
  refine R4 hb ?_
  refine rr ?_
  exact fo (.sl false 5 40 (rows w5.cells t0)) (.ref _ _ _ _ _ _ _ _ _ (lH.trans rfl) nI (by decide) (ru _) (by simp only[go_sem])) h hsc
theorem fP(n:Nat)(a0:x5)(a1:(List w8))(r:Bool)(h:K6 n a0 a1=some r):Pure Tryz.prog gl 3 [.agg [.sl false 2 40 (rows x7.cells a0.hierarchy.types),.sl false 3 32 (rows y8.cells a0.hierarchy.C1),.sl false 10 152 (rows x6.cells a0.rules),.sl false 9 144 (rows C5.cells a0.I7),.sl false 2 32 (rows y4.cells a0.start.nodes)],.sl false 3 40 (rows w8.cells a1)] (.bool r):=by
 intro st
 unfold K6 at h
 have fx:=trivial
 refine fb 59 [.tmp 4] [0,1,2,4,5,6,7,8,9,11,23,28,29,30,38,39,40,41,42,43,47,58] Tryz.func3 fun hsc=>?_
 refine cl h (G7 n) fun v1 h=>?_
 refine cd h (fun hc h=>?_) fun hc h=>?_
 ·exact rt
 ·refine cl h (kT n _ _) fun v2 h=>?_
  refine cl h (Z0 n _ _) fun v3 h=>?_
  refine cd h (fun hc h=>?_) fun hc h=>?_
  ·exact rt
  ·refine cl h (ji n _) fun v4 h=>?_
   refine cd h (fun hc h=>?_) fun hc h=>?_
   ·exact rt
   ·refine rn ?_
    refine E8 (body:=E7 v2 v4) (kk:=O9) (n:=n) (s0:=0)
     (fun(gs0:Unit) (s0:Int)=>[(5,.sl false 5 40 (rows w5.cells v2.1)),(8,.sl false 5 40 (rows w5.cells v4)),(9,.int .i64 s0)])
     (fun(gs0:Unit) (s0:Int)=>st)
     (fun(gt0:Unit) (t0:Unit)=>[])
     (fun(gt0:Unit) (t0:Unit)=>st)
     () h (bm0 hsc)
     (fun gs0 s0 b0 h hx0=>?_) (fun gt0 t0 fr1 st1 h hb=>?_)
    ·unfold E7 at h
     refine cd h (fun hc h=>?_) fun hc h=>?_
     ·refine rn ?_
      obtain⟨fx,h⟩:=ck fx h
      obtain⟨fx,h⟩:=ck fx h
      refine dw [] 0 ?_
      refine cd h (fun hc h=>?_) fun hc h=>?_
      ·refine ra ?_
       cases h
       refine aP ?_;have h:=congrArg some (hx0 _ rfl)
       exact rt
      ·refine rn ?_
       cases h
       exact F5 () (gX hsc)
     ·refine rn ?_
      cases h
      exact K7 () (gX hsc)
    ·try simp only[go_sem,fx]
     unfold O9 at h
     refine R4 hb ?_
     exact rt
theorem lu(n:Nat)(a0:(List w8))(a1:(List w7))(r:(List Int))(h:bk n a0 a1=some r):Pure Tryz.prog gl 15 [.sl false 3 40 (rows w8.cells a0),.sl false 6 48 (rows w7.cells a1)] (.sl false 1 8 (rows Z4 r)):=by
 intro st
 unfold bk at h
 have fx:=trivial
 refine qp ?_;refine fb 47 [.tmp 4] [0,1,4,5,6,7,8,13,19,24,25,26,27,28,29,30,31,32,33,34,35,36,37,38,39,41] Tryz.func15 fun hsc=>?_
 refine rn ?_
 refine E8 (body:=V9 n a0 a1) (kk:=gT) (n:=n) (s0:=([],0))
  (fun(gs0:Nat) (s0:(List Int)×Int)=>[(0,.sl false 3 40 (rows w8.cells a0)),(1,.sl false 6 48 (rows w7.cells a1)),(5,.ref false st.length gs0 0 s0.1.length),(6,.int .i64 s0.2)])
  (fun(gs0:Nat) (s0:(List Int)×Int)=>st++[some (.arr gs0 1 8 (rows Z4 s0.1))])
  (fun(gt0:Nat) (t0:(List Int))=>[(5,.ref false st.length gt0 0 t0.length)])
  (fun(gt0:Nat) (t0:(List Int))=>st++[some (.arr gt0 1 8 (rows Z4 t0))])
  0 h (bm hsc)
  (fun gs0 s0 b0 h hx0=>?_) (fun gt0 t0 fr1 st1 h hb=>?_)
 ·unfold V9 at h
  refine cd h (fun hc h=>?_) fun hc h=>?_
  ·refine rn ?_
   refine E8 (body:=W0 n a1 s0 a0) (kk:=dO s0) (n:=n) (s0:=(true,0))
    (fun(gs3:Unit) (s3:Bool×Int)=>[(0,.sl false 3 40 (rows w8.cells a0)),(1,.sl false 6 48 (rows w7.cells a1)),(5,.ref false st.length gs0 0 s0.1.length),(6,.int .i64 s0.2),(7,.bool s3.1),(8,.int .i64 s3.2)])
    (fun(gs3:Unit) (s3:Bool×Int)=>st++[some (.arr gs0 1 8 (rows Z4 s0.1))])
    (fun(gt3:Unit) (t3:Bool)=>[(0,.sl false 3 40 (rows w8.cells a0)),(1,.sl false 6 48 (rows w7.cells a1)),(5,.ref false st.length gs0 0 s0.1.length),(6,.int .i64 s0.2),(7,.bool t3)])
    (fun(gt3:Unit) (t3:Bool)=>st++[some (.arr gs0 1 8 (rows Z4 s0.1))])
    () h (bm hsc)
    (fun gs3 s3 b3 h hx3=>?_) (fun gt3 t3 fr1 st1 h hb=>?_)
   ·unfold W0 at h
    refine cd h (fun hc h=>?_) fun hc h=>?_
    ·refine rn ?_
     obtain⟨fx,h⟩:=ck fx h
     obtain⟨fx,h⟩:=ck fx h
     refine dw [] 0 ?_
     obtain⟨v61,hv61,h⟩:=F9 h
     refine fT (fun hG=>(W6 (bC n _ _ _ (tO hv61 (by simpa using hG))))) ?_
     obtain⟨fx,h⟩:=ck fx h
     try simp only[go_sem,fx]
     refine rn ?_
     cases h
     exact F5 () (bm hsc)
    ·refine rn ?_
     cases h
     exact K7 () (bm hsc)
   ·try simp only[go_sem,fx]
    unfold dO at h
    refine R4 hb ?_
    refine cd h (fun hc h=>?_) fun hc h=>?_
    ·obtain⟨c66,Va,h⟩:=oz h
     have fy:=(show rows Z4 s0.1++[[.int .i64 s0.2]]=rows Z4 c66 from by rw[Va];first|exact U8 (E:=Z4) s0.1 [s0.2]|simp only[go_sem,rows,List.map_append,List.map_cons,List.map_nil])
     have fy:=fa fy (show s0.1.length+1=c66.length from by rw[Va];simp)
     obtain⟨fx,h⟩:=ck fx h
     refine r1 ?_
     refine rn ?_
     cases h
     exact F5 (gs0+1) (bm hsc)
    ·refine rn ?_
     cases h
     exact F5 gs0 (bm hsc)
  ·refine rn ?_
   cases h
   exact K7 gs0 (bm hsc)
 ·try simp only[go_sem,fx]
  unfold gT at h
  refine R4 hb ?_
  refine rr ?_
  exact fo (.sl false 1 8 (rows Z4 t0)) (.ref _ _ _ _ _ _ _ _ _ (lH.trans rfl) nI (by decide) (ru _) (by simp only[go_sem])) h hsc
theorem dV(n:Nat)(a0:x5)(a1:(List w8))(a2:(List w7))(r:Bool)(h:H7 n a0 a1 a2=some r):Pure Tryz.prog gl 4 [.agg [.sl false 2 40 (rows x7.cells a0.hierarchy.types),.sl false 3 32 (rows y8.cells a0.hierarchy.C1),.sl false 10 152 (rows x6.cells a0.rules),.sl false 9 144 (rows C5.cells a0.I7),.sl false 2 32 (rows y4.cells a0.start.nodes)],.sl false 3 40 (rows w8.cells a1),.sl false 6 48 (rows w7.cells a2)] (.bool r):=by
 intro st
 unfold H7 at h
 have fx:=trivial
 refine fb 52 [.tmp 6] [0,1,2,3,6,7,8,9,11,26,27,28,29,33,38,39,40,46,47,48,49,50] Tryz.func4 fun hsc=>?_
 refine cl h (G7 n) fun v1 h=>?_
 refine cd h (fun hc h=>?_) fun hc h=>?_
 ·exact rt
 ·refine cl h (S7 n _ _ _) fun v2 h=>?_
  refine cl h (Z0 n _ _) fun v3 h=>?_
  refine rn ?_
  refine iI (D0 n v2 a1 a2) r (fun(gj0:Unit) (j0:Int×Int)=>[(1,.sl false 3 40 (rows w8.cells a1)),(2,.sl false 6 48 (rows w7.cells a2)),(7,.sl false 1 8 (rows Z4 v2.1)),(8,.ptr (st.length+1) 0 0 0),(9,.ptr (st.length+2) 0 0 0)]) (fun(gj0:Unit) (j0:Int×Int)=>st++[none,some (.arr 0 2 0 [[.int .i64 v2.2.code,.int .i64 v2.2.index]]),some (.arr 0 2 0 [[.int .i64 j0.1,.int .i64 j0.2]])]) (fun gj0 j0 fr1 st1 h hb=>?_) (fun hj0=>?_)
  ·try simp only[go_sem,fx]
   unfold D0 at h
   refine R4 hb ?_
   refine cd h (fun hc h=>?_) fun hc h=>?_
   ·exact rt
   ·refine rn ?_
    obtain⟨v4,hv4,h⟩:=F9 h
    refine kG (fun hG=>(lu n _ _ _ (tO hv4 (by simpa using hG)))) ?_
    refine rn ?_
    obtain⟨v5,hv5,h⟩:=F9 h
    refine kG (fun hG=>(U6 n _ _ _ (tO hv5 (by simpa using hG)))) ?_
    exact rt
  ·refine cd h (fun hc h=>?_) fun hc h=>?_
   ·refine r0 ?_
    refine hj0 () _ _ _ h ?_;exact(bm hsc)
   ·refine r0 ?_
    refine hj0 () _ _ _ h ?_;exact(bm hsc)
theorem om(n:Nat)(a0:x5)(a1:(List w8))(a2:(List w7))(r:w5×Bool×w9)(h:aO n a0 a1 a2=some r):Pure Tryz.prog gl 18 [.agg [.sl false 2 40 (rows x7.cells a0.hierarchy.types),.sl false 3 32 (rows y8.cells a0.hierarchy.C1),.sl false 10 152 (rows x6.cells a0.rules),.sl false 9 144 (rows C5.cells a0.I7),.sl false 2 32 (rows y4.cells a0.start.nodes)],.sl false 3 40 (rows w8.cells a1),.sl false 6 48 (rows w7.cells a2)] (.tup [.agg [.int .i64 r.1.from_,.int .i64 r.1.to_,.int .i64 r.1.level,.int .i64 r.1.rule,.int .i64 r.1.lex],.bool r.2.1,.agg [.int .i64 r.2.2.code,.int .i64 r.2.2.index]]):=by
 intro st
 unfold aO at h
 have fx:=trivial
 refine fb 83 [.cell 6 43,.tmp 7,.cell 8 37] [0,1,2,3,6,7,8,9,10,11,12,13,14,16,17,19,20,27,36,37,38,39,42,43,44,45,54,69,70,71,72,73,74,75,76] Tryz.func18 fun hsc=>?_
 refine cl h (jY n _ _ _) fun v1 h=>?_
 refine cd h (fun hc h=>?_) fun hc h=>?_
 ·refine rs ?_
  refine dw [1,2] 0 ?_
  try refine⟨by(simp<;>omega),?_⟩
  exact rt
 ·refine cl h (dB n _) fun v2 h=>?_
  refine cl h (eC n _ _) fun v3 h=>?_
  refine cl h (fG n _) fun v4 h=>?_
  refine aln 36 fun hl0=>?_
  refine rng (body:=P8 n v3 v2 v4) (kk:=dz) (n:=v4.length) (s0:=(0,0,0,0,0,0,false))
   (fun(gs0:Unit) (k0:Nat) (s0:Int×Int×Int×Int×Int×Int×Bool)=>[(6,.ptr (st.length+1) 0 0 0),(8,.ptr (st.length+2) 0 0 0),(10,.sl false 1 24 (rows (slc 5 40 w5.cells) v2)),(11,.sl false 1 8 (rows Z4 v3)),(12,.ptr (st.length+4) 0 0 0),(13,.int .i64 s0.2.2.2.2.2.1),(14,.bool s0.2.2.2.2.2.2),(36,.sl false 5 40 (rows w5.cells v4)),(37,.int .i64 (↑v4.length:Int)),(38,.int .i64 (↑k0:Int))])
   (fun(gs0:Unit) (k0:Nat) (s0:Int×Int×Int×Int×Int×Int×Bool)=>st++[none,some (.arr 0 5 0 [[.int .i64 0,.int .i64 0,.int .i64 0,.int .i64 0,.int .i64 0]]),some (.arr 0 2 0 [[.int .i64 0,.int .i64 0]]),none,some (.arr 0 5 0 [[.int .i64 s0.1,.int .i64 s0.2.1,.int .i64 s0.2.2.1,.int .i64 s0.2.2.2.1,.int .i64 s0.2.2.2.2.1]])])
   (fun(gt0:Unit) (t0:Int×Int×Int×Int×Int×Int×Bool)=>[(6,.ptr (st.length+1) 0 0 0),(8,.ptr (st.length+2) 0 0 0),(12,.ptr (st.length+4) 0 0 0),(14,.bool t0.2.2.2.2.2.2)])
   (fun(gt0:Unit) (t0:Int×Int×Int×Int×Int×Int×Bool)=>st++[none,some (.arr 0 5 0 [[.int .i64 0,.int .i64 0,.int .i64 0,.int .i64 0,.int .i64 0]]),some (.arr 0 2 0 [[.int .i64 0,.int .i64 0]]),none,some (.arr 0 5 0 [[.int .i64 t0.1,.int .i64 t0.2.1,.int .i64 t0.2.2.1,.int .i64 t0.2.2.2.1,.int .i64 t0.2.2.2.2.1]])])
   () fx hl0 h (bm hsc)
   (fun gs0 k0 s0 b0 fx h hx0=>?_) (fun gs0 s0=>?_) (fun gt0 t0 fr1 st1 h hb=>?_)
  ·unfold P8 at h
   refine ct ?_
   refine aln 11 fun hl2=>?_
   refine rng (body:=K5 n v3 v2 v4 k0) (kk:=dy v3 s0 v4 k0) (n:=v3.length) (s0:=0)
    (fun(gs2:Unit) (k2:Nat) (s2:Int)=>[(6,.ptr (st.length+1) 0 0 0),(8,.ptr (st.length+2) 0 0 0),(10,.sl false 1 24 (rows (slc 5 40 w5.cells) v2)),(11,.sl false 1 8 (rows Z4 v3)),(12,.ptr (st.length+4) 0 0 0),(13,.int .i64 s0.2.2.2.2.2.1),(14,.bool s0.2.2.2.2.2.2),(16,.ptr (st.length+5) 0 0 0),(17,.int .i64 s2),(36,.sl false 5 40 (rows w5.cells v4)),(37,.int .i64 (↑v4.length:Int)),(38,.int .i64 (↑k0:Int)),(42,.sl false 1 8 (rows Z4 v3)),(43,.int .i64 (↑v3.length:Int)),(44,.int .i64 (↑k2:Int))])
    (fun(gs2:Unit) (k2:Nat) (s2:Int)=>st++[none,some (.arr 0 5 0 [[.int .i64 0,.int .i64 0,.int .i64 0,.int .i64 0,.int .i64 0]]),some (.arr 0 2 0 [[.int .i64 0,.int .i64 0]]),none,some (.arr 0 5 0 [[.int .i64 s0.1,.int .i64 s0.2.1,.int .i64 s0.2.2.1,.int .i64 s0.2.2.2.1,.int .i64 s0.2.2.2.2.1]]),some (.arr 0 5 0 [[.int .i64 ((get v4 k0).from_),.int .i64 ((get v4 k0).to_),.int .i64 ((get v4 k0).level),.int .i64 ((get v4 k0).rule),.int .i64 ((get v4 k0).lex)]])])
    (fun(gt2:Unit) (t2:Int)=>[(6,.ptr (st.length+1) 0 0 0),(8,.ptr (st.length+2) 0 0 0),(10,.sl false 1 24 (rows (slc 5 40 w5.cells) v2)),(11,.sl false 1 8 (rows Z4 v3)),(12,.ptr (st.length+4) 0 0 0),(13,.int .i64 s0.2.2.2.2.2.1),(14,.bool s0.2.2.2.2.2.2),(16,.ptr (st.length+5) 0 0 0),(17,.int .i64 t2),(36,.sl false 5 40 (rows w5.cells v4)),(37,.int .i64 (↑v4.length:Int)),(38,.int .i64 (↑k0:Int))])
    (fun(gt2:Unit) (t2:Int)=>st++[none,some (.arr 0 5 0 [[.int .i64 0,.int .i64 0,.int .i64 0,.int .i64 0,.int .i64 0]]),some (.arr 0 2 0 [[.int .i64 0,.int .i64 0]]),none,some (.arr 0 5 0 [[.int .i64 s0.1,.int .i64 s0.2.1,.int .i64 s0.2.2.1,.int .i64 s0.2.2.2.1,.int .i64 s0.2.2.2.2.1]]),some (.arr 0 5 0 [[.int .i64 ((get v4 k0).from_),.int .i64 ((get v4 k0).to_),.int .i64 ((get v4 k0).level),.int .i64 ((get v4 k0).rule),.int .i64 ((get v4 k0).lex)]])])
    () fx hl2 h (bm hsc)
    (fun gs2 k2 s2 b2 fx h hx2=>?_) (fun gs2 s2=>?_) (fun gt2 t2 fr1 st1 h hb=>?_)
   ·unfold K5 at h
    refine ct ?_
    refine rn ?_
    obtain⟨fx,h⟩:=ck fx h
    refine dw [] 0 ?_
    obtain⟨v16,hv16,h⟩:=F9 h
    refine A9 (eX n _ _ _ hv16) ?_
    try simp only[go_sem,fx]
    refine cd h (fun hc h=>?_) fun hc h=>?_
    ·refine rn ?_
     cases h
     exact gW () (bm hsc)
    ·refine rn ?_
     cases h
     exact gW () (bm hsc)
   ·refine cf ?_
    refine gV ?_;simp only[go_sem,fx]
    exact⟨(),(bm hsc)⟩
   ·try simp only[go_sem,fx]
    unfold dy at h
    refine R4 hb ?_
    refine cd h (fun hc h=>?_) fun hc h=>?_
    ·refine rn ?_
     cases h
     exact gW () (bm hsc)
    ·refine rn ?_
     cases h
     exact gW () (bm hsc)
  ·refine cf ?_
   refine gV ?_;simp only[go_sem,fx]
   exact⟨(),(bm hsc)⟩
  ·try simp only[go_sem,fx]
   unfold dz at h
   refine R4 hb ?_
   exact rt
end Go.Proofs.YtfogbhjeihkliaaGreatDoor
