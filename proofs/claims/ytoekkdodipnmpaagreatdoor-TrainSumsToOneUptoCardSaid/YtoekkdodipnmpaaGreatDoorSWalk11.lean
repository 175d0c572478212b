import Derived.Test.YtoekkdodipnmpaaGreatDoorSWalk10
set_option linter.unusedVariables false
set_option linter.unusedSimpArgs false
set_option maxHeartbeats 2000000
set_option maxRecDepth 100000
namespace Go.Proofs.YtoekkdodipnmpaaGreatDoor
open Go Go.Am
theorem AX(n:Nat)(a0:(List w7))(r:w7×w5)(h:pz n a0=some r):Pure Tryz.prog gl 8 [.sl false 2 16 (rows w7.cells a0)] (.tup [.agg [.int .i64 r.1.num,.int .i64 r.1.den],.agg [.int .i64 r.2.code,.int .i64 r.2.index]]):=by
 intro st
 unfold pz at h
 have fx:=trivial
 refine fb 59 [.cell 2 45,.cell 3 39] [0,2,3,4,5,6,7,8,9,10,11,14,17,18,19,20,29,34,35,36,37,49] Tryz.func8 fun hsc=>?_
 refine cd h (fun hc h=>?_) fun hc h=>?_
 ·exact rt
 ·refine aln 0 fun hl0=>?_
  refine rng (body:=lT n a0) (kk:=lU n a0) (n:=a0.length) (s0:=())
   (fun(gs0:Unit) (k0:Nat) (s0:Unit)=>[(0,.sl false 2 16 (rows w7.cells a0)),(2,.ptr st.length 0 0 0),(3,.ptr (st.length+1) 0 0 0),(17,.sl false 2 16 (rows w7.cells a0)),(18,.int .i64 (↑a0.length:Int)),(19,.int .i64 (↑k0:Int))])
   (fun(gs0:Unit) (k0:Nat) (s0:Unit)=>st++[some (.arr 0 2 0 [[.int .i64 0,.int .i64 0]]),some (.arr 0 2 0 [[.int .i64 0,.int .i64 0]])])
   (fun(gt0:Unit) (t0:Unit)=>[(0,.sl false 2 16 (rows w7.cells a0)),(2,.ptr st.length 0 0 0),(3,.ptr (st.length+1) 0 0 0)])
   (fun(gt0:Unit) (t0:Unit)=>st++[some (.arr 0 2 0 [[.int .i64 0,.int .i64 0]]),some (.arr 0 2 0 [[.int .i64 0,.int .i64 0]])])
   () fx hl0 h (bm hsc)
   (fun gs0 k0 s0 b0 fx h hx0=>?_) (fun gs0 s0=>?_) (fun gt0 t0 fr1 st1 h hb=>?_)
  ·unfold lT at h
   refine ct ?_
   refine cl h (lf n _ _) fun v1 h=>?_
   refine cd h (fun hc h=>?_) fun hc h=>?_
   ·refine rs ?_
    refine dw [1,2] 0 ?_
    try refine⟨by(simp<;>omega),?_⟩
    refine ra ?_
    cases h
    refine D4 ?_;have h:=congrArg some (hx0 _ rfl)
    exact rt
   ·refine rn ?_
    cases h
    exact dc () (bm hsc)
  ·refine cf ?_
   refine cP ?_;simp only[go_sem,fx]
   exact⟨(),(bm hsc)⟩
  ·try simp only[go_sem,fx]
   unfold lU at h
   refine R8 hb ?_
   refine aln 34 fun hl1=>?_
   refine rng (body:=lV n a0) (kk:=lW) (n:=a0.length) (s0:=(0,1))
    (fun(gs1:Unit) (k1:Nat) (s1:Int×Int)=>[(2,.ptr st.length 0 0 0),(3,.ptr (st.length+1) 0 0 0),(7,.ptr (st.length+2) 0 0 0),(34,.sl false 2 16 (rows w7.cells a0)),(35,.int .i64 (↑a0.length:Int)),(36,.int .i64 (↑k1:Int))])
    (fun(gs1:Unit) (k1:Nat) (s1:Int×Int)=>st++[some (.arr 0 2 0 [[.int .i64 0,.int .i64 0]]),some (.arr 0 2 0 [[.int .i64 0,.int .i64 0]]),some (.arr 0 2 0 [[.int .i64 s1.1,.int .i64 s1.2]])])
    (fun(gt1:Unit) (t1:Int×Int)=>[(2,.ptr st.length 0 0 0),(3,.ptr (st.length+1) 0 0 0),(7,.ptr (st.length+2) 0 0 0)])
    (fun(gt1:Unit) (t1:Int×Int)=>st++[some (.arr 0 2 0 [[.int .i64 0,.int .i64 0]]),some (.arr 0 2 0 [[.int .i64 0,.int .i64 0]]),some (.arr 0 2 0 [[.int .i64 t1.1,.int .i64 t1.2]])])
    () fx hl1 h (bm hsc)
    (fun gs1 k1 s1 b1 fx h hx1=>?_) (fun gs1 s1=>?_) (fun gt1 t1 fr1 st1 h hb=>?_)
   ·unfold lV at h
    refine ct ?_
    refine cl h (AW n _ _) fun v3 h=>?_
    refine cd h (fun hc h=>?_) fun hc h=>?_
    ·refine rs ?_
     refine dw [2,5] 0 ?_
     try refine⟨by(simp<;>omega),?_⟩
     refine ra ?_
     cases h
     refine D4 ?_;have h:=congrArg some (hx1 _ rfl)
     exact rt
    ·refine rn ?_
     cases h
     exact dc () (bm hsc)
   ·refine cf ?_
    refine cP ?_;simp only[go_sem,fx]
    exact⟨(),(bm hsc)⟩
   ·try simp only[go_sem,fx]
    unfold lW at h
    refine R8 hb ?_
    exact rt
theorem eN(n:Nat)(a0:y7)(a1:C4)(r:Bool)(h:N6 n a0 a1=some r):Pure Tryz.prog gl 3 [.agg [.sl false 2 40 (rows x5.cells a0.hierarchy.types),.sl false 3 32 (rows A0.cells a0.hierarchy.C2),.sl false 10 152 (rows w8.cells a0.rules),.sl false 9 144 (rows D0.cells a0.B3),.sl false 2 32 (rows y4.cells a0.start.nodes)],.agg [.sl false 1 8 (rows E1 a1.rules),.sl false 1 8 (rows E1 a1.B3)]] (.bool r):=by
 intro st
 unfold N6 at h
 have fx:=trivial
 refine fb 125 [.tmp 4] [0,1,2,3,4,5,6,7,8,9,10,11,12,13,14,15,17,29,30,31,32,33,34,42,43,44,45,46,47,48,54,61,68,86,93,115,121,122,123,124] Tryz.func3 fun hsc=>?_
 refine cl h (gE n) fun v1 h=>?_
 refine cd h (fun hc h=>?_) fun hc h=>?_
 ·exact rt
 ·refine cl h (pD n _ _) fun v2 h=>?_
  refine rn ?_
  obtain⟨v3,hv3,h⟩:=E7 h
  refine iZ (fun hG=>(fT n _ _ _ (sM hv3 (by simpa using hG)))) ?_
  refine cd h (fun hc h=>?_) fun hc h=>?_
  ·exact rt
  ·refine cd h (fun hc h=>?_) fun hc h=>?_
   ·exact rt
   ·refine rn ?_
    refine I3 (body:=K0 n a0 v2 a1) (kk:=R7) (n:=n) (s0:=0)
     (fun(gs0:Unit) (s0:Int)=>[(2,.ptr st.length 0 0 0),(3,.ptr (st.length+1) 0 0 0),(5,.sl false 2 16 (rows w7.cells v2.1)),(6,.sl false 2 16 (rows w7.cells v2.2.1)),(8,.int .i64 s0)])
     (fun(gs0:Unit) (s0:Int)=>st++[some (.arr 0 5 0 [[.sl false 2 40 (rows x5.cells a0.hierarchy.types),.sl false 3 32 (rows A0.cells a0.hierarchy.C2),.sl false 10 152 (rows w8.cells a0.rules),.sl false 9 144 (rows D0.cells a0.B3),.sl false 2 32 (rows y4.cells a0.start.nodes)]]),some (.arr 0 2 0 [[.sl false 1 8 (rows E1 a1.rules),.sl false 1 8 (rows E1 a1.B3)]])])
     (fun(gt0:Unit) (t0:Unit)=>[])
     (fun(gt0:Unit) (t0:Unit)=>st)
     () h (bm hsc)
     (fun gs0 s0 b0 h hx0=>?_) (fun gt0 t0 fr1 st1 h hb=>?_)
    ·unfold K0 at h
     refine cd h (fun hc h=>?_) fun hc h=>?_
     ·refine rn ?_
      refine I3 (body:=K1 v2 a0 s0 a1) (kk:=K2 n v2 a0 s0 a1) (n:=n) (s0:=([],0,0))
       (fun(gs4:Nat) (s4:(List w7)×Int×Int)=>[(2,.ptr st.length 0 0 0),(3,.ptr (st.length+1) 0 0 0),(5,.sl false 2 16 (rows w7.cells v2.1)),(6,.sl false 2 16 (rows w7.cells v2.2.1)),(8,.int .i64 s0),(9,.ref false (st.length+2) gs4 0 s4.1.length),(10,.int .i64 s4.2.1),(11,.int .i64 s4.2.2)])
       (fun(gs4:Nat) (s4:(List w7)×Int×Int)=>st++[some (.arr 0 5 0 [[.sl false 2 40 (rows x5.cells a0.hierarchy.types),.sl false 3 32 (rows A0.cells a0.hierarchy.C2),.sl false 10 152 (rows w8.cells a0.rules),.sl false 9 144 (rows D0.cells a0.B3),.sl false 2 32 (rows y4.cells a0.start.nodes)]]),some (.arr 0 2 0 [[.sl false 1 8 (rows E1 a1.rules),.sl false 1 8 (rows E1 a1.B3)]]),some (.arr gs4 2 16 (rows w7.cells s4.1))])
       (fun(gt4:Nat) (t4:(List w7)×Int)=>[(2,.ptr st.length 0 0 0),(3,.ptr (st.length+1) 0 0 0),(5,.sl false 2 16 (rows w7.cells v2.1)),(6,.sl false 2 16 (rows w7.cells v2.2.1)),(8,.int .i64 s0),(9,.ref false (st.length+2) gt4 0 t4.1.length),(10,.int .i64 t4.2)])
       (fun(gt4:Nat) (t4:(List w7)×Int)=>st++[some (.arr 0 5 0 [[.sl false 2 40 (rows x5.cells a0.hierarchy.types),.sl false 3 32 (rows A0.cells a0.hierarchy.C2),.sl false 10 152 (rows w8.cells a0.rules),.sl false 9 144 (rows D0.cells a0.B3),.sl false 2 32 (rows y4.cells a0.start.nodes)]]),some (.arr 0 2 0 [[.sl false 1 8 (rows E1 a1.rules),.sl false 1 8 (rows E1 a1.B3)]]),some (.arr gt4 2 16 (rows w7.cells t4.1))])
       0 h (bm hsc)
       (fun gs4 s4 b4 h hx4=>?_) (fun gt4 t4 fr1 st1 h hb=>?_)
      ·unfold K1 at h
       refine cd h (fun hc h=>?_) fun hc h=>?_
       ·refine cl h (cW _ _ _) fun v72 h=>?_
        refine cd h (fun hc h=>?_) fun hc h=>?_
        ·obtain⟨fx,h⟩:=ck fx h
         obtain⟨c76,MU,h⟩:=lK h
         have fy:=(show rows w7.cells s4.1++[[.int .i64 ((get v2.1 s4.2.2.toNat).num),.int .i64 ((get v2.1 s4.2.2.toNat).den)]]=rows w7.cells c76 from by rw[MU];first|exact bA (E:=w7.cells) s4.1 [(get v2.1 s4.2.2.toNat)]|simp only[go_sem,rows,List.map_append,List.map_cons,List.map_nil])
         have fy:=fa fy (show s4.1.length+1=c76.length from by rw[MU];simp)
         obtain⟨fx,h⟩:=ck fx h
         refine r1 ?_
         obtain⟨fx,h⟩:=ck fx h
         refine rn ?_
         cases h
         exact J2 (gs4+1) (bm hsc)
        ·refine rn ?_
         cases h
         exact J2 gs4 (bm hsc)
       ·refine rn ?_
        cases h
        exact U0 gs4 (bm hsc)
      ·try simp only[go_sem,fx]
       unfold K2 at h
       refine R8 hb ?_
       refine rn ?_
       refine I3 (body:=K3 v2 a0 s0 a1) (kk:=K4 n s0) (n:=n) (s0:=(t4.1,t4.2,0))
        (fun(gs5:Nat) (s5:(List w7)×Int×Int)=>[(2,.ptr st.length 0 0 0),(3,.ptr (st.length+1) 0 0 0),(5,.sl false 2 16 (rows w7.cells v2.1)),(6,.sl false 2 16 (rows w7.cells v2.2.1)),(8,.int .i64 s0),(9,.ref false (st.length+2) gs5 0 s5.1.length),(10,.int .i64 s5.2.1),(12,.int .i64 s5.2.2)])
        (fun(gs5:Nat) (s5:(List w7)×Int×Int)=>st++[some (.arr 0 5 0 [[.sl false 2 40 (rows x5.cells a0.hierarchy.types),.sl false 3 32 (rows A0.cells a0.hierarchy.C2),.sl false 10 152 (rows w8.cells a0.rules),.sl false 9 144 (rows D0.cells a0.B3),.sl false 2 32 (rows y4.cells a0.start.nodes)]]),some (.arr 0 2 0 [[.sl false 1 8 (rows E1 a1.rules),.sl false 1 8 (rows E1 a1.B3)]]),some (.arr gs5 2 16 (rows w7.cells s5.1))])
        (fun(gt5:Nat) (t5:(List w7)×Int)=>[(2,.ptr st.length 0 0 0),(3,.ptr (st.length+1) 0 0 0),(5,.sl false 2 16 (rows w7.cells v2.1)),(6,.sl false 2 16 (rows w7.cells v2.2.1)),(8,.int .i64 s0),(9,.ref false (st.length+2) gt5 0 t5.1.length),(10,.int .i64 t5.2)])
        (fun(gt5:Nat) (t5:(List w7)×Int)=>st++[some (.arr 0 5 0 [[.sl false 2 40 (rows x5.cells a0.hierarchy.types),.sl false 3 32 (rows A0.cells a0.hierarchy.C2),.sl false 10 152 (rows w8.cells a0.rules),.sl false 9 144 (rows D0.cells a0.B3),.sl false 2 32 (rows y4.cells a0.start.nodes)]]),some (.arr 0 2 0 [[.sl false 1 8 (rows E1 a1.rules),.sl false 1 8 (rows E1 a1.B3)]]),some (.arr gt5 2 16 (rows w7.cells t5.1))])
        gt4 h (bm hsc)
        (fun gs5 s5 b5 h hx5=>?_) (fun gt5 t5 fr1 st1 h hb=>?_)
       ·unfold K3 at h
        refine cd h (fun hc h=>?_) fun hc h=>?_
        ·refine cl h (cW _ _ _) fun v91 h=>?_
         refine cd h (fun hc h=>?_) fun hc h=>?_
         ·obtain⟨fx,h⟩:=ck fx h
          obtain⟨c95,Km,h⟩:=lK h
          have fy:=(show rows w7.cells s5.1++[[.int .i64 ((get v2.2.1 s5.2.2.toNat).num),.int .i64 ((get v2.2.1 s5.2.2.toNat).den)]]=rows w7.cells c95 from by rw[Km];first|exact bA (E:=w7.cells) s5.1 [(get v2.2.1 s5.2.2.toNat)]|simp only[go_sem,rows,List.map_append,List.map_cons,List.map_nil])
          have fy:=fa fy (show s5.1.length+1=c95.length from by rw[Km];simp)
          obtain⟨fx,h⟩:=ck fx h
          refine r1 ?_
          obtain⟨fx,h⟩:=ck fx h
          refine rn ?_
          cases h
          exact J2 (gs5+1) (bm hsc)
         ·refine rn ?_
          cases h
          exact J2 gs5 (bm hsc)
        ·refine rn ?_
         cases h
         exact U0 gs5 (bm hsc)
       ·try simp only[go_sem,fx]
        unfold K4 at h
        refine R8 hb ?_
        refine rn ?_
        obtain⟨v101,hv101,h⟩:=E7 h
        refine((AX n _ _ hv101).borrow (args:=[.ref false (st.length+2) gt5 0 t5.1.length]) (.cons _ _ _ _ (.ref _ _ _ _ _ _ _ _ _ (nK.trans rfl) rj (by decide) (sD _) (by simp only[go_sem])) .nil) (by simp) rfl ) ?_
        refine rn ?_
        refine eP (E9 v101 s0) b0 (fun(gj6:Unit) (j6:Int)=>[(2,.ptr st.length 0 0 0),(3,.ptr (st.length+1) 0 0 0),(5,.sl false 2 16 (rows w7.cells v2.1)),(6,.sl false 2 16 (rows w7.cells v2.2.1)),(8,.int .i64 s0),(13,.ptr (st.length+3) 0 0 0),(14,.ptr (st.length+4) 0 0 0),(15,.ptr (st.length+5) 0 0 0)]) (fun(gj6:Unit) (j6:Int)=>st++[some (.arr 0 5 0 [[.sl false 2 40 (rows x5.cells a0.hierarchy.types),.sl false 3 32 (rows A0.cells a0.hierarchy.C2),.sl false 10 152 (rows w8.cells a0.rules),.sl false 9 144 (rows D0.cells a0.B3),.sl false 2 32 (rows y4.cells a0.start.nodes)]]),some (.arr 0 2 0 [[.sl false 1 8 (rows E1 a1.rules),.sl false 1 8 (rows E1 a1.B3)]]),none,some (.arr 0 2 0 [[.int .i64 v101.1.num,.int .i64 v101.1.den]]),some (.arr 0 2 0 [[.int .i64 v101.2.code,.int .i64 v101.2.index]]),some (.arr 0 2 0 [[.int .i64 j6,.int .i64 1]])]) (fun gj6 j6 fr1 st1 h hb=>?_) (fun hj6=>?_)
        ·try simp only[go_sem,fx]
         unfold E9 at h
         refine R8 hb ?_
         refine cd h (fun hc h=>?_) fun hc h=>?_
         ·refine ra ?_
          cases h
          refine aA ?_;have h:=congrArg some (hx0 _ rfl)
          exact rt
         ·refine rn ?_
          cases h
          exact J2 () (bm hsc)
        ·refine cd h (fun hc h=>?_) fun hc h=>?_
         ·refine r0 ?_
          refine hj6 () _ _ _ h ?_;exact(bm hsc)
         ·refine r0 ?_
          refine hj6 () _ _ _ h ?_;exact(bm hsc)
     ·refine rn ?_
      cases h
      exact U0 () (bm0 hsc)
    ·try simp only[go_sem,fx]
     unfold R7 at h
     refine R8 hb ?_
     exact rt
end Go.Proofs.YtoekkdodipnmpaaGreatDoor
