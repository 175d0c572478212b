import Derived.Test.YtfogbhjeihkliaaGreatDoorDXWalk9
set_option linter.unusedVariables false
set_option linter.unusedSimpArgs false
set_option maxHeartbeats 2000000
set_option maxRecDepth 100000
namespace Go.Proofs.YtfogbhjeihkliaaGreatDoor
open Go Go.Am
theorem od(n:Nat)(a0:x9)(r:w9)(h:X8 n a0=some r):Pure Tryz.prog gl 113 [.agg [.int .i64 a0.kind,.str a0.name,.int .i64 a0.index,.str a0.type.base,.sl false 2 40 (rows w6.cells a0.type.args),.sl false 6 96 (rows x9.cells a0.args)]] (.agg [.int .i64 r.code,.int .i64 r.index]):=by
 intro st
 unfold X8 at h
 have fx:=trivial
 refine fb 177 [.cell 2 37] [0,1,2,3,4,5,6,7,8,9,10,11,13,19,38,39,40,41,46,47,48,49,61,62,63,64,65,66,67,68,71,72,73,74,75,76,77,78,81,82,83,84,85,86,87,88,89,90,91,92,93,96,101,102,103,104,105,110,111,112,115,116,117,118,119,124,125,126,127,128,129,130,131,132,133,134,136,144,152,174] Tryz.func113 fun hsc=>?_
 refine rn ?_
 refine E8 (body:=C6 n) (kk:=aB n a0) (n:=n) (s0:=([(y3.mk a0 1 0)],0,1))
  (fun(gs0:Nat) (s0:(List y3)×Int×Nat)=>[(1,.ptr st.length 0 0 0),(2,.ptr (st.length+1) 0 0 0),(3,.ref false (st.length+2) gs0 0 s0.2.2),(4,.int .i64 s0.2.1)])
  (fun(gs0:Nat) (s0:(List y3)×Int×Nat)=>st++[some (.arr 0 6 0 [[.int .i64 a0.kind,.str a0.name,.int .i64 a0.index,.str a0.type.base,.sl false 2 40 (rows w6.cells a0.type.args),.sl false 6 96 (rows x9.cells a0.args)]]),some (.arr 0 2 0 [[.int .i64 0,.int .i64 0]]),some (.arr gs0 8 112 (rows y3.cells s0.1))])
  (fun(gt0:Unit) (t0:Unit)=>[(1,.ptr st.length 0 0 0),(2,.ptr (st.length+1) 0 0 0)])
  (fun(gt0:Unit) (t0:Unit)=>st++[some (.arr 0 6 0 [[.int .i64 a0.kind,.str a0.name,.int .i64 a0.index,.str a0.type.base,.sl false 2 40 (rows w6.cells a0.type.args),.sl false 6 96 (rows x9.cells a0.args)]]),some (.arr 0 2 0 [[.int .i64 0,.int .i64 0]])])
  0 h (bm hsc)
  (fun gs0 s0 b0 h hx0=>?_) (fun gt0 t0 fr1 st1 h hb=>?_)
 ·unfold C6 at h
  refine cd h (fun hc h=>?_) fun hc h=>?_
  ·refine r0 ?_
   refine r0 ?_
   obtain⟨fx,h⟩:=ck fx h
   obtain⟨fx,h⟩:=ck fx h
   have fy:=(show(rows y3.cells s0.1).getD ((wr .i64 ((↑s0.2.2:Int)-1)).toNat) []=y3.cells (get s0.1 ((wr .i64 ((↑s0.2.2:Int)-1)).toNat))from qg (E:=y3.cells) (l:=s0.1) (k:=(wr .i64 ((↑s0.2.2:Int)-1)).toNat) (by first|omega|(simp;omega)))
   have fy:=fa fy (show(wr .i64 ((↑s0.2.2:Int)-1)).toNat<s0.1.length from by first|omega|(simp;omega))
   refine r1 ?_
   obtain⟨fx,h⟩:=ck fx h
   refine rn ?_
   refine iI (D1 n s0) b0 (fun(gj4:Unit) (j4:Int)=>[(1,.ptr st.length 0 0 0),(2,.ptr (st.length+1) 0 0 0),(3,.ref false (st.length+2) gs0 0 ((wr .i64 ((↑s0.2.2:Int)-1)).toNat)),(4,.int .i64 s0.2.1),(5,.ptr (st.length+3) 0 0 0),(6,.ptr (st.length+4) 0 0 0),(7,.int .i64 j4)]) (fun(gj4:Unit) (j4:Int)=>st++[some (.arr 0 6 0 [[.int .i64 a0.kind,.str a0.name,.int .i64 a0.index,.str a0.type.base,.sl false 2 40 (rows w6.cells a0.type.args),.sl false 6 96 (rows x9.cells a0.args)]]),some (.arr 0 2 0 [[.int .i64 0,.int .i64 0]]),some (.arr gs0 8 112 (rows y3.cells s0.1)),some (.arr 0 8 0 [[.int .i64 ((get s0.1 ((wr .i64 ((↑s0.2.2:Int)-1)).toNat)).t.kind),.str ((get s0.1 ((wr .i64 ((↑s0.2.2:Int)-1)).toNat)).t.name),.int .i64 ((get s0.1 ((wr .i64 ((↑s0.2.2:Int)-1)).toNat)).t.index),.str ((get s0.1 ((wr .i64 ((↑s0.2.2:Int)-1)).toNat)).t.type.base),.sl false 2 40 (rows w6.cells ((get s0.1 ((wr .i64 ((↑s0.2.2:Int)-1)).toNat)).t.type.args)),.sl false 6 96 (rows x9.cells ((get s0.1 ((wr .i64 ((↑s0.2.2:Int)-1)).toNat)).t.args)),.int .i64 ((get s0.1 ((wr .i64 ((↑s0.2.2:Int)-1)).toNat)).depth),.int .i64 ((get s0.1 ((wr .i64 ((↑s0.2.2:Int)-1)).toNat)).bound)]]),some (.arr 0 6 0 [[.int .i64 ((get s0.1 ((wr .i64 ((↑s0.2.2:Int)-1)).toNat)).t.kind),.str ((get s0.1 ((wr .i64 ((↑s0.2.2:Int)-1)).toNat)).t.name),.int .i64 ((get s0.1 ((wr .i64 ((↑s0.2.2:Int)-1)).toNat)).t.index),.str ((get s0.1 ((wr .i64 ((↑s0.2.2:Int)-1)).toNat)).t.type.base),.sl false 2 40 (rows w6.cells ((get s0.1 ((wr .i64 ((↑s0.2.2:Int)-1)).toNat)).t.type.args)),.sl false 6 96 (rows x9.cells ((get s0.1 ((wr .i64 ((↑s0.2.2:Int)-1)).toNat)).t.args))]])]) (fun gj4 j4 fr1 st1 h hb=>?_) (fun hj4=>?_)
   ·try simp only[go_sem,fx]
    unfold D1 at h
    refine R4 hb ?_
    refine cd h (fun hc h=>?_) fun hc h=>?_
    ·refine ra ?_
     cases h
     refine aP ?_;have h:=congrArg some (hx0 _ rfl)
     exact rt
    ·refine rn ?_
     refine iI (N7 n s0) b0 (fun(gj5:Unit) (j5:Int)=>[(1,.ptr st.length 0 0 0),(2,.ptr (st.length+1) 0 0 0),(3,.ref false (st.length+2) gs0 0 ((wr .i64 ((↑s0.2.2:Int)-1)).toNat)),(4,.int .i64 s0.2.1),(5,.ptr (st.length+3) 0 0 0),(6,.ptr (st.length+4) 0 0 0),(10,.int .i64 j5)]) (fun(gj5:Unit) (j5:Int)=>st++[some (.arr 0 6 0 [[.int .i64 a0.kind,.str a0.name,.int .i64 a0.index,.str a0.type.base,.sl false 2 40 (rows w6.cells a0.type.args),.sl false 6 96 (rows x9.cells a0.args)]]),some (.arr 0 2 0 [[.int .i64 0,.int .i64 0]]),some (.arr gs0 8 112 (rows y3.cells s0.1)),some (.arr 0 8 0 [[.int .i64 ((get s0.1 ((wr .i64 ((↑s0.2.2:Int)-1)).toNat)).t.kind),.str ((get s0.1 ((wr .i64 ((↑s0.2.2:Int)-1)).toNat)).t.name),.int .i64 ((get s0.1 ((wr .i64 ((↑s0.2.2:Int)-1)).toNat)).t.index),.str ((get s0.1 ((wr .i64 ((↑s0.2.2:Int)-1)).toNat)).t.type.base),.sl false 2 40 (rows w6.cells ((get s0.1 ((wr .i64 ((↑s0.2.2:Int)-1)).toNat)).t.type.args)),.sl false 6 96 (rows x9.cells ((get s0.1 ((wr .i64 ((↑s0.2.2:Int)-1)).toNat)).t.args)),.int .i64 ((get s0.1 ((wr .i64 ((↑s0.2.2:Int)-1)).toNat)).depth),.int .i64 ((get s0.1 ((wr .i64 ((↑s0.2.2:Int)-1)).toNat)).bound)]]),some (.arr 0 6 0 [[.int .i64 ((get s0.1 ((wr .i64 ((↑s0.2.2:Int)-1)).toNat)).t.kind),.str ((get s0.1 ((wr .i64 ((↑s0.2.2:Int)-1)).toNat)).t.name),.int .i64 ((get s0.1 ((wr .i64 ((↑s0.2.2:Int)-1)).toNat)).t.index),.str ((get s0.1 ((wr .i64 ((↑s0.2.2:Int)-1)).toNat)).t.type.base),.sl false 2 40 (rows w6.cells ((get s0.1 ((wr .i64 ((↑s0.2.2:Int)-1)).toNat)).t.type.args)),.sl false 6 96 (rows x9.cells ((get s0.1 ((wr .i64 ((↑s0.2.2:Int)-1)).toNat)).t.args))]])]) (fun gj5 j5 fr1 st1 h hb=>?_) (fun hj5=>?_)
     ·try simp only[go_sem,fx]
      unfold N7 at h
      refine R4 hb ?_
      refine rn ?_
      refine E8 (body:=av s0 j5) (kk:=ay s0) (n:=n) (s0:=(s0.1,(wr .i64 ((↑(((get s0.1 ((wr .i64 ((↑s0.2.2:Int)-1)).toNat)).t.args).length):Int)-1)),(wr .i64 ((↑s0.2.2:Int)-1)).toNat))
       (fun(gs6:Nat) (s6:(List y3)×Int×Nat)=>[(1,.ptr st.length 0 0 0),(2,.ptr (st.length+1) 0 0 0),(3,.ref false (st.length+2) gs6 0 s6.2.2),(4,.int .i64 s0.2.1),(5,.ptr (st.length+3) 0 0 0),(6,.ptr (st.length+4) 0 0 0),(10,.int .i64 j5),(11,.int .i64 s6.2.1)])
       (fun(gs6:Nat) (s6:(List y3)×Int×Nat)=>st++[some (.arr 0 6 0 [[.int .i64 a0.kind,.str a0.name,.int .i64 a0.index,.str a0.type.base,.sl false 2 40 (rows w6.cells a0.type.args),.sl false 6 96 (rows x9.cells a0.args)]]),some (.arr 0 2 0 [[.int .i64 0,.int .i64 0]]),some (.arr gs6 8 112 (rows y3.cells s6.1)),some (.arr 0 8 0 [[.int .i64 ((get s0.1 ((wr .i64 ((↑s0.2.2:Int)-1)).toNat)).t.kind),.str ((get s0.1 ((wr .i64 ((↑s0.2.2:Int)-1)).toNat)).t.name),.int .i64 ((get s0.1 ((wr .i64 ((↑s0.2.2:Int)-1)).toNat)).t.index),.str ((get s0.1 ((wr .i64 ((↑s0.2.2:Int)-1)).toNat)).t.type.base),.sl false 2 40 (rows w6.cells ((get s0.1 ((wr .i64 ((↑s0.2.2:Int)-1)).toNat)).t.type.args)),.sl false 6 96 (rows x9.cells ((get s0.1 ((wr .i64 ((↑s0.2.2:Int)-1)).toNat)).t.args)),.int .i64 ((get s0.1 ((wr .i64 ((↑s0.2.2:Int)-1)).toNat)).depth),.int .i64 ((get s0.1 ((wr .i64 ((↑s0.2.2:Int)-1)).toNat)).bound)]]),some (.arr 0 6 0 [[.int .i64 ((get s0.1 ((wr .i64 ((↑s0.2.2:Int)-1)).toNat)).t.kind),.str ((get s0.1 ((wr .i64 ((↑s0.2.2:Int)-1)).toNat)).t.name),.int .i64 ((get s0.1 ((wr .i64 ((↑s0.2.2:Int)-1)).toNat)).t.index),.str ((get s0.1 ((wr .i64 ((↑s0.2.2:Int)-1)).toNat)).t.type.base),.sl false 2 40 (rows w6.cells ((get s0.1 ((wr .i64 ((↑s0.2.2:Int)-1)).toNat)).t.type.args)),.sl false 6 96 (rows x9.cells ((get s0.1 ((wr .i64 ((↑s0.2.2:Int)-1)).toNat)).t.args))]])])
       (fun(gt6:Nat) (t6:(List y3)×Nat)=>[(1,.ptr st.length 0 0 0),(2,.ptr (st.length+1) 0 0 0),(3,.ref false (st.length+2) gt6 0 t6.2),(4,.int .i64 s0.2.1)])
       (fun(gt6:Nat) (t6:(List y3)×Nat)=>st++[some (.arr 0 6 0 [[.int .i64 a0.kind,.str a0.name,.int .i64 a0.index,.str a0.type.base,.sl false 2 40 (rows w6.cells a0.type.args),.sl false 6 96 (rows x9.cells a0.args)]]),some (.arr 0 2 0 [[.int .i64 0,.int .i64 0]]),some (.arr gt6 8 112 (rows y3.cells t6.1))])
       gs0 h (bm hsc)
       (fun gs6 s6 b6 h hx6=>?_) (fun gt6 t6 fr1 st1 h hb=>?_)
      ·unfold av at h
       refine cd h (fun hc h=>?_) fun hc h=>?_
       ·refine rn ?_
        obtain⟨fx,h⟩:=ck fx h
        obtain⟨fx,h⟩:=ck fx h
        obtain⟨c57,UO,h⟩:=oz h
        have fy:=(show rows y3.cells (s6.1.take s6.2.2)++[[.int .i64 ((get ((get s0.1 ((wr .i64 ((↑s0.2.2:Int)-1)).toNat)).t.args) s6.2.1.toNat).kind),.str ((get ((get s0.1 ((wr .i64 ((↑s0.2.2:Int)-1)).toNat)).t.args) s6.2.1.toNat).name),.int .i64 ((get ((get s0.1 ((wr .i64 ((↑s0.2.2:Int)-1)).toNat)).t.args) s6.2.1.toNat).index),.str ((get ((get s0.1 ((wr .i64 ((↑s0.2.2:Int)-1)).toNat)).t.args) s6.2.1.toNat).type.base),.sl false 2 40 (rows w6.cells ((get ((get s0.1 ((wr .i64 ((↑s0.2.2:Int)-1)).toNat)).t.args) s6.2.1.toNat).type.args)),.sl false 6 96 (rows x9.cells ((get ((get s0.1 ((wr .i64 ((↑s0.2.2:Int)-1)).toNat)).t.args) s6.2.1.toNat).args)),.int .i64 (wr .i64 (((get s0.1 ((wr .i64 ((↑s0.2.2:Int)-1)).toNat)).depth)+1)),.int .i64 j5]]=rows y3.cells c57 from by rw[UO];first|exact U8 (E:=y3.cells) (s6.1.take s6.2.2) [(y3.mk (get ((get s0.1 ((wr .i64 ((↑s0.2.2:Int)-1)).toNat)).t.args) s6.2.1.toNat) (wr .i64 (((get s0.1 ((wr .i64 ((↑s0.2.2:Int)-1)).toNat)).depth)+1)) j5)]|simp only[go_sem,rows,List.map_append,List.map_cons,List.map_nil])
        have fy:=fa fy (show s6.2.2+1=c57.length from by rw[UO];simp<;>omega)
        obtain⟨fx,h⟩:=ck fx h
        refine dwy [] 2 ?_
        refine rn ?_
        cases h
        exact F5 (gs6+1) (bm hsc)
       ·refine rn ?_
        cases h
        exact K7 gs6 (bm hsc)
      ·try simp only[go_sem,fx]
       unfold ay at h
       refine R4 hb ?_
       refine rn ?_
       cases h
       exact F5 gt6 (bm hsc)
     ·refine cd h (fun hc h=>?_) fun hc h=>?_
      ·refine r0 ?_
       refine hj5 () _ _ _ h ?_;exact(bm hsc)
      ·refine r0 ?_
       refine hj5 () _ _ _ h ?_;exact(bm hsc)
   ·refine cd h (fun hc h=>?_) fun hc h=>?_
    ·refine r0 ?_
     refine hj4 () _ _ _ h ?_;exact(bm hsc)
    ·refine cd h (fun hc h=>?_) fun hc h=>?_
     ·refine r0 ?_
      refine hj4 () _ _ _ h ?_;exact(bm hsc)
     ·obtain⟨fx,h⟩:=ck fx h
      have fy:=(show [[D.int .i64 0],[D.int .i64 0],[D.int .i64 0],[D.int .i64 1],[D.int .i64 2]].getD (((get s0.1 ((wr .i64 ((↑s0.2.2:Int)-1)).toNat)).t.kind).toNat) [D.int .i64 0]=[D.int .i64 (get [0,0,0,1,2] (((get s0.1 ((wr .i64 ((↑s0.2.2:Int)-1)).toNat)).t.kind).toNat))]from NH [0,0,0,1,2] _)
      refine r1 ?_
      refine rn ?_
      obtain⟨v41,hv41,h⟩:=F9 h
      refine kG (fun hG=>(pX _ _ (tO hv41 (by simpa using hG)))) ?_
      refine cd h (fun hc h=>?_) fun hc h=>?_
      ·refine r0 ?_
       refine hj4 () _ _ _ h ?_;exact(bm hsc)
      ·refine rn ?_
       obtain⟨v42,hv42,h⟩:=F9 h
       refine kG (fun hG=>(qP n _ _ (tO hv42 (by simpa using hG)))) ?_
       refine cd h (fun hc h=>?_) fun hc h=>?_
       ·refine r0 ?_
        refine hj4 () _ _ _ h ?_;exact(bm hsc)
       ·refine rn ?_
        obtain⟨v43,hv43,h⟩:=F9 h
        refine kG (fun hG=>(mH n _ _ (tO hv43 (by simpa using hG)))) ?_
        refine cd h (fun hc h=>?_) fun hc h=>?_
        ·refine r0 ?_
         refine hj4 () _ _ _ h ?_;exact(bm hsc)
        ·refine cd h (fun hc h=>?_) fun hc h=>?_
         ·refine r0 ?_
          refine hj4 () _ _ _ h ?_;exact(bm hsc)
         ·refine r0 ?_
          refine hj4 () _ _ _ h ?_;exact(bm hsc)
  ·refine rn ?_
   cases h
   exact K7 () (bm hsc)
 ·try simp only[go_sem,fx]
  unfold aB at h
  refine R4 hb ?_
  refine cl h (pY n _) fun v62 h=>?_
  refine cd h (fun hc h=>?_) fun hc h=>?_
  ·exact rt
  ·exact rt
theorem fR(n:Nat)(a0:x9)(r:w9)(h:N9 n a0=some r):Pure Tryz.prog gl 86 [.agg [.int .i64 a0.kind,.str a0.name,.int .i64 a0.index,.str a0.type.base,.sl false 2 40 (rows w6.cells a0.type.args),.sl false 6 96 (rows x9.cells a0.args)]] (.agg [.int .i64 r.code,.int .i64 r.index]):=by
 intro st
 unfold N9 at h
 have fx:=trivial
 refine fb 5 [.cell 2 37] [0,1,2] Tryz.func86 fun hsc=>?_
 refine cl h (od n _) fun v1 h=>?_
 exact rt
theorem og(n:Nat)(a0:y6)(a1:x6)(r:Int)(h:X9 n a0 a1=some r):Pure Tryz.prog gl 58 [.agg [.sl false 2 40 (rows x7.cells a0.types),.sl false 3 32 (rows y8.cells a0.C1)],.agg [.str a1.name,.sl false 2 32 (rows y4.cells a1.graph.nodes),.int .i64 a1.kids,.int .i64 a1.weight,.int .i64 a1.meaning.kind,.str a1.meaning.name,.int .i64 a1.meaning.index,.str a1.meaning.type.base,.sl false 2 40 (rows w6.cells a1.meaning.type.args),.sl false 6 96 (rows x9.cells a1.meaning.args)]] (.int .i64 r):=by
 intro st
 unfold X9 at h
 have fx:=trivial
 refine fb 52 [.tmp 4] [0,1,2,3,4,5,6,11,12,13,16,17,18,21,22,23,24,31,34,35,46] Tryz.func58 fun hsc=>?_
 refine cd h (fun hc h=>?_) fun hc h=>?_
 ·exact rt
 ·refine cl h (cr n _ _) fun v1 h=>?_
  refine cd h (fun hc h=>?_) fun hc h=>?_
  ·exact rt
  ·refine rn ?_
   refine rng (body:=K0 a1) (kk:=aC n a1) (n:=4) (s0:=())
    (fun(gs0:Unit) (k0:Nat) (s0:Unit)=>[(3,.ptr (st.length+1) 0 0 0),(34,.int .i64 (↑k0:Int))])
    (fun(gs0:Unit) (k0:Nat) (s0:Unit)=>st++[none,some (.arr 0 10 0 [[.str a1.name,.sl false 2 32 (rows y4.cells a1.graph.nodes),.int .i64 a1.kids,.int .i64 a1.weight,.int .i64 a1.meaning.kind,.str a1.meaning.name,.int .i64 a1.meaning.index,.str a1.meaning.type.base,.sl false 2 40 (rows w6.cells a1.meaning.type.args),.sl false 6 96 (rows x9.cells a1.meaning.args)]])])
    (fun(gt0:Unit) (t0:Unit)=>[(3,.ptr (st.length+1) 0 0 0)])
    (fun(gt0:Unit) (t0:Unit)=>st++[none,some (.arr 0 10 0 [[.str a1.name,.sl false 2 32 (rows y4.cells a1.graph.nodes),.int .i64 a1.kids,.int .i64 a1.weight,.int .i64 a1.meaning.kind,.str a1.meaning.name,.int .i64 a1.meaning.index,.str a1.meaning.type.base,.sl false 2 40 (rows w6.cells a1.meaning.type.args),.sl false 6 96 (rows x9.cells a1.meaning.args)]])])
    () fx (by decide) h (bm hsc)
    (fun gs0 k0 s0 b0 fx h hx0=>?_) (fun gs0 s0=>?_) (fun gt0 t0 fr1 st1 h hb=>?_)
   ·unfold K0 at h
    have fx:=fa fx (show(↑k0:Int)<4 by omega)
    refine ct ?_
    refine rn ?_
    refine dw [] 0 ?_
    obtain⟨v2,hv2,h⟩:=F9 h
    refine A9 (pZ _ _ _ _ hv2) ?_
    try simp only[go_sem,fx]
    refine cd h (fun hc h=>?_) fun hc h=>?_
    ·refine ra ?_
     cases h
     refine F4 ?_;have h:=congrArg some (hx0 _ rfl)
     exact rt
    ·refine rn ?_
     cases h
     exact gW () (bm hsc)
   ·refine cf ?_
    refine gV ?_;simp only[go_sem,fx]
    exact⟨(),(bm hsc)⟩
   ·try simp only[go_sem,fx]
    unfold aC at h
    refine R4 hb ?_
    refine cl h (fR n _) fun v3 h=>?_
    exact rt
theorem ng(n:Nat)(a0:Bs)(r:Int)(h:W2 n a0=some r):Pure Tryz.prog gl 114 [.str a0] (.int .i64 r):=by
 intro st
 unfold W2 at h
 have fx:=trivial
 refine fb 86 [.tmp 2] [0,2,3,4,5,6,7,10,13,17,18,23,27,28,33,37,38,46,49,57,58,59,60,61,74,75,78,79,80,81,82,83,84] Tryz.func114 fun hsc=>?_
 obtain⟨fx,h⟩:=ck fx h
 refine cd h (fun hc h=>?_) fun hc h=>?_
 ·exact rt
 ·refine rn ?_
  refine iI (G1 n a0) r (fun(gj0:Unit) (j0:Int×Int×Int)=>[(0,.str a0),(4,.int .i64 j0.1),(5,.int .i64 j0.2.1),(6,.int .i64 j0.2.2)]) (fun(gj0:Unit) (j0:Int×Int×Int)=>st) (fun gj0 j0 fr1 st1 h hb=>?_) (fun hj0=>?_)
  ·try simp only[go_sem,fx]
   unfold G1 at h
   refine R4 hb ?_
   refine cd h (fun hc h=>?_) fun hc h=>?_
   ·exact rt
   ·refine rn ?_
    refine E8 (body:=F1 j0 a0) (kk:=Y8 j0) (n:=n) (s0:=(j0.2.2,1))
     (fun(gs1:Unit) (s1:Int×Int)=>[(0,.str a0),(4,.int .i64 j0.1),(5,.int .i64 j0.2.1),(6,.int .i64 s1.1),(7,.int .i64 s1.2)])
     (fun(gs1:Unit) (s1:Int×Int)=>st)
     (fun(gt1:Unit) (t1:Int)=>[(4,.int .i64 j0.1),(5,.int .i64 j0.2.1),(6,.int .i64 t1)])
     (fun(gt1:Unit) (t1:Int)=>st)
     () h (gX hsc)
     (fun gs1 s1 b1 h hx1=>?_) (fun gt1 t1 fr1 st1 h hb=>?_)
    ·unfold F1 at h
     refine cd h (fun hc h=>?_) fun hc h=>?_
     ·obtain⟨fx,h⟩:=ck fx h
      refine cd h (fun hc h=>?_) fun hc h=>?_
      ·refine ra ?_
       cases h
       refine aP ?_;have h:=congrArg some (hx1 _ rfl)
       exact rt
      ·refine rn ?_
       cases h
       exact F5 () (gX hsc)
     ·refine rn ?_
      cases h
      exact K7 () (gX hsc)
    ·try simp only[go_sem,fx]
     unfold Y8 at h
     refine R4 hb ?_
     refine cd h (fun hc h=>?_) fun hc h=>?_
     ·exact rt
     ·exact rt
  ·refine cd h (fun hc h=>?_) fun hc h=>?_
   ·refine r0 ?_
    refine hj0 () _ _ _ h ?_;exact(gX hsc)
   ·refine cd h (fun hc h=>?_) fun hc h=>?_
    ·refine r0 ?_
     refine hj0 () _ _ _ h ?_;exact(gX hsc)
    ·refine cd h (fun hc h=>?_) fun hc h=>?_
     ·refine r0 ?_
      refine hj0 () _ _ _ h ?_;exact(gX hsc)
     ·exact rt
theorem qQ(n:Nat)(a0:Bs)(r:Bool)(h:dn n a0=some r):Pure Tryz.prog gl 87 [.str a0] (.bool r):=by
 intro st
 unfold dn at h
 have fx:=trivial
 refine fb 68 [.tmp 2] [0,2,3,5,6,7,9,10,11,18,19,22,23,26,27,30,31,34,35,38,39,42,43,46,47,48,52,53,54,58,64] Tryz.func87 fun hsc=>?_
 refine rn ?_
 refine E8 (body:=dJ a0) (kk:=dK n a0) (n:=n) (s0:=(0,0))
  (fun(gs0:Unit) (s0:Nat×Int)=>[(0,.str a0),(3,.int .i64 s0.2),(9,.it st.length)])
  (fun(gs0:Unit) (s0:Nat×Int)=>st++[some (.sit a0 s0.1)])
  (fun(gt0:Unit) (t0:Int)=>[(0,.str a0),(3,.int .i64 t0)])
  (fun(gt0:Unit) (t0:Int)=>st)
  () h (bm hsc)
  (fun gs0 s0 b0 h hx0=>?_) (fun gt0 t0 fr1 st1 h hb=>?_)
 ·unfold dJ at h
  refine cd h (fun hc h=>?_) fun hc h=>?_
  ·obtain⟨fx,h⟩:=ck fx h
   refine cd h (fun hc h=>?_) fun hc h=>?_
   ·refine ra ?_
    cases h
    refine aP ?_;have h:=congrArg some (hx0 _ rfl)
    exact rt
   ·refine rn ?_
    cases h
    exact F5 () (bm hsc)
  ·refine rn ?_
   cases h
   exact K7 () (bm0 hsc)
 ·try simp only[go_sem,fx]
  unfold dK at h
  refine R4 hb ?_
  refine cd h (fun hc h=>?_) fun hc h=>?_
  ·exact rt
  ·refine rn ?_
   refine E8 (body:=dL n a0) (kk:=gS) (n:=n) (s0:=0)
    (fun(gs1:Unit) (s1:Int)=>[(0,.str a0),(6,.int .i64 s1)])
    (fun(gs1:Unit) (s1:Int)=>st)
    (fun(gt1:Unit) (t1:Unit)=>[])
    (fun(gt1:Unit) (t1:Unit)=>st)
    () h (gX hsc)
    (fun gs1 s1 b1 h hx1=>?_) (fun gt1 t1 fr1 st1 h hb=>?_)
   ·unfold dL at h
    refine cd h (fun hc h=>?_) fun hc h=>?_
    ·obtain⟨fx,h⟩:=ck fx h
     refine cl h (ng n _) fun v8 h=>?_
     refine cd h (fun hc h=>?_) fun hc h=>?_
     ·refine ra ?_
      cases h
      refine aP ?_;have h:=congrArg some (hx1 _ rfl)
      exact rt
     ·refine rn ?_
      cases h
      exact F5 () (gX hsc)
    ·refine rn ?_
     cases h
     exact K7 () (gX hsc)
   ·try simp only[go_sem,fx]
    unfold gS at h
    refine R4 hb ?_
    exact rt
theorem oC(n:Nat)(a0:y6)(a1:C5)(r:Int)(h:aD n a0 a1=some r):Pure Tryz.prog gl 59 [.agg [.sl false 2 40 (rows x7.cells a0.types),.sl false 3 32 (rows y8.cells a0.C1)],.agg [.str a1.word,.sl false 2 32 (rows y4.cells a1.graph.nodes),.int .i64 a1.weight,.int .i64 a1.meaning.kind,.str a1.meaning.name,.int .i64 a1.meaning.index,.str a1.meaning.type.base,.sl false 2 40 (rows w6.cells a1.meaning.type.args),.sl false 6 96 (rows x9.cells a1.meaning.args)]] (.int .i64 r):=by
 intro st
 unfold aD at h
 have fx:=trivial
 refine fb 31 [.tmp 4] [0,1,2,3,4,5,9,14,15,16,17,24] Tryz.func59 fun hsc=>?_
 refine cl h (qQ n _) fun v1 h=>?_
 refine cd h (fun hc h=>?_) fun hc h=>?_
 ·exact rt
 ·refine cd h (fun hc h=>?_) fun hc h=>?_
  ·exact rt
  ·refine cl h (cr n _ _) fun v2 h=>?_
   refine cd h (fun hc h=>?_) fun hc h=>?_
   ·exact rt
   ·refine cl h (fR n _) fun v3 h=>?_
    exact rt
theorem mz(n:Nat)(a0:x5)(r:w9)(h:T3 n a0=some r):Pure Tryz.prog gl 27 [.agg [.sl false 2 40 (rows x7.cells a0.hierarchy.types),.sl false 3 32 (rows y8.cells a0.hierarchy.C1),.sl false 10 152 (rows x6.cells a0.rules),.sl false 9 144 (rows C5.cells a0.I7),.sl false 2 32 (rows y4.cells a0.start.nodes)]] (.agg [.int .i64 r.code,.int .i64 r.index]):=by
 intro st
 unfold T3 at h
 have fx:=trivial
 refine fb 108 [.cell 2 37] [0,1,2,3,4,5,7,8,9,10,11,12,18,24,31,32,33,34,35,38,39,40,41,48,54,55,56,57,64,73,79,80,81,82,91,103] Tryz.func27 fun hsc=>?_
 refine cl h (lf n _) fun v1 h=>?_
 refine cd h (fun hc h=>?_) fun hc h=>?_
 ·exact rt
 ·refine cd h (fun hc h=>?_) fun hc h=>?_
  ·exact rt
  ·refine cd h (fun hc h=>?_) fun hc h=>?_
   ·exact rt
   ·refine aln 38 fun hl0=>?_
    refine rng (body:=V0 n a0) (kk:=V2 n a0) (n:=a0.rules.length) (s0:=())
     (fun(gs0:Unit) (k0:Nat) (s0:Unit)=>[(1,.ptr st.length 0 0 0),(2,.ptr (st.length+1) 0 0 0),(38,.sl false 10 152 (rows x6.cells a0.rules)),(39,.int .i64 (↑a0.rules.length:Int)),(40,.int .i64 (↑k0:Int))])
     (fun(gs0:Unit) (k0:Nat) (s0:Unit)=>st++[some (.arr 0 5 0 [[.sl false 2 40 (rows x7.cells a0.hierarchy.types),.sl false 3 32 (rows y8.cells a0.hierarchy.C1),.sl false 10 152 (rows x6.cells a0.rules),.sl false 9 144 (rows C5.cells a0.I7),.sl false 2 32 (rows y4.cells a0.start.nodes)]]),some (.arr 0 2 0 [[.int .i64 0,.int .i64 0]])])
     (fun(gt0:Unit) (t0:Unit)=>[(1,.ptr st.length 0 0 0),(2,.ptr (st.length+1) 0 0 0)])
     (fun(gt0:Unit) (t0:Unit)=>st++[some (.arr 0 5 0 [[.sl false 2 40 (rows x7.cells a0.hierarchy.types),.sl false 3 32 (rows y8.cells a0.hierarchy.C1),.sl false 10 152 (rows x6.cells a0.rules),.sl false 9 144 (rows C5.cells a0.I7),.sl false 2 32 (rows y4.cells a0.start.nodes)]]),some (.arr 0 2 0 [[.int .i64 0,.int .i64 0]])])
     () fx hl0 h (bm hsc)
     (fun gs0 k0 s0 b0 fx h hx0=>?_) (fun gs0 s0=>?_) (fun gt0 t0 fr1 st1 h hb=>?_)
    ·unfold V0 at h
     refine ct ?_
     refine cl h (gU _) fun v2 h=>?_
     refine cd h (fun hc h=>?_) fun hc h=>?_
     ·refine ra ?_
      cases h
      refine F4 ?_;have h:=congrArg some (hx0 _ rfl)
      exact rt
     ·obtain⟨fx,h⟩:=ck fx h
      refine aln 54 fun hl1=>?_
      refine rng (body:=P0 a0 k0) (kk:=V1 n a0 k0) (n:=(a0.rules.take k0).length) (s0:=())
       (fun(gs1:Unit) (k1:Nat) (s1:Unit)=>[(1,.ptr st.length 0 0 0),(2,.ptr (st.length+1) 0 0 0),(4,.int .i64 (↑k0:Int)),(5,.ptr (st.length+2) 0 0 0),(38,.sl false 10 152 (rows x6.cells a0.rules)),(39,.int .i64 (↑a0.rules.length:Int)),(40,.int .i64 (↑k0:Int)),(54,.sl false 10 152 (rows x6.cells (a0.rules.take k0))),(55,.int .i64 (↑((a0.rules.take k0).length):Int)),(56,.int .i64 (↑k1:Int))])
       (fun(gs1:Unit) (k1:Nat) (s1:Unit)=>st++[some (.arr 0 5 0 [[.sl false 2 40 (rows x7.cells a0.hierarchy.types),.sl false 3 32 (rows y8.cells a0.hierarchy.C1),.sl false 10 152 (rows x6.cells a0.rules),.sl false 9 144 (rows C5.cells a0.I7),.sl false 2 32 (rows y4.cells a0.start.nodes)]]),some (.arr 0 2 0 [[.int .i64 0,.int .i64 0]]),some (.arr 0 10 0 [[.str ((get a0.rules k0).name),.sl false 2 32 (rows y4.cells ((get a0.rules k0).graph.nodes)),.int .i64 ((get a0.rules k0).kids),.int .i64 ((get a0.rules k0).weight),.int .i64 ((get a0.rules k0).meaning.kind),.str ((get a0.rules k0).meaning.name),.int .i64 ((get a0.rules k0).meaning.index),.str ((get a0.rules k0).meaning.type.base),.sl false 2 40 (rows w6.cells ((get a0.rules k0).meaning.type.args)),.sl false 6 96 (rows x9.cells ((get a0.rules k0).meaning.args))]])])
       (fun(gt1:Unit) (t1:Unit)=>[(1,.ptr st.length 0 0 0),(2,.ptr (st.length+1) 0 0 0),(4,.int .i64 (↑k0:Int)),(5,.ptr (st.length+2) 0 0 0),(38,.sl false 10 152 (rows x6.cells a0.rules)),(39,.int .i64 (↑a0.rules.length:Int)),(40,.int .i64 (↑k0:Int))])
       (fun(gt1:Unit) (t1:Unit)=>st++[some (.arr 0 5 0 [[.sl false 2 40 (rows x7.cells a0.hierarchy.types),.sl false 3 32 (rows y8.cells a0.hierarchy.C1),.sl false 10 152 (rows x6.cells a0.rules),.sl false 9 144 (rows C5.cells a0.I7),.sl false 2 32 (rows y4.cells a0.start.nodes)]]),some (.arr 0 2 0 [[.int .i64 0,.int .i64 0]]),some (.arr 0 10 0 [[.str ((get a0.rules k0).name),.sl false 2 32 (rows y4.cells ((get a0.rules k0).graph.nodes)),.int .i64 ((get a0.rules k0).kids),.int .i64 ((get a0.rules k0).weight),.int .i64 ((get a0.rules k0).meaning.kind),.str ((get a0.rules k0).meaning.name),.int .i64 ((get a0.rules k0).meaning.index),.str ((get a0.rules k0).meaning.type.base),.sl false 2 40 (rows w6.cells ((get a0.rules k0).meaning.type.args)),.sl false 6 96 (rows x9.cells ((get a0.rules k0).meaning.args))]])])
       () fx hl1 h (bm hsc)
       (fun gs1 k1 s1 b1 fx h hx1=>?_) (fun gs1 s1=>?_) (fun gt1 t1 fr1 st1 h hb=>?_)
      ·unfold P0 at h
       refine ct ?_
       refine cd h (fun hc h=>?_) fun hc h=>?_
       ·refine ra ?_
        cases h
        refine F4 ?_;obtain rfl:=hx1 _ rfl;try simp only[go_sem,fx]
        refine F4 ?_;have h:=congrArg some (hx0 _ rfl)
        exact rt
       ·refine rn ?_
        cases h
        exact gW () (bm hsc)
      ·refine cf ?_
       refine gV ?_;simp only[go_sem,fx]
       exact⟨(),(bm hsc)⟩
      ·try simp only[go_sem,fx]
       unfold V1 at h
       refine R4 hb ?_
       refine cl h (og n _ _) fun v5 h=>?_
       refine cd h (fun hc h=>?_) fun hc h=>?_
       ·refine ra ?_
        cases h
        refine F4 ?_;have h:=congrArg some (hx0 _ rfl)
        exact rt
       ·refine rn ?_
        cases h
        exact gW () (bm hsc)
    ·refine cf ?_
     refine gV ?_;simp only[go_sem,fx]
     exact⟨(),(bm hsc)⟩
    ·try simp only[go_sem,fx]
     unfold V2 at h
     refine R4 hb ?_
     refine aln 79 fun hl2=>?_
     refine rng (body:=V3 n a0) (kk:=V4 n a0) (n:=a0.I7.length) (s0:=())
      (fun(gs2:Unit) (k2:Nat) (s2:Unit)=>[(1,.ptr st.length 0 0 0),(2,.ptr (st.length+1) 0 0 0),(79,.sl false 9 144 (rows C5.cells a0.I7)),(80,.int .i64 (↑a0.I7.length:Int)),(81,.int .i64 (↑k2:Int))])
      (fun(gs2:Unit) (k2:Nat) (s2:Unit)=>st++[some (.arr 0 5 0 [[.sl false 2 40 (rows x7.cells a0.hierarchy.types),.sl false 3 32 (rows y8.cells a0.hierarchy.C1),.sl false 10 152 (rows x6.cells a0.rules),.sl false 9 144 (rows C5.cells a0.I7),.sl false 2 32 (rows y4.cells a0.start.nodes)]]),some (.arr 0 2 0 [[.int .i64 0,.int .i64 0]])])
      (fun(gt2:Unit) (t2:Unit)=>[(1,.ptr st.length 0 0 0),(2,.ptr (st.length+1) 0 0 0)])
      (fun(gt2:Unit) (t2:Unit)=>st++[some (.arr 0 5 0 [[.sl false 2 40 (rows x7.cells a0.hierarchy.types),.sl false 3 32 (rows y8.cells a0.hierarchy.C1),.sl false 10 152 (rows x6.cells a0.rules),.sl false 9 144 (rows C5.cells a0.I7),.sl false 2 32 (rows y4.cells a0.start.nodes)]]),some (.arr 0 2 0 [[.int .i64 0,.int .i64 0]])])
      () fx hl2 h (bm hsc)
      (fun gs2 k2 s2 b2 fx h hx2=>?_) (fun gs2 s2=>?_) (fun gt2 t2 fr1 st1 h hb=>?_)
     ·unfold V3 at h
      refine ct ?_
      refine cl h (oC n _ _) fun v6 h=>?_
      refine cd h (fun hc h=>?_) fun hc h=>?_
      ·refine ra ?_
       cases h
       refine F4 ?_;have h:=congrArg some (hx2 _ rfl)
       exact rt
      ·refine rn ?_
       cases h
       exact gW () (bm hsc)
     ·refine cf ?_
      refine gV ?_;simp only[go_sem,fx]
      exact⟨(),(bm hsc)⟩
     ·try simp only[go_sem,fx]
      unfold V4 at h
      refine R4 hb ?_
      refine cl h (cr n _ _) fun v7 h=>?_
      refine cd h (fun hc h=>?_) fun hc h=>?_
      ·exact rt
      ·exact rt
end Go.Proofs.YtfogbhjeihkliaaGreatDoor
