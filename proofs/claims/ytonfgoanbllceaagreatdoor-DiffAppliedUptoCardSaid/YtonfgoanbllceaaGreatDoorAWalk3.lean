import Derived.Test.YtonfgoanbllceaaGreatDoorAWalk2
set_option linter.unusedVariables false
set_option linter.unusedSimpArgs false
set_option maxHeartbeats 2000000
set_option maxRecDepth 100000
namespace Go.Proofs.YtonfgoanbllceaaGreatDoor
open Go Go.Am
theorem kd(a0:B6)(a1:Int)(a2:Int)(r:Bool)(h:aE a0 a1 a2=some r):Pure Tryz.prog gl 81 [.agg [.sl false 1 8 (rows bP a0.up),.sl false 1 8 (rows bP a0.down)],.int .i64 a1,.int .i64 a2] (.bool r):=by
 intro st
 unfold aE at h
 have fx:=trivial
 refine fb 16 [.tmp 6] [0,1,2,3,6] Tryz.func81 fun hsc=>?_
 obtain⟨fx,h⟩:=ck fx h
 obtain⟨fx,h⟩:=ck fx h
 exact rt
theorem jg(a0:(List Bool))(a1:Bool)(r:Int)(h:L1 a0 a1=some r):Pure Tryz.prog gl 106 [.sl false 1 1 (rows D6 a0),.bool a1] (.int .i64 r):=by
 intro st
 unfold L1 at h
 have fx:=trivial
 refine fb 19 [.tmp 4] [0,1,4,5,7,8,9,16] Tryz.func106 fun hsc=>?_
 refine aln 0 fun hl0=>?_
 refine rng (body:=aW a1 a0) (kk:=eA) (n:=a0.length) (s0:=())
  (fun(gs0:Unit) (k0:Nat) (s0:Unit)=>[(0,.sl false 1 1 (rows D6 a0)),(1,.bool a1),(7,.int .i64 (↑a0.length:Int)),(8,.int .i64 (↑k0:Int))])
  (fun(gs0:Unit) (k0:Nat) (s0:Unit)=>st)
  (fun(gt0:Unit) (t0:Unit)=>[])
  (fun(gt0:Unit) (t0:Unit)=>st)
  () fx hl0 h (bW hsc)
  (fun gs0 k0 s0 b0 fx h hx0=>?_) (fun gs0 s0=>?_) (fun gt0 t0 fr1 st1 h hb=>?_)
 ·unfold aW at h
  refine ct ?_
  refine cd h (fun hc h=>?_) fun hc h=>?_
  ·refine ra ?_
   cases h
   refine D4 ?_;have h:=congrArg some (hx0 _ rfl)
   exact rt
  ·refine rn ?_
   cases h
   exact aT () (bW hsc)
 ·refine cf ?_
  refine X5 ?_;simp only[go_sem,fx]
  exact⟨(),(bW hsc)⟩
 ·try simp only[go_sem,fx]
  unfold eA at h
  refine K6 hb ?_
  exact rt
theorem ur(n:Nat)(a0:y5)(r:Int)(h:dY n a0=some r):Pure Tryz.prog gl 83 [.agg [.sl false 2 32 (rows x5.cells a0.nodes)]] (.int .i64 r):=by
 intro st
 unfold dY at h
 have fx:=trivial
 refine sA ?_;refine fb 58 [.tmp 2] [0,1,2,3,4,5,7,17,34,35,36,37,45] Tryz.func83 fun hsc=>?_
 refine r0 ?_
 obtain⟨fx,h⟩:=ck fx h
 have fy:=(show List.replicate a0.nodes.length [.bool false]=rows D6 (List.replicate a0.nodes.length (default:Bool))from sk (E:=D6) _ default)
 refine r1 ?_
 obtain⟨fx,h⟩:=ck fx h
 have fy:=(show(rows D6 (List.replicate a0.nodes.length (default:Bool))).getD 0 []=D6 (get (List.replicate a0.nodes.length (default:Bool)) 0)from oP (E:=D6) (l:=(List.replicate a0.nodes.length (default:Bool))) (k:=0) (by first|omega|(simp;omega)))
 have fy:=fa fy (show 0<a0.nodes.length from by first|omega|(simp;omega))
 obtain⟨c7,hc7,h⟩:=mO h
 have fy:=fa fy (show(rows D6 (List.replicate a0.nodes.length (default:Bool))).set 0 [.bool true]=rows D6 c7 from by rw[hc7];first|exact ER (E:=D6) _ _ _|simp only[go_sem,rows,List.map_set])
 refine r1 ?_
 have e9:D.ref true (st.length+1) 0 0 a0.nodes.length=D.ref true (st.length+1) 0 0 c7.length:=by simp[hc7]
 simp only[e9]
 refine rn ?_
 refine H9 (body:=fS a0) (kk:=fV) (n:=n) (s0:=(c7,[0],1))
  (fun(gs0:Nat×Nat) (s0:(List Bool)×(List Int)×Nat)=>[(1,.ptr st.length 0 0 0),(3,.ref true (st.length+1) gs0.1 0 s0.1.length),(4,.ref false (st.length+2) gs0.2 0 s0.2.2)])
  (fun(gs0:Nat×Nat) (s0:(List Bool)×(List Int)×Nat)=>st++[some (.arr 0 1 0 [[.sl false 2 32 (rows x5.cells a0.nodes)]]),some (.arr gs0.1 1 1 (rows D6 s0.1)),some (.arr gs0.2 1 8 (rows N3 s0.2.1))])
  (fun(gt0:Nat) (t0:(List Bool))=>[(3,.ref true (st.length+1) gt0 0 t0.length)])
  (fun(gt0:Nat) (t0:(List Bool))=>st++[none,some (.arr gt0 1 1 (rows D6 t0))])
  (0,0) h (bm hsc)
  (fun gs0 s0 b0 h hx0=>?_) (fun gt0 t0 fr1 st1 h hb=>?_)
 ·unfold fS at h
  refine cd h (fun hc h=>?_) fun hc h=>?_
  ·refine r0 ?_
   refine r0 ?_
   obtain⟨fx,h⟩:=ck fx h
   obtain⟨fx,h⟩:=ck fx h
   have fy:=(show(rows N3 s0.2.1).getD ((wr .i64 ((↑s0.2.2:Int)-1)).toNat) []=N3 (get s0.2.1 ((wr .i64 ((↑s0.2.2:Int)-1)).toNat))from oP (E:=N3) (l:=s0.2.1) (k:=(wr .i64 ((↑s0.2.2:Int)-1)).toNat) (by first|omega|(simp;omega)))
   have fy:=fa fy (show(wr .i64 ((↑s0.2.2:Int)-1)).toNat<s0.2.1.length from by first|omega|(simp;omega))
   refine r1 ?_
   obtain⟨fx,h⟩:=ck fx h
   obtain⟨fx,h⟩:=ck fx h
   refine aln 34 fun hl2=>?_
   refine rng (body:=fT a0 s0) (kk:=fU) (n:=((get a0.nodes ((get s0.2.1 ((wr .i64 ((↑s0.2.2:Int)-1)).toNat)).toNat)).links).length) (s0:=(s0.1,s0.2.1,(wr .i64 ((↑s0.2.2:Int)-1)).toNat))
    (fun(gs2:Nat×Nat) (k2:Nat) (s2:(List Bool)×(List Int)×Nat)=>[(1,.ptr st.length 0 0 0),(3,.ref true (st.length+1) gs2.1 0 s2.1.length),(4,.ref false (st.length+2) gs2.2 0 s2.2.2),(34,.sl false 2 16 (rows D3.cells ((get a0.nodes ((get s0.2.1 ((wr .i64 ((↑s0.2.2:Int)-1)).toNat)).toNat)).links))),(35,.int .i64 (↑(((get a0.nodes ((get s0.2.1 ((wr .i64 ((↑s0.2.2:Int)-1)).toNat)).toNat)).links).length):Int)),(36,.int .i64 (↑k2:Int))])
    (fun(gs2:Nat×Nat) (k2:Nat) (s2:(List Bool)×(List Int)×Nat)=>st++[some (.arr 0 1 0 [[.sl false 2 32 (rows x5.cells a0.nodes)]]),some (.arr gs2.1 1 1 (rows D6 s2.1)),some (.arr gs2.2 1 8 (rows N3 s2.2.1))])
    (fun(gt2:Nat×Nat) (t2:(List Bool)×(List Int)×Nat)=>[(1,.ptr st.length 0 0 0),(3,.ref true (st.length+1) gt2.1 0 t2.1.length),(4,.ref false (st.length+2) gt2.2 0 t2.2.2)])
    (fun(gt2:Nat×Nat) (t2:(List Bool)×(List Int)×Nat)=>st++[some (.arr 0 1 0 [[.sl false 2 32 (rows x5.cells a0.nodes)]]),some (.arr gt2.1 1 1 (rows D6 t2.1)),some (.arr gt2.2 1 8 (rows N3 t2.2.1))])
    (gs0.1,gs0.2) fx hl2 h (bm hsc)
    (fun gs2 k2 s2 b2 fx h hx2=>?_) (fun gs2 s2=>?_) (fun gt2 t2 fr1 st1 h hb=>?_)
   ·unfold fT at h
    refine ct ?_
    refine r0 ?_
    refine r0 ?_
    refine r0 ?_
    obtain⟨fx,h⟩:=ck fx h
    have fy:=(show(rows D6 s2.1).getD (((get ((get a0.nodes ((get s0.2.1 ((wr .i64 ((↑s0.2.2:Int)-1)).toNat)).toNat)).links) k2).to_).toNat) []=D6 (get s2.1 (((get ((get a0.nodes ((get s0.2.1 ((wr .i64 ((↑s0.2.2:Int)-1)).toNat)).toNat)).links) k2).to_).toNat))from oP (E:=D6) (l:=s2.1) (k:=((get ((get a0.nodes ((get s0.2.1 ((wr .i64 ((↑s0.2.2:Int)-1)).toNat)).toNat)).links) k2).to_).toNat) (by first|omega|(simp;omega)))
    have fy:=fa fy (show((get ((get a0.nodes ((get s0.2.1 ((wr .i64 ((↑s0.2.2:Int)-1)).toNat)).toNat)).links) k2).to_).toNat<s2.1.length from by first|omega|(simp;omega))
    refine r1 ?_
    refine cd h (fun hc h=>?_) fun hc h=>?_
    ·have fy:=(show(rows D6 s2.1).getD (((get ((get a0.nodes ((get s0.2.1 ((wr .i64 ((↑s0.2.2:Int)-1)).toNat)).toNat)).links) k2).to_).toNat) []=D6 (get s2.1 (((get ((get a0.nodes ((get s0.2.1 ((wr .i64 ((↑s0.2.2:Int)-1)).toNat)).toNat)).links) k2).to_).toNat))from oP (E:=D6) (l:=s2.1) (k:=((get ((get a0.nodes ((get s0.2.1 ((wr .i64 ((↑s0.2.2:Int)-1)).toNat)).toNat)).links) k2).to_).toNat) (by first|omega|(simp;omega)))
     have fy:=fa fy (show((get ((get a0.nodes ((get s0.2.1 ((wr .i64 ((↑s0.2.2:Int)-1)).toNat)).toNat)).links) k2).to_).toNat<s2.1.length from by first|omega|(simp;omega))
     obtain⟨c79,TM,h⟩:=mO h
     have fy:=fa fy (show(rows D6 s2.1).set (((get ((get a0.nodes ((get s0.2.1 ((wr .i64 ((↑s0.2.2:Int)-1)).toNat)).toNat)).links) k2).to_).toNat) [.bool true]=rows D6 c79 from by rw[TM];first|exact ER (E:=D6) _ _ _|simp only[go_sem,rows,List.map_set])
     refine r1 ?_
     have e81:D.ref true (st.length+1) gs2.1 0 s2.1.length=D.ref true (st.length+1) gs2.1 0 c79.length:=by simp[TM]
     simp only[e81]
     obtain⟨fx,h⟩:=ck fx h
     obtain⟨c84,TN,h⟩:=mO h
     have fy:=(show rows N3 (s2.2.1.take s2.2.2)++[[.int .i64 ((get ((get a0.nodes ((get s0.2.1 ((wr .i64 ((↑s0.2.2:Int)-1)).toNat)).toNat)).links) k2).to_)]]=rows N3 c84 from by rw[TN];first|exact N9 (E:=N3) (s2.2.1.take s2.2.2) [(get ((get a0.nodes ((get s0.2.1 ((wr .i64 ((↑s0.2.2:Int)-1)).toNat)).toNat)).links) k2).to_]|simp only[go_sem,rows,List.map_append,List.map_cons,List.map_nil])
     have fy:=fa fy (show s2.2.2+1=c84.length from by rw[TN];simp<;>omega)
     obtain⟨fx,h⟩:=ck fx h
     refine r1 ?_
     refine rn ?_
     cases h
     exact aT (gs2.1,(gs2.2+1)) (bm hsc)
    ·refine rn ?_
     cases h
     exact aT (gs2.1,gs2.2) (bm hsc)
   ·refine cf ?_
    refine X5 ?_;simp only[go_sem,fx]
    exact⟨(gs2.1,gs2.2),(bm hsc)⟩
   ·try simp only[go_sem,fx]
    unfold fU at h
    cases h
    exact I6 (gt2.1,gt2.2) (hb.trans (bm hsc))
  ·refine rn ?_
   cases h
   exact T2 gs0.1 (bm hsc)
 ·try simp only[go_sem,fx]
  unfold fV at h
  refine K6 hb ?_
  refine rn ?_
  obtain⟨v89,hv89,h⟩:=E4 h
  refine KG ?_;refine((jg _ _ _ hv89).borrow (args:=[.ref true (st.length+1) gt0 0 t0.length,.bool false]) (.cons _ _ _ _ (.ref _ _ _ _ _ _ _ _ _ (iC.trans rfl) Bv (by decide) (lQ _) (by simp only[go_sem])) (.cons _ _ _ _ .s .nil)) (by simp) rfl ) ?_
  exact rt
theorem mR(n:Nat)(a0:w5)(a1:B6)(a2:y5)(r:x6)(h:gQ n a0 a1 a2=some r):Pure Tryz.prog gl 53 [.agg [.sl false 2 40 (rows w8.cells a0.types),.sl false 3 32 (rows y3.cells a0.B1)],.agg [.sl false 1 8 (rows bP a1.up),.sl false 1 8 (rows bP a1.down)],.agg [.sl false 2 32 (rows x5.cells a2.nodes)]] (.agg [.int .i64 r.code,.int .i64 r.index]):=by
 intro st
 unfold gQ at h
 have fx:=trivial
 refine fb 74 [.cell 6 41] [0,1,2,3,4,5,6,7,8,9,11,12,13,19,22,23,24,25,30,31,32,33,50,51,52,53,54,55,56,57,58,59,60,61,62,70] Tryz.func53 fun hsc=>?_
 refine cl h (AK _ _) fun v1 h=>?_
 refine cd h (fun hc h=>?_) fun hc h=>?_
 ·exact rt
 ·refine aln 22 fun hl0=>?_
  refine rng (body:=jt a2 a0 a1) (kk:=jw n a2) (n:=a2.nodes.length) (s0:=())
   (fun(gs0:Unit) (k0:Nat) (s0:Unit)=>[(3,.ptr st.length 0 0 0),(4,.ptr (st.length+1) 0 0 0),(5,.ptr (st.length+2) 0 0 0),(6,.ptr (st.length+3) 0 0 0),(22,.sl false 2 32 (rows x5.cells a2.nodes)),(23,.int .i64 (↑a2.nodes.length:Int)),(24,.int .i64 (↑k0:Int))])
   (fun(gs0:Unit) (k0:Nat) (s0:Unit)=>st++[some (.arr 0 2 0 [[.sl false 2 40 (rows w8.cells a0.types),.sl false 3 32 (rows y3.cells a0.B1)]]),some (.arr 0 2 0 [[.sl false 1 8 (rows bP a1.up),.sl false 1 8 (rows bP a1.down)]]),some (.arr 0 1 0 [[.sl false 2 32 (rows x5.cells a2.nodes)]]),some (.arr 0 2 0 [[.int .i64 0,.int .i64 0]])])
   (fun(gt0:Unit) (t0:Unit)=>[(5,.ptr (st.length+2) 0 0 0),(6,.ptr (st.length+3) 0 0 0)])
   (fun(gt0:Unit) (t0:Unit)=>st++[none,none,some (.arr 0 1 0 [[.sl false 2 32 (rows x5.cells a2.nodes)]]),some (.arr 0 2 0 [[.int .i64 0,.int .i64 0]])])
   () fx hl0 h (bm hsc)
   (fun gs0 k0 s0 b0 fx h hx0=>?_) (fun gs0 s0=>?_) (fun gt0 t0 fr1 st1 h hb=>?_)
  ·unfold jt at h
   refine ct ?_
   refine aln 30 fun hl2=>?_
   refine rng (body:=ju a2 k0 a0 a1) (kk:=jv) (n:=((get a2.nodes k0).links).length) (s0:=())
    (fun(gs2:Unit) (k2:Nat) (s2:Unit)=>[(3,.ptr st.length 0 0 0),(4,.ptr (st.length+1) 0 0 0),(5,.ptr (st.length+2) 0 0 0),(6,.ptr (st.length+3) 0 0 0),(8,.int .i64 (↑k0:Int)),(9,.ptr (st.length+4) 0 0 0),(22,.sl false 2 32 (rows x5.cells a2.nodes)),(23,.int .i64 (↑a2.nodes.length:Int)),(24,.int .i64 (↑k0:Int)),(30,.sl false 2 16 (rows D3.cells ((get a2.nodes k0).links))),(31,.int .i64 (↑(((get a2.nodes k0).links).length):Int)),(32,.int .i64 (↑k2:Int))])
    (fun(gs2:Unit) (k2:Nat) (s2:Unit)=>st++[some (.arr 0 2 0 [[.sl false 2 40 (rows w8.cells a0.types),.sl false 3 32 (rows y3.cells a0.B1)]]),some (.arr 0 2 0 [[.sl false 1 8 (rows bP a1.up),.sl false 1 8 (rows bP a1.down)]]),some (.arr 0 1 0 [[.sl false 2 32 (rows x5.cells a2.nodes)]]),some (.arr 0 2 0 [[.int .i64 0,.int .i64 0]]),some (.arr 0 2 0 [[.int .i64 ((get a2.nodes k0).type),.sl false 2 16 (rows D3.cells ((get a2.nodes k0).links))]])])
    (fun(gt2:Unit) (t2:Unit)=>[(3,.ptr st.length 0 0 0),(4,.ptr (st.length+1) 0 0 0),(5,.ptr (st.length+2) 0 0 0),(6,.ptr (st.length+3) 0 0 0),(22,.sl false 2 32 (rows x5.cells a2.nodes)),(23,.int .i64 (↑a2.nodes.length:Int)),(24,.int .i64 (↑k0:Int))])
    (fun(gt2:Unit) (t2:Unit)=>st++[some (.arr 0 2 0 [[.sl false 2 40 (rows w8.cells a0.types),.sl false 3 32 (rows y3.cells a0.B1)]]),some (.arr 0 2 0 [[.sl false 1 8 (rows bP a1.up),.sl false 1 8 (rows bP a1.down)]]),some (.arr 0 1 0 [[.sl false 2 32 (rows x5.cells a2.nodes)]]),some (.arr 0 2 0 [[.int .i64 0,.int .i64 0]])])
    () fx hl2 h (bm hsc)
    (fun gs2 k2 s2 b2 fx h hx2=>?_) (fun gs2 s2=>?_) (fun gt2 t2 fr1 st1 h hb=>?_)
   ·unfold ju at h
    refine ct ?_
    obtain⟨fx,h⟩:=ck fx h
    refine rn ?_
    refine dw [] 0 ?_
    obtain⟨v28,hv28,h⟩:=E4 h
    refine A9 (kd _ _ _ _ hv28) ?_
    obtain⟨fx,h⟩:=ck fx h
    try simp only[go_sem,fx]
    obtain⟨v32,hv32,h⟩:=E4 h
    refine bB (fun hG=>(kd _ _ _ _ (kh hv32 (by simpa using hG)))) ?_
    try simp only[go_sem,fx]
    refine cd h (fun hc h=>?_) fun hc h=>?_
    ·refine cl h (fZ _ _) fun v33 h=>?_
     refine ra ?_
     cases h
     refine D4 ?_;obtain rfl:=hx2 _ rfl;try simp only[go_sem,fx]
     refine D4 ?_;have h:=congrArg some (hx0 _ rfl)
     exact rt
    ·refine rn ?_
     cases h
     exact aT () (bm hsc)
   ·refine cf ?_
    refine X5 ?_;simp only[go_sem,fx]
    exact⟨(),(bm hsc)⟩
   ·try simp only[go_sem,fx]
    unfold jv at h
    refine K6 hb ?_
    refine rn ?_
    cases h
    exact aT () (bm hsc)
  ·refine cf ?_
   refine X5 ?_;simp only[go_sem,fx]
   exact⟨(),(bm hsc)⟩
  ·try simp only[go_sem,fx]
   unfold jw at h
   refine K6 hb ?_
   refine cl h (ur n _) fun v34 h=>?_
   refine cd h (fun hc h=>?_) fun hc h=>?_
   ·refine cl h (fZ _ _) fun v35 h=>?_
    exact rt
   ·exact rt
theorem qT(a0:Int)(r:Bool)(h:oz a0=some r):Pure Tryz.prog gl 121 [.int .i64 a0] (.bool r):=by
 intro st
 unfold oz at h
 have fx:=trivial
 refine fb 6 [.tmp 2] [0,2] Tryz.func121 fun hsc=>?_
 exact rt
theorem vn(a0:Int)(a1:Int)(r:Int)(h:iL a0 a1=some r):Pure Tryz.prog gl 112 [.int .i64 a0,.int .i64 a1] (.int .i64 r):=by
 intro st
 unfold iL at h
 have fx:=trivial
 refine fb 20 [.tmp 4] [0,1,4,5,6,11,12,13,16,19] Tryz.func112 fun hsc=>?_
 refine cl h (qT _) fun v1 h=>?_
 refine cl h (qT _) fun v2 h=>?_
 refine cd h (fun hc h=>?_) fun hc h=>?_
 ·refine cd h (fun hc h=>?_) fun hc h=>?_
  ·exact rt
  ·exact rt
 ·refine cd h (fun hc h=>?_) fun hc h=>?_
  ·exact rt
  ·refine cd h (fun hc h=>?_) fun hc h=>?_
   ·exact rt
   ·refine cd h (fun hc h=>?_) fun hc h=>?_
    ·exact rt
    ·exact rt
theorem pX(a0:D3)(a1:Int)(r:Int)(h:hY a0 a1=some r):Pure Tryz.prog gl 111 [.agg [.int .i64 a0.hJ,.int .i64 a0.to_],.int .i64 a1] (.int .i64 r):=by
 intro st
 unfold hY at h
 have fx:=trivial
 refine fb 9 [.tmp 4] [0,1,2,4] Tryz.func111 fun hsc=>?_
 refine cl h (vn _ _) fun v1 h=>?_
 exact rt
theorem dV(n:Nat)(a0:(List D3))(a1:Int)(r:Int×Bool)(h:F1 n a0 a1=some r):Pure Tryz.prog gl 110 [.sl false 2 16 (rows D3.cells a0),.int .i64 a1,.fn 111 [] []] (.tup [.int .i64 r.1,.bool r.2]):=by
 intro st
 unfold F1 at h
 have fx:=trivial
 refine fb 49 [.tmp 6,.tmp 7] [0,1,2,6,7,8,9,10,11,17,31,40,41,42,43,44,45,46,47] Tryz.func110 fun hsc=>?_
 refine rn ?_
 refine H9 (body:=G4 a0 a1) (kk:=G5 a0 a1) (n:=n) (s0:=((↑a0.length:Int),0))
  (fun(gs0:Unit) (s0:Int×Int)=>[(0,.sl false 2 16 (rows D3.cells a0)),(1,.int .i64 a1),(2,.fn 111 [] []),(8,.int .i64 (↑a0.length:Int)),(9,.int .i64 s0.2),(10,.int .i64 s0.1)])
  (fun(gs0:Unit) (s0:Int×Int)=>st)
  (fun(gt0:Unit) (t0:Int)=>[(0,.sl false 2 16 (rows D3.cells a0)),(1,.int .i64 a1),(2,.fn 111 [] []),(8,.int .i64 (↑a0.length:Int)),(9,.int .i64 t0)])
  (fun(gt0:Unit) (t0:Int)=>st)
  () h (bW hsc)
  (fun gs0 s0 b0 h hx0=>?_) (fun gt0 t0 fr1 st1 h hb=>?_)
 ·unfold G4 at h
  refine cd h (fun hc h=>?_) fun hc h=>?_
  ·obtain⟨fx,h⟩:=ck fx h
   refine cl h (pX _ _) fun v6 h=>?_
   refine cd h (fun hc h=>?_) fun hc h=>?_
   ·refine rn ?_
    cases h
    exact I6 () (bW hsc)
   ·refine rn ?_
    cases h
    exact I6 () (bW hsc)
  ·refine rn ?_
   cases h
   exact T2 () (bW hsc)
 ·try simp only[go_sem,fx]
  unfold G5 at h
  refine K6 hb ?_
  obtain⟨fx,h⟩:=ck fx h
  refine rn ?_
  obtain⟨v10,hv10,h⟩:=E4 h
  refine P4 (fun hG=>(pX _ _ _ (kh hv10 (by simpa using hG)))) ?_
  exact rt
theorem yC(n:Nat)(a0:y5)(a1:Int)(a2:Int)(r:Int)(h:kV n a0 a1 a2=some r):Pure Tryz.prog gl 97 [.agg [.sl false 2 32 (rows x5.cells a0.nodes)],.int .i64 a1,.int .i64 a2] (.int .i64 r):=by
 intro st
 unfold kV at h
 have fx:=trivial
 refine fb 32 [.tmp 6] [0,1,2,3,6,7,8,21] Tryz.func97 fun hsc=>?_
 obtain⟨fx,h⟩:=ck fx h
 refine cl h (dV n _ _) fun v3 h=>?_
 refine cd h (fun hc h=>?_) fun hc h=>?_
 ·exact rt
 ·obtain⟨fx,h⟩:=ck fx h
  exact rt
theorem vo(n:Nat)(a0:y5)(a1:Int)(r:Bool)(h:dr n a0 a1=some r):Pure Tryz.prog gl 77 [.agg [.sl false 2 32 (rows x5.cells a0.nodes)],.int .i64 a1] (.bool r):=by
 intro st
 unfold dr at h
 have fx:=trivial
 refine fb 18 [.tmp 4] [0,1,2,4,5,6,7,16] Tryz.func77 fun hsc=>?_
 refine rn ?_
 refine rng (body:=Y4 n a0 a1) (kk:=gK) (n:=4) (s0:=())
  (fun(gs0:Unit) (k0:Nat) (s0:Unit)=>[(1,.int .i64 a1),(2,.ptr st.length 0 0 0),(6,.int .i64 (↑k0:Int))])
  (fun(gs0:Unit) (k0:Nat) (s0:Unit)=>st++[some (.arr 0 1 0 [[.sl false 2 32 (rows x5.cells a0.nodes)]])])
  (fun(gt0:Unit) (t0:Unit)=>[])
  (fun(gt0:Unit) (t0:Unit)=>st)
  () fx (by decide) h (bm hsc)
  (fun gs0 k0 s0 b0 fx h hx0=>?_) (fun gs0 s0=>?_) (fun gt0 t0 fr1 st1 h hb=>?_)
 ·unfold Y4 at h
  have fx:=fa fx (show(↑k0:Int)<4 by omega)
  refine ct ?_
  refine cl h (yC n _ _ _) fun v1 h=>?_
  refine cd h (fun hc h=>?_) fun hc h=>?_
  ·refine ra ?_
   cases h
   refine D4 ?_;have h:=congrArg some (hx0 _ rfl)
   exact rt
  ·refine rn ?_
   cases h
   exact aT () (bm hsc)
 ·refine cf ?_
  refine X5 ?_;simp only[go_sem,fx]
  exact⟨(),(bm0 hsc)⟩
 ·try simp only[go_sem,fx]
  unfold gK at h
  refine K6 hb ?_
  exact rt
theorem M0(a0:Int)(jf:Int)(r:x6)(h:L6 a0 jf=some r):∀(st:St) (o0:Nat) (hnd: [o0].Nodup) (oM:Am.look st o0=some (.arr 0 1 0 [[.int .i64 jf]])),Am.Spec Tryz.prog gl 99 [.int .i64 a0,.ptr o0 0 0 0] st (fun d st'=>d= .agg [.int .i64 r.code,.int .i64 r.index]∧st'=puts st []):=by
 intro st o0 hnd oM
 unfold L6 at h
 have ho0:=cE oM
 have fx:=idf ho0
 refine fb 7 [.cell 3 41] [0,1,3] Tryz.func99 fun hsc=>?_
 refine lZ (s':=(Z4 st [(o0,(.arr 0 1 0 [[.int .i64 jf]]))])) (N6 (by simp[oM])) ?_
 refine rr ?_
 exact fuo (.agg [.int .i64 a0,.int .i64 jf]) (.same _) h hsc (hr:=by rintro rfl;exact⟨rfl,N6 (by simp[oM])⟩)
theorem sY:∀(n:Nat) (a0:u0) (a1:Int) (jf:Int) (r:Int×Int) (h:aI n a0 a1 jf=some r),∀(st:St) (o0 o1:Nat) (hnd: [o0,o1].Nodup) (oM:Am.look st o0=some (.arr 0 1 0 [[.int .i64 jf]])) (JG:Am.look st o1=some (.arr 0 1 0 [[.fn 113 [] [.ptr o0 0 0 0,.ptr o1 0 0 0]]])),Am.Spec Tryz.prog gl 113 [.agg [.str a0.base,.sl false 2 40 (rows u0.cells a0.args)],.int .i64 a1,.ptr o0 0 0 0,.ptr o1 0 0 0] st (fun d st'=>d= .int .i64 r.1∧st'=puts st [(o0,(.arr 0 1 0 [[.int .i64 r.2]])),(o1,(.arr 0 1 0 [[.fn 113 [] [.ptr o0 0 0 0,.ptr o1 0 0 0]]]))]):=by
 intro n
 induction n with
 |zero=>intro a0 a1 jf r h;cases h
 |succ n ih=>
  intro a0 a1 jf r h st o0 o1 hnd oM JG
  unfold aI at h
  have ho0:=cE oM
  have ho1:=cE JG
  have fx:=fa (fa (idf ho0) (idf ho1)) (nd2 hnd)
  refine fb 62 [.tmp 6] [0,1,2,3,4,6,7,9,10,16,17,18,23,24,25,29,30,31,32,35,36,37,38,39,40,41,42,43,45,47,48,49,50,59] Tryz.func113 fun hsc=>?_
  refine lZ (s':=(Z4 st [(o0,(.arr 0 1 0 [[.int .i64 jf]])),(o1,(.arr 0 1 0 [[.fn 113 [] [.ptr o0 0 0 0,.ptr o1 0 0 0]]]))])) (N6 (by simp[oM,JG])) ?_
  refine cd h (fun hc h=>?_) fun hc h=>?_
  ·refine rr ?_
   exact fuo (.int .i64 1) (.same _) h hsc
  ·refine cd h (fun hc h=>?_) fun hc h=>?_
   ·refine rr ?_
    exact fuo (.int .i64 5) (.same _) h hsc
   ·refine aln 47 fun hl0=>?_
    refine rng (body:=eN (aI n) a0 a1) (kk:=eO) (n:=a0.args.length) (s0:=(wr .i64 (jf+1)))
     (fun(gs0:Unit) (k0:Nat) (s0:Int)=>[(1,.int .i64 a1),(3,.ptr o1 0 0 0),(47,.sl false 2 40 (rows u0.cells a0.args)),(48,.int .i64 (↑a0.args.length:Int)),(49,.int .i64 (↑k0:Int))])
     (fun(gs0:Unit) (k0:Nat) (s0:Int)=>(Z4 st [(o0,(.arr 0 1 0 [[.int .i64 s0]])),(o1,(.arr 0 1 0 [[.fn 113 [] [.ptr o0 0 0 0,.ptr o1 0 0 0]]]))]))
     (fun(gt0:Unit) (t0:Int)=>[])
     (fun(gt0:Unit) (t0:Int)=>(Z4 st [(o0,(.arr 0 1 0 [[.int .i64 t0]])),(o1,(.arr 0 1 0 [[.fn 113 [] [.ptr o0 0 0 0,.ptr o1 0 0 0]]]))]))
     () fx hl0 h (bu0 hsc)
     (fun gs0 k0 s0 b0 fx h hx0=>?_) (fun gs0 s0=>?_) (fun gt0 t0 fr1 st1 h hb=>?_)
    ·unfold eN at h
     refine ct ?_
     refine rn ?_
     obtain⟨v2,hv2,h⟩:=E4 h
     refine(ih _ _ _ _ hv2 _ _ _ hnd (by simp only[go_sem,fx]) (by simp only[go_sem,fx])).mono ?_
     rintro d1 st1 ⟨rfl,rfl⟩
     refine cd h (fun hc h=>?_) fun hc h=>?_
     ·refine ra ?_
      cases h
      refine D4 ?_;have h:=congrArg some (hx0 _ rfl)
      refine rr ?_
      exact fuo (.int .i64 v2.1) (.same _) h hsc
     ·refine rn ?_
      cases h
      exact aT () (bu0 hsc)
    ·refine cf ?_
     refine X5 ?_;simp only[go_sem,fx]
     exact⟨(),(Uu hsc)⟩
    ·try simp only[go_sem,fx]
     unfold eO at h
     refine K6 hb ?_
     refine rr ?_
     exact fus (.int .i64 0) (.same _) h hsc
theorem nN(n:Nat)(a0:u0)(r:x6)(h:dZ n a0=some r):Pure Tryz.prog gl 100 [.agg [.str a0.base,.sl false 2 40 (rows u0.cells a0.args)]] (.agg [.int .i64 r.code,.int .i64 r.index]):=by
 intro st
 unfold dZ at h
 have fx:=trivial
 refine fb 10 [.cell 2 41] [0,1,2,3,4] Tryz.func100 fun hsc=>?_
 refine rn ?_
 obtain⟨v1,hv1,h⟩:=E4 h
 refine(sY n _ _ _ _ hv1 _ _ _ (by simp) (cV.trans rfl) (cV.trans rfl)).mono ?_
 rintro d1 st1 ⟨rfl,rfl⟩
 exact rt
theorem xV(a0:u0)(r:Bool)(h:qv a0=some r):Pure Tryz.prog gl 101 [.agg [.str a0.base,.sl false 2 40 (rows u0.cells a0.args)]] (.bool r):=by
 intro st
 unfold qv at h
 have fx:=trivial
 refine fb 12 [.tmp 2] [0,1,2,7,8,9,10] Tryz.func101 fun hsc=>?_
 exact rt
theorem vr:∀(n:Nat) (a0:w6) (a1:Int) (a2:Int) (jf:Int) (r:x6×Int) (h:bH n a0 a1 a2 jf=some r),∀(st:St) (o0 o1:Nat) (hnd: [o0,o1].Nodup) (oM:Am.look st o0=some (.arr 0 1 0 [[.int .i64 jf]])) (JG:Am.look st o1=some (.arr 0 1 0 [[.fn 98 [] [.ptr o0 0 0 0,.ptr o1 0 0 0]]])),Am.Spec Tryz.prog gl 98 [.agg [.int .i64 a0.kind,.str a0.name,.int .i64 a0.index,.str a0.type.base,.sl false 2 40 (rows u0.cells a0.type.args),.sl false 6 96 (rows w6.cells a0.args)],.int .i64 a1,.int .i64 a2,.ptr o0 0 0 0,.ptr o1 0 0 0] st (fun d st'=>d= .agg [.int .i64 r.1.code,.int .i64 r.1.index]∧st'=puts st [(o0,(.arr 0 1 0 [[.int .i64 r.2]])),(o1,(.arr 0 1 0 [[.fn 98 [] [.ptr o0 0 0 0,.ptr o1 0 0 0]]]))]):=by
 intro n
 induction n with
 |zero=>intro a0 a1 a2 jf r h;cases h
 |succ n ih=>
  intro a0 a1 a2 jf r h st o0 o1 hnd oM JG
  unfold bH at h
  have ho0:=cE oM
  have ho1:=cE JG
  have fx:=fa (fa (idf ho0) (idf ho1)) (nd2 hnd)
  refine fb 166 [.cell 8 41] [0,1,2,3,4,5,8,9,10,11,19,20,21,25,28,34,35,36,37,38,44,51,54,60,61,62,63,66,67,68,69,70,77,78,79,80,81,84,90,91,92,95,96,97,98,99,106,119,125,126,127,130,131,132,133,136,137,138,139,140,154] Tryz.func98 fun hsc=>?_
  refine lZ (s':=(Z4 st [(o0,(.arr 0 1 0 [[.int .i64 jf]])),(o1,(.arr 0 1 0 [[.fn 98 [] [.ptr o0 0 0 0,.ptr o1 0 0 0]]]))])) (N6 (by simp[oM,JG])) ?_
  refine cd h (fun hc h=>?_) fun hc h=>?_
  ·refine rn ?_
   obtain⟨v1,hv1,h⟩:=E4 h
   refine(M0 _ _ _ hv1 _ _ (by simp) (br.trans rfl)).mono ?_
   rintro d1 st1 ⟨rfl,rfl⟩
   refine rr ?_
   exact fuo (.agg [.int .i64 v1.code,.int .i64 v1.index]) (.same _) h hsc
  ·refine cd h (fun hc h=>?_) fun hc h=>?_
   ·refine cd h (fun hc h=>?_) fun hc h=>?_
    ·refine rn ?_
     obtain⟨v2,hv2,h⟩:=E4 h
     refine(M0 _ _ _ hv2 _ _ (by simp) (br.trans rfl)).mono ?_
     rintro d1 st1 ⟨rfl,rfl⟩
     refine rr ?_
     exact fuo (.agg [.int .i64 v2.code,.int .i64 v2.index]) (.same _) h hsc
    ·refine cl h (oB _) fun v3 h=>?_
     refine cd h (fun hc h=>?_) fun hc h=>?_
     ·refine rn ?_
      obtain⟨v4,hv4,h⟩:=E4 h
      refine(M0 _ _ _ hv4 _ _ (by simp) (br.trans rfl)).mono ?_
      rintro d1 st1 ⟨rfl,rfl⟩
      refine rr ?_
      exact fuo (.agg [.int .i64 v4.code,.int .i64 v4.index]) (.same _) h hsc
     ·refine cl h (nN n _) fun v5 h=>?_
      refine cd h (fun hc h=>?_) fun hc h=>?_
      ·refine rn ?_
       obtain⟨v6,hv6,h⟩:=E4 h
       refine(M0 _ _ _ hv6 _ _ (by simp) (br.trans rfl)).mono ?_
       rintro d1 st1 ⟨rfl,rfl⟩
       refine rr ?_
       exact fuo (.agg [.int .i64 v6.code,.int .i64 v6.index]) (.same _) h hsc
      ·refine rr ?_
       exact fuo (.agg [.int .i64 0,.int .i64 0]) (.same _) h hsc
   ·refine cd h (fun hc h=>?_) fun hc h=>?_
    ·refine rn ?_
     obtain⟨v7,hv7,h⟩:=E4 h
     refine P4 (fun hG=>(xV _ _ (kh hv7 (by simpa using hG)))) ?_
     refine cd h (fun hc h=>?_) fun hc h=>?_
     ·refine rn ?_
      obtain⟨v8,hv8,h⟩:=E4 h
      refine(M0 _ _ _ hv8 _ _ (by simp) (br.trans rfl)).mono ?_
      rintro d1 st1 ⟨rfl,rfl⟩
      refine rr ?_
      exact fuo (.agg [.int .i64 v8.code,.int .i64 v8.index]) (.same _) h hsc
     ·refine cd h (fun hc h=>?_) fun hc h=>?_
      ·refine rn ?_
       obtain⟨v9,hv9,h⟩:=E4 h
       refine(M0 _ _ _ hv9 _ _ (by simp) (br.trans rfl)).mono ?_
       rintro d1 st1 ⟨rfl,rfl⟩
       refine rr ?_
       exact fuo (.agg [.int .i64 v9.code,.int .i64 v9.index]) (.same _) h hsc
      ·refine rr ?_
       exact fuo (.agg [.int .i64 0,.int .i64 0]) (.same _) h hsc
    ·refine cd h (fun hc h=>?_) fun hc h=>?_
     ·refine cd h (fun hc h=>?_) fun hc h=>?_
      ·refine rn ?_
       obtain⟨v10,hv10,h⟩:=E4 h
       refine(M0 _ _ _ hv10 _ _ (by simp) (br.trans rfl)).mono ?_
       rintro d1 st1 ⟨rfl,rfl⟩
       refine rr ?_
       exact fuo (.agg [.int .i64 v10.code,.int .i64 v10.index]) (.same _) h hsc
      ·refine cl h (nN n _) fun v11 h=>?_
       refine cd h (fun hc h=>?_) fun hc h=>?_
       ·refine rn ?_
        obtain⟨v12,hv12,h⟩:=E4 h
        refine(M0 _ _ _ hv12 _ _ (by simp) (br.trans rfl)).mono ?_
        rintro d1 st1 ⟨rfl,rfl⟩
        refine rr ?_
        exact fuo (.agg [.int .i64 v12.code,.int .i64 v12.index]) (.same _) h hsc
       ·refine rn ?_
        obtain⟨fx,h⟩:=ck fx h
        refine dw [9] 0 ?_
        obtain⟨v14,hv14,h⟩:=E4 h
        refine yX [o0,o1] (fun st2 h2=>(ih _ _ _ _ _ hv14 st2 _ _ hnd ((h2 _ (by simp)).trans (by simp only[go_sem,fx])) ((h2 _ (by simp)).trans (by simp only[go_sem,fx])))) (by simp) (by simp only[List.mem_cons,List.not_mem_nil,or_false,forall_eq_or_imp,forall_eq];exact⟨⟨by first|omega|(simp<;>omega),_,(by simp only[go_sem,fx]<;>rfl),Ob.noConfusion⟩,⟨by first|omega|(simp<;>omega),_,(by simp only[go_sem,fx]<;>rfl),Ob.noConfusion⟩⟩) (by simp) ?_
        try simp only[go_sem,fx]
        try refine⟨by(simp<;>omega),?_⟩
        refine rr ?_
        exact fuo (.agg [.int .i64 v14.1.code,.int .i64 v14.1.index]) (.same _) h hsc
     ·refine cd h (fun hc h=>?_) fun hc h=>?_
      ·refine rn ?_
       obtain⟨v15,hv15,h⟩:=E4 h
       refine P4 (fun hG=>(xV _ _ (kh hv15 (by simpa using hG)))) ?_
       refine cd h (fun hc h=>?_) fun hc h=>?_
       ·refine rn ?_
        obtain⟨v16,hv16,h⟩:=E4 h
        refine(M0 _ _ _ hv16 _ _ (by simp) (br.trans rfl)).mono ?_
        rintro d1 st1 ⟨rfl,rfl⟩
        refine rr ?_
        exact fuo (.agg [.int .i64 v16.code,.int .i64 v16.index]) (.same _) h hsc
       ·refine rn ?_
        obtain⟨fx,h⟩:=ck fx h
        refine dw [8] 1 ?_
        obtain⟨v18,hv18,h⟩:=E4 h
        refine yX [o0,o1] (fun st2 h2=>(ih _ _ _ _ _ hv18 st2 _ _ hnd ((h2 _ (by simp)).trans (by simp only[go_sem,fx])) ((h2 _ (by simp)).trans (by simp only[go_sem,fx])))) (by simp) (by simp only[List.mem_cons,List.not_mem_nil,or_false,forall_eq_or_imp,forall_eq];exact⟨⟨by first|omega|(simp<;>omega),_,(by simp only[go_sem,fx]<;>rfl),Ob.noConfusion⟩,⟨by first|omega|(simp<;>omega),_,(by simp only[go_sem,fx]<;>rfl),Ob.noConfusion⟩⟩) (by simp) ?_
        try simp only[go_sem,fx]
        try refine⟨by(simp<;>omega),?_⟩
        refine cd h (fun hc h=>?_) fun hc h=>?_
        ·refine rr ?_
         exact fuo (.agg [.int .i64 v18.1.code,.int .i64 v18.1.index]) (.same _) h hsc
        ·refine rn ?_
         obtain⟨fx,h⟩:=ck fx h
         refine dw [8] 0 ?_
         obtain⟨v20,hv20,h⟩:=E4 h
         refine yX [o0,o1] (fun st2 h2=>(ih _ _ _ _ _ hv20 st2 _ _ hnd ((h2 _ (by simp)).trans (by simp only[go_sem,fx])) ((h2 _ (by simp)).trans (by simp only[go_sem,fx])))) (by simp) (by simp only[List.mem_cons,List.not_mem_nil,or_false,forall_eq_or_imp,forall_eq];exact⟨⟨by first|omega|(simp<;>omega),_,(by simp only[go_sem,fx]<;>rfl),Ob.noConfusion⟩,⟨by first|omega|(simp<;>omega),_,(by simp only[go_sem,fx]<;>rfl),Ob.noConfusion⟩⟩) (by simp) ?_
         try simp only[go_sem,fx]
         try refine⟨by(simp<;>omega),?_⟩
         refine rr ?_
         exact fuo (.agg [.int .i64 v20.1.code,.int .i64 v20.1.index]) (.same _) h hsc
      ·refine rn ?_
       obtain⟨v21,hv21,h⟩:=E4 h
       refine(M0 _ _ _ hv21 _ _ (by simp) (br.trans rfl)).mono ?_
       rintro d1 st1 ⟨rfl,rfl⟩
       refine rr ?_
       exact fuo (.agg [.int .i64 v21.code,.int .i64 v21.index]) (.same _) h hsc
end Go.Proofs.YtonfgoanbllceaaGreatDoor
