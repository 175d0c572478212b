import Derived.Test.YtfogbhjeihkliaaGreatDoorDXMirrors
set_option linter.unusedVariables false
set_option linter.unusedSimpArgs false
set_option maxHeartbeats 2000000
set_option maxRecDepth 100000
namespace Go.Proofs.YtfogbhjeihkliaaGreatDoor
open Go Go.Am
theorem jC(r:(List w8))(h:dR=some r):Pure Tryz.prog gl 23 [] (.sl false 3 40 (rows w8.cells r)):=by
 intro st
 unfold dR at h
 have fx:=trivial
 refine fb 4 [.tmp 0] [0] Tryz.func23 fun hsc=>?_
 refine r0 ?_
 refine r0 ?_
 (repeat apply sq_)
 refine R4 (F:=[(0,.ref true st.length 0 0 2)]) (T:=st++[some (.arr 0 3 40 (rows w8.cells [(w8.mk (-1) 7 []),(w8.mk (-1) 8 [])]))]) (Af hsc (.live _ _ _ _ (.arr _ _ _ _ _ (.cons _ _ _ _ (.cons _ _ _ _ .s (.cons _ _ _ _ .s (.cons _ _ _ _ (.F6 _ _ _ (by decide)) .nil))) (.cons _ _ _ _ (.cons _ _ _ _ .s (.cons _ _ _ _ .s (.cons _ _ _ _ (.F6 _ _ _ (by decide)) .nil))) .nil))) (.nil _)) (by simp) ⟨.s,trivial⟩ (by simp)) ?_
 (repeat apply sq_)
 refine R4 (F:=[(0,.sl false 3 40 (rows w8.cells [(w8.mk (-1) 7 []),(w8.mk (-1) 8 [])]))]) (T:=st) (Bo hsc ⟨.ref _ _ _ _ _ _ _ _ _ (lH.trans rfl) nI (by decide) (ru _) (by first|(simp only[go_sem];done)|simp only[go_sem,w8.mT]),trivial⟩ (by simp)) ?_
 exact rt
theorem O4(a0:Int)(a1:Int)(r:w9)(h:O7 a0 a1=some r):Pure Tryz.prog gl 92 [.int .i64 a0,.int .i64 a1] (.agg [.int .i64 r.code,.int .i64 r.index]):=by
 intro st
 unfold O7 at h
 have fx:=trivial
 refine fb 8 [.cell 4 37] [0,1,4] Tryz.func92 fun hsc=>?_
 exact rt
theorem qF(a0:Bs)(r:Bool)(h:termName a0=some r):Pure Tryz.prog gl 68 [.str a0] (.bool r):=by
 intro st
 unfold termName at h
 have fx:=trivial
 refine fb 55 [.tmp 2] [0,2,3,4,9,10,11,14,15,16,19,20,21,22,24,25,26,34,35,38,39,40,41,42,43,46,47,50,51,53] Tryz.func68 fun hsc=>?_
 obtain⟨fx,h⟩:=ck fx h
 obtain⟨fx,h⟩:=ck fx h
 refine cd h (fun hc h=>?_) fun hc h=>?_
 ·exact rt
 ·obtain⟨fx,h⟩:=ck fx h
  refine rn ?_
  refine rng (body:=qu a0) (kk:=qv) (n:=a0.length) (s0:=())
   (fun(gs0:Unit) (k0:Nat) (s0:Unit)=>[(0,.str a0),(24,.int .i64 (↑a0.length:Int)),(25,.int .i64 (↑k0:Int))])
   (fun(gs0:Unit) (k0:Nat) (s0:Unit)=>st)
   (fun(gt0:Unit) (t0:Unit)=>[])
   (fun(gt0:Unit) (t0:Unit)=>st)
   () fx fx.2 h (gX hsc)
   (fun gs0 k0 s0 b0 fx h hx0=>?_) (fun gs0 s0=>?_) (fun gt0 t0 fr1 st1 h hb=>?_)
  ·unfold qu at h
   refine ct ?_
   refine cd h (fun hc h=>?_) fun hc h=>?_
   ·refine ra ?_
    cases h
    refine F4 ?_;have h:=congrArg some (hx0 _ rfl)
    exact rt
   ·refine rn ?_
    cases h
    exact gW () (gX hsc)
  ·refine cf ?_
   refine gV ?_;simp only[go_sem,fx]
   exact⟨(),(gX hsc)⟩
  ·try simp only[go_sem,fx]
   unfold qv at h
   refine R4 hb ?_
   exact rt
theorem vS(a0:(List x7))(r:w9)(h:gG a0=some r):Pure Tryz.prog gl 93 [.sl false 2 40 (rows x7.cells a0)] (.agg [.int .i64 r.code,.int .i64 r.index]):=by
 intro st
 unfold gG at h
 have fx:=trivial
 refine fb 82 [.cell 2 37] [0,2,3,4,5,7,8,10,15,16,17,18,21,22,23,24,31,41,54,58,59,60,61,67,68,69,70,75] Tryz.func93 fun hsc=>?_
 refine cd h (fun hc h=>?_) fun hc h=>?_
 ·refine cl h (O4 _ _) fun v1 h=>?_
  exact rt
 ·refine aln 21 fun hl0=>?_
  refine rng (body:=iW a0) (kk:=lF) (n:=a0.length) (s0:=[])
   (fun(gs0:Unit) (k0:Nat) (s0:(List (Bs×Int)))=>[(2,.ptr st.length 0 0 0),(3,.mp (st.length+1)),(21,.sl false 2 40 (rows x7.cells a0)),(22,.int .i64 (↑a0.length:Int)),(23,.int .i64 (↑k0:Int))])
   (fun(gs0:Unit) (k0:Nat) (s0:(List (Bs×Int)))=>st++[some (.arr 0 2 0 [[.int .i64 0,.int .i64 0]]),some (.mps false (mrw Z4 s0))])
   (fun(gt0:Unit) (t0:(List (Bs×Int)))=>[(2,.ptr st.length 0 0 0)])
   (fun(gt0:Unit) (t0:(List (Bs×Int)))=>st++[some (.arr 0 2 0 [[.int .i64 0,.int .i64 0]])])
   () fx hl0 h (bm hsc)
   (fun gs0 k0 s0 b0 fx h hx0=>?_) (fun gs0 s0=>?_) (fun gt0 t0 fr1 st1 h hb=>?_)
  ·unfold iW at h
   refine ct ?_
   refine cl h (qF _) fun v12 h=>?_
   refine cd h (fun hc h=>?_) fun hc h=>?_
   ·refine cl h (O4 _ _) fun v13 h=>?_
    refine ra ?_
    cases h
    refine F4 ?_;have h:=congrArg some (hx0 _ rfl)
    exact rt
   ·refine cd h (fun hc h=>?_) fun hc h=>?_
    ·refine cl h (O4 _ _) fun v14 h=>?_
     refine ra ?_
     cases h
     refine F4 ?_;have h:=congrArg some (hx0 _ rfl)
     exact rt
    ·refine r0 ?_
     obtain⟨c15,Ub,h⟩:=oz h
     have fy:=(show Q6 ((get a0 k0).name) [.int .i64 (↑k0:Int)] (mrw Z4 s0)=mrw Z4 c15 from by rw[Ub];exact Ep (E:=Z4) _ _ _)
     refine r1 ?_
     refine cd h (fun hc h=>?_) fun hc h=>?_
     ·refine cl h (O4 _ _) fun v17 h=>?_
      refine ra ?_
      cases h
      refine F4 ?_;have h:=congrArg some (hx0 _ rfl)
      exact rt
     ·refine aln 58 fun hl2=>?_
      refine rng (body:=iX a0 k0) (kk:=iY c15) (n:=((get a0 k0).parents).length) (s0:= -1)
       (fun(gs2:Unit) (k2:Nat) (s2:Int)=>[(2,.ptr st.length 0 0 0),(3,.mp (st.length+1)),(4,.int .i64 (↑k0:Int)),(8,.int .i64 s2),(21,.sl false 2 40 (rows x7.cells a0)),(22,.int .i64 (↑a0.length:Int)),(23,.int .i64 (↑k0:Int)),(58,.sl false 1 8 (rows Z4 ((get a0 k0).parents))),(59,.int .i64 (↑(((get a0 k0).parents).length):Int)),(60,.int .i64 (↑k2:Int))])
       (fun(gs2:Unit) (k2:Nat) (s2:Int)=>st++[some (.arr 0 2 0 [[.int .i64 0,.int .i64 0]]),some (.mps false (mrw Z4 c15))])
       (fun(gt2:Unit) (t2:Int)=>[(2,.ptr st.length 0 0 0),(3,.mp (st.length+1)),(21,.sl false 2 40 (rows x7.cells a0)),(22,.int .i64 (↑a0.length:Int)),(23,.int .i64 (↑k0:Int))])
       (fun(gt2:Unit) (t2:Int)=>st++[some (.arr 0 2 0 [[.int .i64 0,.int .i64 0]]),some (.mps false (mrw Z4 c15))])
       () fx hl2 h (bm hsc)
       (fun gs2 k2 s2 b2 fx h hx2=>?_) (fun gs2 s2=>?_) (fun gt2 t2 fr1 st1 h hb=>?_)
      ·unfold iX at h
       refine ct ?_
       refine cd h (fun hc h=>?_) fun hc h=>?_
       ·refine cl h (O4 _ _) fun v20 h=>?_
        refine ra ?_
        cases h
        refine F4 ?_;obtain rfl:=hx2 _ rfl;try simp only[go_sem,fx]
        refine F4 ?_;have h:=congrArg some (hx0 _ rfl)
        exact rt
       ·refine cd h (fun hc h=>?_) fun hc h=>?_
        ·refine cl h (O4 _ _) fun v21 h=>?_
         refine ra ?_
         cases h
         refine F4 ?_;obtain rfl:=hx2 _ rfl;try simp only[go_sem,fx]
         refine F4 ?_;have h:=congrArg some (hx0 _ rfl)
         exact rt
        ·refine rn ?_
         cases h
         exact gW () (bm hsc)
      ·refine cf ?_
       refine gV ?_;simp only[go_sem,fx]
       exact⟨(),(bm hsc)⟩
      ·try simp only[go_sem,fx]
       unfold iY at h
       refine R4 hb ?_
       refine rn ?_
       cases h
       exact gW () (bm hsc)
  ·refine cf ?_
   refine gV ?_;simp only[go_sem,fx]
   exact⟨(),(bm hsc)⟩
  ·try simp only[go_sem,fx]
   unfold lF at h
   refine R4 hb ?_
   exact rt
theorem oR(a0:(List x7))(r:B2)(h:fH a0=some r):Pure Tryz.prog gl 67 [.sl false 2 40 (rows x7.cells a0)] (.agg [.sl false 1 8 (rows eZ r.up),.sl false 1 8 (rows eZ r.down)]):=by
 intro st
 unfold fH at h
 have fx:=trivial
 refine fb 75 [.cell 2 132] [0,2,3,4,5,7,8,16,17,18,19,30,31,32,33,50,51,52,62] Tryz.func67 fun hsc=>?_
 refine rn ?_
 obtain⟨fx,h⟩:=ck fx h
 have fy:=(show List.replicate a0.length [.int .u64 0]=rows eZ (List.replicate a0.length (default:Int))from tP (E:=eZ) _ default)
 have fy:=fa fy (show List.replicate a0.length [.int .u64 0]=rows eZ (List.replicate a0.length (default:Int))from tP (E:=eZ) _ default)
 refine dwy [] 3 ?_
 refine aln 0 fun hl0=>?_
 refine rng (body:=gY a0) (kk:=ig) (n:=a0.length) (s0:=((List.replicate a0.length (default:Int)),(List.replicate a0.length (default:Int))))
  (fun(gs0:Nat×Nat) (k0:Nat) (s0:(List Int)×(List Int))=>[(0,.sl false 2 40 (rows x7.cells a0)),(2,.ptr st.length 0 0 0),(3,.ptr (st.length+3) 0 0 0),(16,.sl false 2 40 (rows x7.cells a0)),(17,.int .i64 (↑a0.length:Int)),(18,.int .i64 (↑k0:Int))])
  (fun(gs0:Nat×Nat) (k0:Nat) (s0:(List Int)×(List Int))=>st++[some (.arr 0 2 0 [[.F6,.F6]]),some (.arr gs0.1 1 8 (rows eZ s0.1)),some (.arr gs0.2 1 8 (rows eZ s0.2)),some (.arr 0 2 0 [[.ref true (st.length+1) gs0.1 0 s0.1.length,.ref true (st.length+2) gs0.2 0 s0.2.length]])])
  (fun(gt0:Nat×Nat) (t0:(List Int)×(List Int))=>[(2,.ptr st.length 0 0 0),(3,.ptr (st.length+3) 0 0 0)])
  (fun(gt0:Nat×Nat) (t0:(List Int)×(List Int))=>st++[some (.arr 0 2 0 [[.F6,.F6]]),some (.arr gt0.1 1 8 (rows eZ t0.1)),some (.arr gt0.2 1 8 (rows eZ t0.2)),some (.arr 0 2 0 [[.ref true (st.length+1) gt0.1 0 t0.1.length,.ref true (st.length+2) gt0.2 0 t0.2.length]])])
  (0,0) fx hl0 h (bm hsc (hu:=(.lv (.lv (.lv (.live _ _ _ _ (.arr _ _ _ _ _ (.cons _ _ _ _ (.cons _ _ _ _ (IW (by first|(simp;done)|simp[Fr.get])) (.cons _ _ _ _ (IW (by first|(simp;done)|simp[Fr.get])) .nil)) (.same _))) (.nil _)))))))
  (fun gs0 k0 s0 b0 fx h hx0=>?_) (fun gs0 s0=>?_) (fun gt0 t0 fr1 st1 h hb=>?_)
 ·unfold gY at h
  refine ct ?_
  refine rn ?_
  obtain⟨fx,h⟩:=ck fx h
  obtain⟨fx,h⟩:=ck fx h
  have fy:=(show(rows eZ s0.1).getD k0 []=eZ (get s0.1 k0)from qg (E:=eZ) (l:=s0.1) (k:=k0) (by first|omega|(simp;omega)))
  have fy:=fa fy (show k0<s0.1.length from by first|omega|(simp;omega))
  obtain⟨c62,Vg,h⟩:=oz h
  have fy:=fa fy (show(rows eZ s0.1).set k0 [.int .u64 (wr .u64 (1*2^(min k0 64)))]=rows eZ c62 from by rw[Vg];first|exact CF (E:=eZ) _ _ _|simp only[go_sem,rows,List.map_set])
  refine dwy [] 0 ?_
  have e64:D.ref true (st.length+1) gs0.1 0 s0.1.length=D.ref true (st.length+1) gs0.1 0 c62.length:=by simp[Vg]
  simp only[e64]
  refine aln 30 fun hl3=>?_
  refine rng (body:=gZ k0 a0) (kk:=hC k0 a0 s0) (n:=((get a0 k0).parents).length) (s0:=c62)
   (fun(gs3:Nat) (k3:Nat) (s3:(List Int))=>[(0,.sl false 2 40 (rows x7.cells a0)),(2,.ptr st.length 0 0 0),(3,.ptr (st.length+3) 0 0 0),(4,.int .i64 (↑k0:Int)),(16,.sl false 2 40 (rows x7.cells a0)),(17,.int .i64 (↑a0.length:Int)),(18,.int .i64 (↑k0:Int)),(30,.sl false 1 8 (rows Z4 ((get a0 k0).parents))),(31,.int .i64 (↑(((get a0 k0).parents).length):Int)),(32,.int .i64 (↑k3:Int))])
   (fun(gs3:Nat) (k3:Nat) (s3:(List Int))=>st++[some (.arr 0 2 0 [[.F6,.F6]]),some (.arr gs3 1 8 (rows eZ s3)),some (.arr gs0.2 1 8 (rows eZ s0.2)),some (.arr 0 2 0 [[.ref true (st.length+1) gs3 0 s3.length,.ref true (st.length+2) gs0.2 0 s0.2.length]])])
   (fun(gt3:Nat) (t3:(List Int))=>[(0,.sl false 2 40 (rows x7.cells a0)),(2,.ptr st.length 0 0 0),(3,.ptr (st.length+3) 0 0 0),(4,.int .i64 (↑k0:Int)),(16,.sl false 2 40 (rows x7.cells a0)),(17,.int .i64 (↑a0.length:Int)),(18,.int .i64 (↑k0:Int))])
   (fun(gt3:Nat) (t3:(List Int))=>st++[some (.arr 0 2 0 [[.F6,.F6]]),some (.arr gt3 1 8 (rows eZ t3)),some (.arr gs0.2 1 8 (rows eZ s0.2)),some (.arr 0 2 0 [[.ref true (st.length+1) gt3 0 t3.length,.ref true (st.length+2) gs0.2 0 s0.2.length]])])
   gs0.1 fx hl3 h (bm hsc)
   (fun gs3 k3 s3 b3 fx h hx3=>?_) (fun gs3 s3=>?_) (fun gt3 t3 fr1 st1 h hb=>?_)
  ·unfold gZ at h
   refine ct ?_
   refine rn ?_
   obtain⟨fx,h⟩:=ck fx h
   have fy:=(show(rows eZ s3).getD k0 []=eZ (get s3 k0)from qg (E:=eZ) (l:=s3) (k:=k0) (by first|omega|(simp;omega)))
   have fy:=fa fy (show k0<s3.length from by first|omega|(simp;omega))
   obtain⟨fx,h⟩:=ck fx h
   have fy:=fa fy (show(rows eZ s3).getD ((get ((get a0 k0).parents) k3).toNat) []=eZ (get s3 ((get ((get a0 k0).parents) k3).toNat))from qg (E:=eZ) (l:=s3) (k:=(get ((get a0 k0).parents) k3).toNat) (by first|omega|(simp;omega)))
   have fy:=fa fy (show(get ((get a0 k0).parents) k3).toNat<s3.length from by first|omega|(simp;omega))
   have fy:=fa fy (show(rows eZ s3).getD k0 []=eZ (get s3 k0)from qg (E:=eZ) (l:=s3) (k:=k0) (by first|omega|(simp;omega)))
   have fy:=fa fy (show k0<s3.length from by first|omega|(simp;omega))
   obtain⟨c86,Vh,h⟩:=oz h
   have fy:=fa fy (show(rows eZ s3).set k0 [.int .u64 (cu .or .u64 (get s3 k0) (get s3 ((get ((get a0 k0).parents) k3).toNat)))]=rows eZ c86 from by rw[Vh];first|exact CF (E:=eZ) _ _ _|simp only[go_sem,rows,List.map_set])
   refine dwy [] 0 ?_
   have e88:D.ref true (st.length+1) gs3 0 s3.length=D.ref true (st.length+1) gs3 0 c86.length:=by simp[Vh]
   simp only[e88]
   refine rn ?_
   cases h
   exact gW gs3 (bm hsc)
  ·refine cf ?_
   refine gV ?_;simp only[go_sem,fx]
   exact⟨gs3,(bm hsc)⟩
  ·try simp only[go_sem,fx]
   unfold hC at h
   refine R4 hb ?_
   refine aln 0 fun hl4=>?_
   refine rng (body:=hJ k0 t3) (kk:=hY t3) (n:=a0.length) (s0:=s0.2)
    (fun(gs4:Nat) (k4:Nat) (s4:(List Int))=>[(0,.sl false 2 40 (rows x7.cells a0)),(2,.ptr st.length 0 0 0),(3,.ptr (st.length+3) 0 0 0),(4,.int .i64 (↑k0:Int)),(16,.sl false 2 40 (rows x7.cells a0)),(17,.int .i64 (↑a0.length:Int)),(18,.int .i64 (↑k0:Int)),(50,.int .i64 (↑a0.length:Int)),(51,.int .i64 (↑k4:Int))])
    (fun(gs4:Nat) (k4:Nat) (s4:(List Int))=>st++[some (.arr 0 2 0 [[.F6,.F6]]),some (.arr gt3 1 8 (rows eZ t3)),some (.arr gs4 1 8 (rows eZ s4)),some (.arr 0 2 0 [[.ref true (st.length+1) gt3 0 t3.length,.ref true (st.length+2) gs4 0 s4.length]])])
    (fun(gt4:Nat) (t4:(List Int))=>[(0,.sl false 2 40 (rows x7.cells a0)),(2,.ptr st.length 0 0 0),(3,.ptr (st.length+3) 0 0 0),(16,.sl false 2 40 (rows x7.cells a0)),(17,.int .i64 (↑a0.length:Int)),(18,.int .i64 (↑k0:Int))])
    (fun(gt4:Nat) (t4:(List Int))=>st++[some (.arr 0 2 0 [[.F6,.F6]]),some (.arr gt3 1 8 (rows eZ t3)),some (.arr gt4 1 8 (rows eZ t4)),some (.arr 0 2 0 [[.ref true (st.length+1) gt3 0 t3.length,.ref true (st.length+2) gt4 0 t4.length]])])
    gs0.2 fx hl4 h (bm hsc)
    (fun gs4 k4 s4 b4 fx h hx4=>?_) (fun gs4 s4=>?_) (fun gt4 t4 fr1 st1 h hb=>?_)
   ·unfold hJ at h
    refine ct ?_
    refine r0 ?_
    refine r0 ?_
    refine r0 ?_
    obtain⟨fx,h⟩:=ck fx h
    have fy:=(show(rows eZ t3).getD k0 []=eZ (get t3 k0)from qg (E:=eZ) (l:=t3) (k:=k0) (by first|omega|(simp;omega)))
    have fy:=fa fy (show k0<t3.length from by first|omega|(simp;omega))
    obtain⟨fx,h⟩:=ck fx h
    refine r1 ?_
    refine cd h (fun hc h=>?_) fun hc h=>?_
    ·refine rs ?_
     obtain⟨fx,h⟩:=ck fx h
     have fy:=(show(rows eZ s4).getD k4 []=eZ (get s4 k4)from qg (E:=eZ) (l:=s4) (k:=k4) (by first|omega|(simp;omega)))
     have fy:=fa fy (show k4<s4.length from by first|omega|(simp;omega))
     have fy:=fa fy (show(rows eZ s4).getD k4 []=eZ (get s4 k4)from qg (E:=eZ) (l:=s4) (k:=k4) (by first|omega|(simp;omega)))
     have fy:=fa fy (show k4<s4.length from by first|omega|(simp;omega))
     obtain⟨c110,RX,h⟩:=oz h
     have fy:=fa fy (show(rows eZ s4).set k4 [.int .u64 (cu .or .u64 (get s4 k4) (wr .u64 (1*2^(min k0 64))))]=rows eZ c110 from by rw[RX];first|exact CF (E:=eZ) _ _ _|simp only[go_sem,rows,List.map_set])
     refine dwy [] 0 ?_
     have e112:D.ref true (st.length+2) gs4 0 s4.length=D.ref true (st.length+2) gs4 0 c110.length:=by simp[RX]
     simp only[e112]
     refine rn ?_
     cases h
     exact gW gs4 (bm hsc)
    ·refine rn ?_
     cases h
     exact gW gs4 (bm hsc)
   ·refine cf ?_
    refine gV ?_;simp only[go_sem,fx]
    exact⟨gs4,(bm hsc)⟩
   ·try simp only[go_sem,fx]
    unfold hY at h
    refine R4 hb ?_
    refine rn ?_
    cases h
    exact gW (gt3,gt4) (bm hsc)
 ·refine cf ?_
  refine gV ?_;simp only[go_sem,fx]
  exact⟨(gs0.1,gs0.2),(bm hsc)⟩
 ·try simp only[go_sem,fx]
  unfold ig at h
  refine R4 hb ?_
  refine rr ?_
  exact fo (.agg [.sl false 1 8 (rows eZ t0.1),.sl false 1 8 (rows eZ t0.2)]) (.agg _ _ (.cons _ _ _ _ (.ref _ _ _ _ _ _ _ _ _ (pL.trans rfl) zq (by decide) (ru _) (by simp only[go_sem])) (.cons _ _ _ _ (.ref _ _ _ _ _ _ _ _ _ (pL.trans rfl) zq (by decide) (ru _) (by simp only[go_sem])) .nil))) h hsc
theorem oD(a0:Int)(r:Int)(h:Z8 a0=some r):Pure Tryz.prog gl 116 [.int .u64 a0] (.int .i64 r):=by
 intro st
 unfold Z8 at h
 have fx:=trivial
 refine fb 14 [.tmp 2] [0,2,4] Tryz.func116 fun hsc=>?_
 refine cd h (fun hc h=>?_) fun hc h=>?_
 ·exact rt
 ·refine r0 ?_
  obtain⟨fx,h⟩:=ck fx h
  have fy:=(show Am.rowAt (ju u8c KB) ((Int.fdiv (wr .u64 ((cu .and .u64 a0 (wr .u64 (0-a0)))*285870213051353865)) (2^(min 58 64))).toNat) 1=u8c (get KB ((Int.fdiv (wr .u64 ((cu .and .u64 a0 (wr .u64 (0-a0)))*285870213051353865)) (2^(min 58 64))).toNat))from yd (fun _=>rfl) (show _<KB.length by rw[LC];first|omega|(simp;omega)))
  refine r1 ?_
  exact rt
theorem rK(a0:B2)(a1:Int)(a2:Int)(r:Int×Bool×Bool)(h:eL a0 a1 a2=some r):Pure Tryz.prog gl 94 [.agg [.sl false 1 8 (rows eZ a0.up),.sl false 1 8 (rows eZ a0.down)],.int .i64 a1,.int .i64 a2] (.tup [.int .i64 r.1,.bool r.2.1,.bool r.2.2]):=by
 intro st
 unfold eL at h
 have fx:=trivial
 refine fb 33 [.tmp 6,.tmp 7,.tmp 8] [0,1,2,3,6,7,8,9,22,31] Tryz.func94 fun hsc=>?_
 refine rn ?_
 obtain⟨fx,h⟩:=ck fx h
 obtain⟨fx,h⟩:=ck fx h
 refine dw [] 0 ?_
 refine cd h (fun hc h=>?_) fun hc h=>?_
 ·exact rt
 ·refine cl h (oD _) fun v5 h=>?_
  obtain⟨fx,h⟩:=ck fx h
  refine cd h (fun hc h=>?_) fun hc h=>?_
  ·exact rt
  ·exact rt
theorem sx(a0:y6)(r:w9)(h:fI a0=some r):Pure Tryz.prog gl 65 [.agg [.sl false 2 40 (rows x7.cells a0.types),.sl false 3 32 (rows y8.cells a0.C1)]] (.agg [.int .i64 r.code,.int .i64 r.index]):=by
 intro st
 unfold fI at h
 have fx:=trivial
 refine fb 122 [.cell 2 37] [0,1,2,3,4,5,6,9,10,11,12,14,20,21,22,23,26,27,28,29,30,37,44,45,46,48,49,50,60,67,68,69,70,77,87,98,99,100,101,102,103,106,107,108,111,112,113,114,115,116,117] Tryz.func65 fun hsc=>?_
 refine cd h (fun hc h=>?_) fun hc h=>?_
 ·refine cl h (O4 _ _) fun v1 h=>?_
  exact rt
 ·refine cl h (vS _) fun v2 h=>?_
  refine cd h (fun hc h=>?_) fun hc h=>?_
  ·exact rt
  ·refine cl h (oR _) fun v3 h=>?_
   obtain⟨fx,h⟩:=ck fx h
   refine rn ?_
   refine rng (body:=fB v3) (kk:=cA a0) (n:=a0.types.length) (s0:=())
    (fun(gs0:Unit) (k0:Nat) (s0:Unit)=>[(1,.ptr st.length 0 0 0),(2,.ptr (st.length+1) 0 0 0),(4,.ptr (st.length+3) 0 0 0),(44,.int .i64 (↑a0.types.length:Int)),(45,.int .i64 (↑k0:Int))])
    (fun(gs0:Unit) (k0:Nat) (s0:Unit)=>st++[some (.arr 0 2 0 [[.sl false 2 40 (rows x7.cells a0.types),.sl false 3 32 (rows y8.cells a0.C1)]]),some (.arr 0 2 0 [[.int .i64 0,.int .i64 0]]),none,some (.arr 0 2 0 [[.sl false 1 8 (rows eZ v3.up),.sl false 1 8 (rows eZ v3.down)]])])
    (fun(gt0:Unit) (t0:Unit)=>[(1,.ptr st.length 0 0 0),(2,.ptr (st.length+1) 0 0 0)])
    (fun(gt0:Unit) (t0:Unit)=>st++[some (.arr 0 2 0 [[.sl false 2 40 (rows x7.cells a0.types),.sl false 3 32 (rows y8.cells a0.C1)]]),some (.arr 0 2 0 [[.int .i64 0,.int .i64 0]])])
    () fx fx.2 h (bm hsc)
    (fun gs0 k0 s0 b0 fx h hx0=>?_) (fun gs0 s0=>?_) (fun gt0 t0 fr1 st1 h hb=>?_)
   ·unfold fB at h
    refine ct ?_
    obtain⟨fx,h⟩:=ck fx h
    refine rn ?_
    refine rng (body:=fC v3 k0) (kk:=fD) (n:=k0) (s0:=())
     (fun(gs1:Unit) (k1:Nat) (s1:Unit)=>[(1,.ptr st.length 0 0 0),(2,.ptr (st.length+1) 0 0 0),(4,.ptr (st.length+3) 0 0 0),(5,.int .i64 (↑k0:Int)),(44,.int .i64 (↑a0.types.length:Int)),(45,.int .i64 (↑k0:Int)),(48,.int .i64 (↑k0:Int)),(49,.int .i64 (↑k1:Int))])
     (fun(gs1:Unit) (k1:Nat) (s1:Unit)=>st++[some (.arr 0 2 0 [[.sl false 2 40 (rows x7.cells a0.types),.sl false 3 32 (rows y8.cells a0.C1)]]),some (.arr 0 2 0 [[.int .i64 0,.int .i64 0]]),none,some (.arr 0 2 0 [[.sl false 1 8 (rows eZ v3.up),.sl false 1 8 (rows eZ v3.down)]])])
     (fun(gt1:Unit) (t1:Unit)=>[(1,.ptr st.length 0 0 0),(2,.ptr (st.length+1) 0 0 0),(4,.ptr (st.length+3) 0 0 0),(44,.int .i64 (↑a0.types.length:Int)),(45,.int .i64 (↑k0:Int))])
     (fun(gt1:Unit) (t1:Unit)=>st++[some (.arr 0 2 0 [[.sl false 2 40 (rows x7.cells a0.types),.sl false 3 32 (rows y8.cells a0.C1)]]),some (.arr 0 2 0 [[.int .i64 0,.int .i64 0]]),none,some (.arr 0 2 0 [[.sl false 1 8 (rows eZ v3.up),.sl false 1 8 (rows eZ v3.down)]])])
     () fx fx.2 h (bm hsc)
     (fun gs1 k1 s1 b1 fx h hx1=>?_) (fun gs1 s1=>?_) (fun gt1 t1 fr1 st1 h hb=>?_)
    ·unfold fC at h
     refine ct ?_
     refine cl h (rK _ _ _) fun v6 h=>?_
     refine cd h (fun hc h=>?_) fun hc h=>?_
     ·refine cl h (O4 _ _) fun v7 h=>?_
      refine ra ?_
      cases h
      refine F4 ?_;obtain rfl:=hx1 _ rfl;try simp only[go_sem,fx]
      refine F4 ?_;have h:=congrArg some (hx0 _ rfl)
      exact rt
     ·refine rn ?_
      cases h
      exact gW () (bm hsc)
    ·refine cf ?_
     refine gV ?_;simp only[go_sem,fx]
     exact⟨(),(bm hsc)⟩
    ·try simp only[go_sem,fx]
     unfold fD at h
     refine R4 hb ?_
     refine rn ?_
     cases h
     exact gW () (bm hsc)
   ·refine cf ?_
    refine gV ?_;simp only[go_sem,fx]
    exact⟨(),(bm hsc)⟩
   ·try simp only[go_sem,fx]
    unfold cA at h
    refine R4 hb ?_
    refine aln 67 fun hl2=>?_
    refine rng (body:=fA a0) (kk:=jo) (n:=a0.C1.length) (s0:=[])
     (fun(gs2:Unit) (k2:Nat) (s2:(List (Bs×Int)))=>[(1,.ptr st.length 0 0 0),(2,.ptr (st.length+1) 0 0 0),(10,.mp (st.length+2)),(67,.sl false 3 32 (rows y8.cells a0.C1)),(68,.int .i64 (↑a0.C1.length:Int)),(69,.int .i64 (↑k2:Int))])
     (fun(gs2:Unit) (k2:Nat) (s2:(List (Bs×Int)))=>st++[some (.arr 0 2 0 [[.sl false 2 40 (rows x7.cells a0.types),.sl false 3 32 (rows y8.cells a0.C1)]]),some (.arr 0 2 0 [[.int .i64 0,.int .i64 0]]),some (.mps false (mrw Z4 s2))])
     (fun(gt2:Unit) (t2:(List (Bs×Int)))=>[(2,.ptr (st.length+1) 0 0 0)])
     (fun(gt2:Unit) (t2:(List (Bs×Int)))=>st++[none,some (.arr 0 2 0 [[.int .i64 0,.int .i64 0]])])
     () fx hl2 h (bm hsc)
     (fun gs2 k2 s2 b2 fx h hx2=>?_) (fun gs2 s2=>?_) (fun gt2 t2 fr1 st1 h hb=>?_)
    ·unfold fA at h
     refine ct ?_
     refine cl h (qF _) fun v14 h=>?_
     refine cd h (fun hc h=>?_) fun hc h=>?_
     ·refine cl h (O4 _ _) fun v15 h=>?_
      refine ra ?_
      cases h
      refine F4 ?_;have h:=congrArg some (hx2 _ rfl)
      exact rt
     ·refine cd h (fun hc h=>?_) fun hc h=>?_
      ·refine cl h (O4 _ _) fun v16 h=>?_
       refine ra ?_
       cases h
       refine F4 ?_;have h:=congrArg some (hx2 _ rfl)
       exact rt
      ·refine r0 ?_
       obtain⟨c17,XF,h⟩:=oz h
       have fy:=(show Q6 ((get a0.C1 k2).name) [.int .i64 (↑k2:Int)] (mrw Z4 s2)=mrw Z4 c17 from by rw[XF];exact Ep (E:=Z4) _ _ _)
       refine r1 ?_
       refine cd h (fun hc h=>?_) fun hc h=>?_
       ·refine cl h (O4 _ _) fun v19 h=>?_
        refine ra ?_
        cases h
        refine F4 ?_;have h:=congrArg some (hx2 _ rfl)
        exact rt
       ·refine rn ?_
        cases h
        exact gW () (bm hsc)
    ·refine cf ?_
     refine gV ?_;simp only[go_sem,fx]
     exact⟨(),(bm hsc)⟩
    ·try simp only[go_sem,fx]
     unfold jo at h
     refine R4 hb ?_
     exact rt
theorem dD(a0:Int)(a1:Int)(r:w9)(h:cR a0 a1=some r):Pure Tryz.prog gl 66 [.int .i64 a0,.int .i64 a1] (.agg [.int .i64 r.code,.int .i64 r.index]):=by
 intro st
 unfold cR at h
 have fx:=trivial
 refine fb 8 [.cell 4 37] [0,1,4] Tryz.func66 fun hsc=>?_
 exact rt
end Go.Proofs.YtfogbhjeihkliaaGreatDoor
