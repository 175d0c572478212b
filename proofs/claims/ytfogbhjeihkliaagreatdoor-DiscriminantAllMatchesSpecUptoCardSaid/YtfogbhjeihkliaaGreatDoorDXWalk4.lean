import Derived.Test.YtfogbhjeihkliaaGreatDoorDXWalk2
import Derived.Test.YtfogbhjeihkliaaGreatDoorDXWalk3
set_option linter.unusedVariables false
set_option linter.unusedSimpArgs false
set_option maxHeartbeats 2000000
set_option maxRecDepth 100000
namespace Go.Proofs.YtfogbhjeihkliaaGreatDoor
open Go Go.Am
theorem qd(n:Nat)(a0:w6)(r:w9)(h:gI n a0=some r):Pure Tryz.prog gl 120 [.agg [.str a0.base,.sl false 2 40 (rows w6.cells a0.args)]] (.agg [.int .i64 r.code,.int .i64 r.index]):=by
 intro st
 unfold gI at h
 have fx:=trivial
 refine fb 10 [.cell 2 37] [0,1,2,3,4] Tryz.func120 fun hsc=>?_
 refine rn ?_
 obtain⟨v1,hv1,h⟩:=F9 h
 refine(uI n _ _ _ _ hv1 _ _ _ (by simp) (cW.trans rfl) (cW.trans rfl)).mono ?_
 rintro d1 st1 ⟨rfl,rfl⟩
 exact rt
theorem za(a0:w6)(r:Bool)(h:rY a0=some r):Pure Tryz.prog gl 121 [.agg [.str a0.base,.sl false 2 40 (rows w6.cells a0.args)]] (.bool r):=by
 intro st
 unfold rY at h
 have fx:=trivial
 refine fb 12 [.tmp 2] [0,1,2,7,8,9,10] Tryz.func121 fun hsc=>?_
 exact rt
theorem wN:∀(n:Nat) (a0:x9) (a1:Int) (a2:Int) (R2:Int) (r:w9×Int) (h:eR n a0 a1 a2 R2=some r),∀(st:St) (o0 o1:Nat) (hnd: [o0,o1].Nodup) (jI:Am.look st o0=some (.arr 0 1 0 [[.int .i64 R2]])) (sY:Am.look st o1=some (.arr 0 1 0 [[.fn 118 [] [.ptr o0 0 0 0,.ptr o1 0 0 0]]])),Am.Spec Tryz.prog gl 118 [.agg [.int .i64 a0.kind,.str a0.name,.int .i64 a0.index,.str a0.type.base,.sl false 2 40 (rows w6.cells a0.type.args),.sl false 6 96 (rows x9.cells a0.args)],.int .i64 a1,.int .i64 a2,.ptr o0 0 0 0,.ptr o1 0 0 0] st (fun d st'=>d= .agg [.int .i64 r.1.code,.int .i64 r.1.index]∧st'=puts st [(o0,(.arr 0 1 0 [[.int .i64 r.2]])),(o1,(.arr 0 1 0 [[.fn 118 [] [.ptr o0 0 0 0,.ptr o1 0 0 0]]]))]):=by
 intro n
 induction n with
 |zero=>intro a0 a1 a2 R2 r h;cases h
 |succ n ih=>
  intro a0 a1 a2 R2 r h st o0 o1 hnd jI sY
  unfold eR at h
  have ho0:=T6 jI
  have ho1:=T6 sY
  have fx:=fa (fa (idf ho0) (idf ho1)) (nd2 hnd)
  refine fb 166 [.cell 8 37] [0,1,2,3,4,5,8,9,10,11,19,20,21,25,28,34,35,36,37,38,44,51,54,60,61,62,63,66,67,68,69,70,77,78,79,80,81,84,90,91,92,95,96,97,98,99,106,119,125,126,127,130,131,132,133,136,137,138,139,140,154] Tryz.func118 fun hsc=>?_
  refine mJ (s':=(aZ st [(o0,(.arr 0 1 0 [[.int .i64 R2]])),(o1,(.arr 0 1 0 [[.fn 118 [] [.ptr o0 0 0 0,.ptr o1 0 0 0]]]))])) (N5 (by simp[jI,sY])) ?_
  refine cd h (fun hc h=>?_) fun hc h=>?_
  ·refine rn ?_
   obtain⟨v1,hv1,h⟩:=F9 h
   refine(R3 _ _ _ hv1 _ _ (by simp) (eF.trans rfl)).mono ?_
   rintro d1 st1 ⟨rfl,rfl⟩
   refine rr ?_
   exact fuo (.agg [.int .i64 v1.code,.int .i64 v1.index]) (.same _) h hsc
  ·refine cd h (fun hc h=>?_) fun hc h=>?_
   ·refine cd h (fun hc h=>?_) fun hc h=>?_
    ·refine rn ?_
     obtain⟨v2,hv2,h⟩:=F9 h
     refine(R3 _ _ _ hv2 _ _ (by simp) (eF.trans rfl)).mono ?_
     rintro d1 st1 ⟨rfl,rfl⟩
     refine rr ?_
     exact fuo (.agg [.int .i64 v2.code,.int .i64 v2.index]) (.same _) h hsc
    ·refine cl h (qF _) fun v3 h=>?_
     refine cd h (fun hc h=>?_) fun hc h=>?_
     ·refine rn ?_
      obtain⟨v4,hv4,h⟩:=F9 h
      refine(R3 _ _ _ hv4 _ _ (by simp) (eF.trans rfl)).mono ?_
      rintro d1 st1 ⟨rfl,rfl⟩
      refine rr ?_
      exact fuo (.agg [.int .i64 v4.code,.int .i64 v4.index]) (.same _) h hsc
     ·refine cl h (qd n _) fun v5 h=>?_
      refine cd h (fun hc h=>?_) fun hc h=>?_
      ·refine rn ?_
       obtain⟨v6,hv6,h⟩:=F9 h
       refine(R3 _ _ _ hv6 _ _ (by simp) (eF.trans rfl)).mono ?_
       rintro d1 st1 ⟨rfl,rfl⟩
       refine rr ?_
       exact fuo (.agg [.int .i64 v6.code,.int .i64 v6.index]) (.same _) h hsc
      ·refine rr ?_
       exact fuo (.agg [.int .i64 0,.int .i64 0]) (.same _) h hsc
   ·refine cd h (fun hc h=>?_) fun hc h=>?_
    ·refine rn ?_
     obtain⟨v7,hv7,h⟩:=F9 h
     refine kG (fun hG=>(za _ _ (tO hv7 (by simpa using hG)))) ?_
     refine cd h (fun hc h=>?_) fun hc h=>?_
     ·refine rn ?_
      obtain⟨v8,hv8,h⟩:=F9 h
      refine(R3 _ _ _ hv8 _ _ (by simp) (eF.trans rfl)).mono ?_
      rintro d1 st1 ⟨rfl,rfl⟩
      refine rr ?_
      exact fuo (.agg [.int .i64 v8.code,.int .i64 v8.index]) (.same _) h hsc
     ·refine cd h (fun hc h=>?_) fun hc h=>?_
      ·refine rn ?_
       obtain⟨v9,hv9,h⟩:=F9 h
       refine(R3 _ _ _ hv9 _ _ (by simp) (eF.trans rfl)).mono ?_
       rintro d1 st1 ⟨rfl,rfl⟩
       refine rr ?_
       exact fuo (.agg [.int .i64 v9.code,.int .i64 v9.index]) (.same _) h hsc
      ·refine rr ?_
       exact fuo (.agg [.int .i64 0,.int .i64 0]) (.same _) h hsc
    ·refine cd h (fun hc h=>?_) fun hc h=>?_
     ·refine cd h (fun hc h=>?_) fun hc h=>?_
      ·refine rn ?_
       obtain⟨v10,hv10,h⟩:=F9 h
       refine(R3 _ _ _ hv10 _ _ (by simp) (eF.trans rfl)).mono ?_
       rintro d1 st1 ⟨rfl,rfl⟩
       refine rr ?_
       exact fuo (.agg [.int .i64 v10.code,.int .i64 v10.index]) (.same _) h hsc
      ·refine cl h (qd n _) fun v11 h=>?_
       refine cd h (fun hc h=>?_) fun hc h=>?_
       ·refine rn ?_
        obtain⟨v12,hv12,h⟩:=F9 h
        refine(R3 _ _ _ hv12 _ _ (by simp) (eF.trans rfl)).mono ?_
        rintro d1 st1 ⟨rfl,rfl⟩
        refine rr ?_
        exact fuo (.agg [.int .i64 v12.code,.int .i64 v12.index]) (.same _) h hsc
       ·refine rn ?_
        obtain⟨fx,h⟩:=ck fx h
        refine dw [9] 0 ?_
        obtain⟨v14,hv14,h⟩:=F9 h
        refine Ag [o0,o1] (fun st2 h2=>(ih _ _ _ _ _ hv14 st2 _ _ hnd ((h2 _ (by simp)).trans (by simp only[go_sem,fx])) ((h2 _ (by simp)).trans (by simp only[go_sem,fx])))) (by simp) (by simp only[List.mem_cons,List.not_mem_nil,or_false,forall_eq_or_imp,forall_eq];exact⟨⟨by first|omega|(simp<;>omega),_,(by simp only[go_sem,fx]<;>rfl),Ob.noConfusion⟩,⟨by first|omega|(simp<;>omega),_,(by simp only[go_sem,fx]<;>rfl),Ob.noConfusion⟩⟩) (by simp) ?_
        try simp only[go_sem,fx]
        try refine⟨by(simp<;>omega),?_⟩
        refine rr ?_
        exact fuo (.agg [.int .i64 v14.1.code,.int .i64 v14.1.index]) (.same _) h hsc
     ·refine cd h (fun hc h=>?_) fun hc h=>?_
      ·refine rn ?_
       obtain⟨v15,hv15,h⟩:=F9 h
       refine kG (fun hG=>(za _ _ (tO hv15 (by simpa using hG)))) ?_
       refine cd h (fun hc h=>?_) fun hc h=>?_
       ·refine rn ?_
        obtain⟨v16,hv16,h⟩:=F9 h
        refine(R3 _ _ _ hv16 _ _ (by simp) (eF.trans rfl)).mono ?_
        rintro d1 st1 ⟨rfl,rfl⟩
        refine rr ?_
        exact fuo (.agg [.int .i64 v16.code,.int .i64 v16.index]) (.same _) h hsc
       ·refine rn ?_
        obtain⟨fx,h⟩:=ck fx h
        refine dw [8] 1 ?_
        obtain⟨v18,hv18,h⟩:=F9 h
        refine Ag [o0,o1] (fun st2 h2=>(ih _ _ _ _ _ hv18 st2 _ _ hnd ((h2 _ (by simp)).trans (by simp only[go_sem,fx])) ((h2 _ (by simp)).trans (by simp only[go_sem,fx])))) (by simp) (by simp only[List.mem_cons,List.not_mem_nil,or_false,forall_eq_or_imp,forall_eq];exact⟨⟨by first|omega|(simp<;>omega),_,(by simp only[go_sem,fx]<;>rfl),Ob.noConfusion⟩,⟨by first|omega|(simp<;>omega),_,(by simp only[go_sem,fx]<;>rfl),Ob.noConfusion⟩⟩) (by simp) ?_
        try simp only[go_sem,fx]
        try refine⟨by(simp<;>omega),?_⟩
        refine cd h (fun hc h=>?_) fun hc h=>?_
        ·refine rr ?_
         exact fuo (.agg [.int .i64 v18.1.code,.int .i64 v18.1.index]) (.same _) h hsc
        ·refine rn ?_
         obtain⟨fx,h⟩:=ck fx h
         refine dw [8] 0 ?_
         obtain⟨v20,hv20,h⟩:=F9 h
         refine Ag [o0,o1] (fun st2 h2=>(ih _ _ _ _ _ hv20 st2 _ _ hnd ((h2 _ (by simp)).trans (by simp only[go_sem,fx])) ((h2 _ (by simp)).trans (by simp only[go_sem,fx])))) (by simp) (by simp only[List.mem_cons,List.not_mem_nil,or_false,forall_eq_or_imp,forall_eq];exact⟨⟨by first|omega|(simp<;>omega),_,(by simp only[go_sem,fx]<;>rfl),Ob.noConfusion⟩,⟨by first|omega|(simp<;>omega),_,(by simp only[go_sem,fx]<;>rfl),Ob.noConfusion⟩⟩) (by simp) ?_
         try simp only[go_sem,fx]
         try refine⟨by(simp<;>omega),?_⟩
         refine rr ?_
         exact fuo (.agg [.int .i64 v20.1.code,.int .i64 v20.1.index]) (.same _) h hsc
      ·refine rn ?_
       obtain⟨v21,hv21,h⟩:=F9 h
       refine(R3 _ _ _ hv21 _ _ (by simp) (eF.trans rfl)).mono ?_
       rintro d1 st1 ⟨rfl,rfl⟩
       refine rr ?_
       exact fuo (.agg [.int .i64 v21.code,.int .i64 v21.index]) (.same _) h hsc
theorem uJ:∀(n:Nat) (a0:w6) (a1:w6) (r:Bool) (h:fJ n a0 a1=some r),Pure Tryz.prog gl 138 [.agg [.str a0.base,.sl false 2 40 (rows w6.cells a0.args)],.agg [.str a1.base,.sl false 2 40 (rows w6.cells a1.args)]] (.bool r):=by
 intro n
 induction n with
 |zero=>intro a0 a1 r h;cases h
 |succ n ih=>
  intro a0 a1 r h st
  unfold fJ at h
  have fx:=trivial
  refine fb 39 [.tmp 4] [0,1,2,3,4,5,12,13,14,15,16,17,18,19,22,23,24,37] Tryz.func138 fun hsc=>?_
  refine cd h (fun hc h=>?_) fun hc h=>?_
  ·exact rt
  ·obtain⟨fx,h⟩:=ck fx h
   refine rn ?_
   refine rng (body:=mX (fJ n) a1 a0) (kk:=mY) (n:=a0.args.length) (s0:=())
    (fun(gs0:Unit) (k0:Nat) (s0:Unit)=>[(2,.ptr st.length 0 0 0),(3,.ptr (st.length+1) 0 0 0),(22,.int .i64 (↑a0.args.length:Int)),(23,.int .i64 (↑k0:Int))])
    (fun(gs0:Unit) (k0:Nat) (s0:Unit)=>st++[some (.arr 0 2 0 [[.str a0.base,.sl false 2 40 (rows w6.cells a0.args)]]),some (.arr 0 2 0 [[.str a1.base,.sl false 2 40 (rows w6.cells a1.args)]])])
    (fun(gt0:Unit) (t0:Unit)=>[])
    (fun(gt0:Unit) (t0:Unit)=>st)
    () fx fx.2 h (bm hsc)
    (fun gs0 k0 s0 b0 fx h hx0=>?_) (fun gs0 s0=>?_) (fun gt0 t0 fr1 st1 h hb=>?_)
   ·unfold mX at h
    refine ct ?_
    refine rn ?_
    obtain⟨fx,h⟩:=ck fx h
    refine dw [] 0 ?_
    obtain⟨v3,hv3,h⟩:=F9 h
    refine A9 (ih _ _ _ hv3) ?_
    try simp only[go_sem,fx]
    refine cd h (fun hc h=>?_) fun hc h=>?_
    ·refine ra ?_
     cases h
     refine F4 ?_;have h:=congrArg some (hx0 _ rfl)
     exact rt
    ·refine rn ?_
     cases h
     exact gW () (bm hsc)
   ·refine cf ?_
    refine gV ?_;simp only[go_sem,fx]
    exact⟨(),(bm0 hsc)⟩
   ·try simp only[go_sem,fx]
    unfold mY at h
    refine R4 hb ?_
    exact rt
theorem zJ:∀(n:Nat) (a0:x9) (l0:(List w6)) (r:w6×Bool) (h:dg n a0 l0=some r),∀(st:St) (o0 q0:Nat) (hnd: [o0].Nodup) (jI:Am.look st o0=some (.arr q0 2 40 (rows w6.cells l0))),Am.Spec Tryz.prog gl 122 [.agg [.int .i64 a0.kind,.str a0.name,.int .i64 a0.index,.str a0.type.base,.sl false 2 40 (rows w6.cells a0.type.args),.sl false 6 96 (rows x9.cells a0.args)],.ref false o0 q0 0 l0.length] st (fun d st'=>d= .tup [.agg [.str r.1.base,.sl false 2 40 (rows w6.cells r.1.args)],.bool r.2]∧st'=puts st []):=by
 intro n
 induction n with
 |zero=>intro a0 l0 r h;cases h
 |succ n ih=>
  intro a0 l0 r h st o0 q0 hnd jI
  unfold dg at h
  have ho0:=T6 jI
  have fx:=idf ho0
  refine fb 101 [.cell 4 83,.tmp 5] [0,1,2,4,5,6,7,8,9,10,11,12,14,15,19,30,78,79,82,83,84,85,88,89,90,91,92,93,94,95] Tryz.func122 fun hsc=>?_
  refine mJ (s':=(aZ st [(o0,(.arr q0 2 40 (rows w6.cells l0)))])) (N5 (by simp[jI])) ?_
  refine cd h (fun hc h=>?_) fun hc h=>?_
  ·refine rr ?_
   exact fuo (.tup [.agg [.str a0.type.base,.sl false 2 40 (rows w6.cells a0.type.args)],.bool true]) (.same _) h hsc (hr:=by rintro rfl;exact⟨rfl,N5 (by simp[jI])⟩)
  ·refine cd h (fun hc h=>?_) fun hc h=>?_
   ·obtain⟨fx,h⟩:=ck fx h
    have fy:=(show(rows w6.cells l0).getD ((wr .i64 ((wr .i64 ((↑l0.length:Int)-1))-a0.index)).toNat) []=w6.cells (get l0 ((wr .i64 ((wr .i64 ((↑l0.length:Int)-1))-a0.index)).toNat))from qg (E:=w6.cells) (l:=l0) (k:=(wr .i64 ((wr .i64 ((↑l0.length:Int)-1))-a0.index)).toNat) (by first|omega|(simp;omega)))
    have fy:=fa fy (show(wr .i64 ((wr .i64 ((↑l0.length:Int)-1))-a0.index)).toNat<l0.length from by first|omega|(simp;omega))
    refine r1 ?_
    refine rr ?_
    exact fuo (.tup [.agg [.str ((get l0 ((wr .i64 ((wr .i64 ((↑l0.length:Int)-1))-a0.index)).toNat)).base),.sl false 2 40 (rows w6.cells ((get l0 ((wr .i64 ((wr .i64 ((↑l0.length:Int)-1))-a0.index)).toNat)).args))],.bool true]) (.same _) h hsc (hr:=by rintro rfl;exact⟨rfl,N5 (by simp[jI])⟩)
   ·refine cd h (fun hc h=>?_) fun hc h=>?_
    ·refine rs ?_
     obtain⟨fx,h⟩:=ck fx h
     obtain⟨c8,hc8,h⟩:=oz h
     have fy:=(show rows w6.cells l0++[[.str a0.type.base,.sl false 2 40 (rows w6.cells a0.type.args)]]=rows w6.cells c8 from by rw[hc8];first|exact U8 (E:=w6.cells) l0 [a0.type]|simp only[go_sem,rows,List.map_append,List.map_cons,List.map_nil])
     have fy:=fa fy (show l0.length+1=c8.length from by rw[hc8];simp)
     obtain⟨fx,h⟩:=ck fx h
     refine dwy [] 2 ?_
     obtain⟨fx,h⟩:=ck fx h
     refine rn ?_
     obtain⟨v14,hv14,h⟩:=F9 h
     refine(ih _ _ _ hv14 _ _ 0 (by simp) (eF.trans rfl)).mono ?_
     rintro d1 st1 ⟨rfl,rfl⟩
     refine rr ?_
     exact fuo (.tup [.agg [.str [],.sl false 2 40 (rows w6.cells [a0.type,v14.1])],.bool v14.2]) (.tup _ _ (.cons _ _ _ _ (.agg _ _ (.cons _ _ _ _ .s (.cons _ _ _ _ (.ref _ _ _ _ _ _ _ _ _ (IY.trans rfl) Jb (by decide) (by simp[Imm,D.imm]) (by simp only[go_sem,rows,List.map_cons,List.map_nil])) .nil))) (.cons _ _ _ _ .s .nil)) rfl) h hsc (hr:=by rintro rfl;exact⟨rfl,N5 (by simp[jI])⟩)
    ·obtain⟨fx,h⟩:=ck fx h
     refine rn ?_
     obtain⟨v17,hv17,h⟩:=F9 h
     refine(ih _ _ _ hv17 _ _ q0 hnd (by simp only[go_sem,fx])).mono ?_
     rintro d1 st1 ⟨rfl,rfl⟩
     obtain⟨fx,h⟩:=ck fx h
     refine rn ?_
     obtain⟨v19,hv19,h⟩:=F9 h
     refine(ih _ _ _ hv19 _ _ q0 hnd (by simp only[go_sem,fx])).mono ?_
     rintro d1 st1 ⟨rfl,rfl⟩
     refine rn ?_
     obtain⟨fx,h⟩:=ck fx h
     refine dw [] 0 ?_
     obtain⟨v22,hv22,h⟩:=F9 h
     refine fT (fun hG=>(uJ n _ _ _ (tO hv22 (by simpa using hG)))) ?_
     try simp only[go_sem,fx]
     refine cd h (fun hc h=>?_) fun hc h=>?_
     ·refine rr ?_
      exact fuo (.tup [.agg [.str [],.sl false 2 40 (rows w6.cells [])],.bool false]) (.tup _ _ (.cons _ _ _ _ (.agg _ _ (.cons _ _ _ _ .s (.cons _ _ _ _ (.F6 _ _ _ (by decide)) .nil))) (.cons _ _ _ _ .s .nil)) rfl) h hsc (hr:=by rintro rfl;exact⟨rfl,N5 (by simp[jI])⟩)
     ·obtain⟨fx,h⟩:=ck fx h
      refine rr ?_
      exact fuo (.tup [.agg [.str ((get v17.1.args 1).base),.sl false 2 40 (rows w6.cells ((get v17.1.args 1).args))],.bool true]) (.same _) h hsc (hr:=by rintro rfl;exact⟨rfl,N5 (by simp[jI])⟩)
theorem Dz:∀(n:Nat) (a0:x9) (a1:(List w6)) (r:w6×Bool) (h:jx n a0 a1=some r),Pure Tryz.prog gl 122 [.agg [.int .i64 a0.kind,.str a0.name,.int .i64 a0.index,.str a0.type.base,.sl false 2 40 (rows w6.cells a0.type.args),.sl false 6 96 (rows x9.cells a0.args)],.sl false 2 40 (rows w6.cells a1)] (.tup [.agg [.str r.1.base,.sl false 2 40 (rows w6.cells r.1.args)],.bool r.2]):=by
 intro n
 induction n with
 |zero=>intro a0 a1 r h;cases h
 |succ n ih=>
  intro a0 a1 r h st
  unfold jx at h
  have fx:=trivial
  refine fb 101 [.cell 4 83,.tmp 5] [0,1,2,4,5,6,7,8,9,10,11,12,14,15,19,30,78,79,82,83,84,85,88,89,90,91,92,93,94,95] Tryz.func122 fun hsc=>?_
  refine cd h (fun hc h=>?_) fun hc h=>?_
  ·exact rt
  ·refine cd h (fun hc h=>?_) fun hc h=>?_
   ·obtain⟨fx,h⟩:=ck fx h
    exact rt
   ·refine cd h (fun hc h=>?_) fun hc h=>?_
    ·refine rs ?_
     obtain⟨fx,h⟩:=ck fx h
     obtain⟨c6,hc6,h⟩:=oz h
     have fy:=(show rows w6.cells a1++[[.str a0.type.base,.sl false 2 40 (rows w6.cells a0.type.args)]]=rows w6.cells c6 from by rw[hc6];first|exact U8 (E:=w6.cells) a1 [a0.type]|simp only[go_sem,rows,List.map_append,List.map_cons,List.map_nil])
     have fy:=fa fy (show a1.length+1=c6.length from by rw[hc6];simp)
     obtain⟨fx,h⟩:=ck fx h
     refine dwy [] 2 ?_
     obtain⟨fx,h⟩:=ck fx h
     refine rn ?_
     obtain⟨v12,hv12,h⟩:=F9 h
     refine(zJ n _ _ _ hv12 _ _ 0 (by simp) (cW.trans rfl)).mono ?_
     rintro d1 st1 ⟨rfl,rfl⟩
     refine rr ?_
     exact fo (.tup [.agg [.str [],.sl false 2 40 (rows w6.cells [a0.type,v12.1])],.bool v12.2]) (.tup _ _ (.cons _ _ _ _ (.agg _ _ (.cons _ _ _ _ .s (.cons _ _ _ _ (.ref _ _ _ _ _ _ _ _ _ (pL.trans rfl) zq (by decide) (by simp[Imm,D.imm]) (by simp only[go_sem,rows,List.map_cons,List.map_nil])) .nil))) (.cons _ _ _ _ .s .nil)) rfl) h hsc
    ·obtain⟨fx,h⟩:=ck fx h
     refine cl h (ih _ _) fun v15 h=>?_
     obtain⟨fx,h⟩:=ck fx h
     refine cl h (ih _ _) fun v17 h=>?_
     refine rn ?_
     obtain⟨fx,h⟩:=ck fx h
     refine dw [] 0 ?_
     obtain⟨v20,hv20,h⟩:=F9 h
     refine fT (fun hG=>(uJ n _ _ _ (tO hv20 (by simpa using hG)))) ?_
     try simp only[go_sem,fx]
     refine cd h (fun hc h=>?_) fun hc h=>?_
     ·refine rr ?_
      exact fo (.tup [.agg [.str [],.sl false 2 40 (rows w6.cells [])],.bool false]) (.tup _ _ (.cons _ _ _ _ (.agg _ _ (.cons _ _ _ _ .s (.cons _ _ _ _ (.F6 _ _ _ (by decide)) .nil))) (.cons _ _ _ _ .s .nil)) rfl) h hsc
     ·obtain⟨fx,h⟩:=ck fx h
      exact rt
theorem rM(n:Nat)(a0:x9)(r:w9)(h:iO n a0=some r):Pure Tryz.prog gl 96 [.agg [.int .i64 a0.kind,.str a0.name,.int .i64 a0.index,.str a0.type.base,.sl false 2 40 (rows w6.cells a0.type.args),.sl false 6 96 (rows x9.cells a0.args)]] (.agg [.int .i64 r.code,.int .i64 r.index]):=by
 intro st
 unfold iO at h
 have fx:=trivial
 refine fb 25 [.cell 2 37] [0,1,2,3,4,5,7,14,22] Tryz.func96 fun hsc=>?_
 refine rn ?_
 obtain⟨v1,hv1,h⟩:=F9 h
 refine(wN n _ _ _ _ _ hv1 _ _ _ (by simp) (cW.trans rfl) (cW.trans rfl)).mono ?_
 rintro d1 st1 ⟨rfl,rfl⟩
 refine cd h (fun hc h=>?_) fun hc h=>?_
 ·exact rt
 ·refine cl h (up (Dz n _ _) (fun _=>(.cons _ _ _ _ .s (.cons _ _ _ _ (.F6 _ _ _ (by decide)) .nil)))) fun v2 h=>?_
  refine cd h (fun hc h=>?_) fun hc h=>?_
  ·exact rt
  ·exact rt
theorem zK(n:Nat)(a0:y6)(a1:B2)(a2:x6)(r:Int)(h:nT n a0 a1 a2=some r):Pure Tryz.prog gl 69 [.agg [.sl false 2 40 (rows x7.cells a0.types),.sl false 3 32 (rows y8.cells a0.C1)],.agg [.sl false 1 8 (rows eZ a1.up),.sl false 1 8 (rows eZ a1.down)],.agg [.str a2.name,.sl false 2 32 (rows y4.cells a2.graph.nodes),.int .i64 a2.kids,.int .i64 a2.weight,.int .i64 a2.meaning.kind,.str a2.meaning.name,.int .i64 a2.meaning.index,.str a2.meaning.type.base,.sl false 2 40 (rows w6.cells a2.meaning.type.args),.sl false 6 96 (rows x9.cells a2.meaning.args)]] (.int .i64 r):=by
 intro st
 unfold nT at h
 have fx:=trivial
 refine fb 46 [.tmp 6] [0,1,2,3,4,5,6,7,12,13,14,17,18,19,22,23,24,25,33,41] Tryz.func69 fun hsc=>?_
 refine cd h (fun hc h=>?_) fun hc h=>?_
 ·exact rt
 ·refine cl h (pe n _ _ _) fun v1 h=>?_
  refine cd h (fun hc h=>?_) fun hc h=>?_
  ·exact rt
  ·refine cl h (wM n _ _) fun v2 h=>?_
   refine cd h (fun hc h=>?_) fun hc h=>?_
   ·exact rt
   ·refine cl h (rM n _) fun v3 h=>?_
    exact rt
theorem lG(n:Nat)(a0:Bs)(r:Int)(h:R9 n a0=some r):Pure Tryz.prog gl 123 [.str a0] (.int .i64 r):=by
 intro st
 unfold R9 at h
 have fx:=trivial
 refine fb 10 [.tmp 2] [0,2,4,6] Tryz.func123 fun hsc=>?_
 refine rn ?_
 refine E8 (body:=T8 a0) (kk:=bp) (n:=n) (s0:=(0,0))
  (fun(gs0:Unit) (s0:Nat×Int)=>[(2,.int .i64 s0.2),(4,.it st.length)])
  (fun(gs0:Unit) (s0:Nat×Int)=>st++[some (.sit a0 s0.1)])
  (fun(gt0:Unit) (t0:Int)=>[(2,.int .i64 t0)])
  (fun(gt0:Unit) (t0:Int)=>st)
  () h (bm hsc)
  (fun gs0 s0 b0 h hx0=>?_) (fun gt0 t0 fr1 st1 h hb=>?_)
 ·unfold T8 at h
  refine cd h (fun hc h=>?_) fun hc h=>?_
  ·refine rn ?_
   cases h
   exact F5 () (bm hsc)
  ·refine rn ?_
   cases h
   exact K7 () (bm0 hsc)
 ·try simp only[go_sem,fx]
  unfold bp at h
  refine R4 hb ?_
  exact rt
theorem O5(a0:Bs)(r:Int)(h:I3 a0=some r):Pure Tryz.prog gl 139 [.str a0] (.int .u64 r):=by
 intro st
 unfold I3 at h
 have fx:=trivial
 refine fb 59 [.tmp 2] [0,2] Tryz.func139 fun hsc=>?_
 refine cd h (fun hc h=>?_) fun hc h=>?_
 ·refine rs ?_
  obtain⟨fx,h⟩:=ck fx h
  obtain⟨fx,h⟩:=ck fx h
  obtain⟨fx,h⟩:=ck fx h
  obtain⟨fx,h⟩:=ck fx h
  refine dw [] 0 ?_
  exact rt
 ·refine rn ?_
  obtain⟨fx,h⟩:=ck fx h
  obtain⟨fx,h⟩:=ck fx h
  obtain⟨fx,h⟩:=ck fx h
  obtain⟨fx,h⟩:=ck fx h
  obtain⟨fx,h⟩:=ck fx h
  obtain⟨fx,h⟩:=ck fx h
  obtain⟨fx,h⟩:=ck fx h
  obtain⟨fx,h⟩:=ck fx h
  refine dw [] 0 ?_
  exact rt
theorem pq(n:Nat)(a0:Bs)(r:Bool)(h:aV n a0=some r):Pure Tryz.prog gl 124 [.str a0] (.bool r):=by
 intro st
 unfold aV at h
 have fx:=trivial
 refine fb 169 [.tmp 2] [0,2,3,4,5,6,9,13,20,21,22,23,24,31,32,33,34,35,36,37,38,39,46,47,48,49,50,51,52,53,54,55,56,57,58,59,60,61,62,75,76,82,83,84,85,86,89,90,91,92,93,94,97,103,104,105,106,107,110,111,112,113,114,117,118,119,122,123,124,125,128,134,135,136,137,138,141,142,143,144,145,148,149,150,153,154,155,158,159,160,163,164,165,166] Tryz.func124 fun hsc=>?_
 refine rn ?_
 refine E8 (body:=W4 n) (kk:=fu) (n:=n) (s0:=a0)
  (fun(gs0:Unit) (s0:Bs)=>[(0,.str s0)])
  (fun(gs0:Unit) (s0:Bs)=>st)
  (fun(gt0:Unit) (t0:Unit)=>[])
  (fun(gt0:Unit) (t0:Unit)=>st)
  () h (gX hsc)
  (fun gs0 s0 b0 h hx0=>?_) (fun gt0 t0 fr1 st1 h hb=>?_)
 ·unfold W4 at h
  refine cd h (fun hc h=>?_) fun hc h=>?_
  ·obtain⟨fx,h⟩:=ck fx h
   refine cd h (fun hc h=>?_) fun hc h=>?_
   ·obtain⟨fx,h⟩:=ck fx h
    refine rn ?_
    obtain⟨v78,hv78,h⟩:=F9 h
    refine kG (fun hG=>(O5 _ _ (tO hv78 (by simpa using hG)))) ?_
    refine rn ?_
    refine iI (Q9) b0 (fun(gj3:Unit) (j3:Bs)=>[(0,.str j3)]) (fun(gj3:Unit) (j3:Bs)=>st) (fun gj3 j3 fr1 st1 h hb=>?_) (fun hj3=>?_)
    ·try simp only[go_sem,fx]
     unfold Q9 at h
     refine R4 hb ?_
     refine rn ?_
     cases h
     exact F5 () (gX hsc)
    ·refine cd h (fun hc h=>?_) fun hc h=>?_
     ·obtain⟨fx,h⟩:=ck fx h
      refine rn ?_
      refine dw [] 0 ?_
      obtain⟨v81,hv81,h⟩:=F9 h
      refine fT (fun hG=>(O5 _ _ (tO hv81 (by simpa using hG)))) ?_
      obtain⟨fx,h⟩:=ck fx h
      try simp only[go_sem,fx]
      obtain⟨v84,hv84,h⟩:=F9 h
      refine fT (fun hG=>(O5 _ _ (tO hv84 (by simpa using hG)))) ?_
      try simp only[go_sem,fx]
      refine cd h (fun hc h=>?_) fun hc h=>?_
      ·obtain⟨fx,h⟩:=ck fx h
       refine rn ?_
       refine E8 (body:=W3) (kk:=br) (n:=n) (s0:=(((s0.drop 1).drop 8).drop 16))
        (fun(gs4:Unit) (s4:Bs)=>[(0,.str s4)])
        (fun(gs4:Unit) (s4:Bs)=>st)
        (fun(gt4:Unit) (t4:Bs)=>[(0,.str t4)])
        (fun(gt4:Unit) (t4:Bs)=>st)
        () h (gX hsc)
        (fun gs4 s4 b4 h hx4=>?_) (fun gt4 t4 fr1 st1 h hb=>?_)
       ·unfold W3 at h
        refine rs ?_
        refine dw [] 0 ?_
        obtain⟨v100,hv100,h⟩:=F9 h
        refine fT (fun hG=>(O5 _ _ (tO hv100 (by simpa using hG)))) ?_
        obtain⟨fx,h⟩:=ck fx h
        try simp only[go_sem,fx]
        obtain⟨v103,hv103,h⟩:=F9 h
        refine fT (fun hG=>(O5 _ _ (tO hv103 (by simpa using hG)))) ?_
        obtain⟨fx,h⟩:=ck fx h
        try simp only[go_sem,fx]
        obtain⟨v106,hv106,h⟩:=F9 h
        refine fT (fun hG=>(O5 _ _ (tO hv106 (by simpa using hG)))) ?_
        obtain⟨fx,h⟩:=ck fx h
        try simp only[go_sem,fx]
        obtain⟨v110,hv110,h⟩:=F9 h
        refine fT (fun hG=>(O5 _ _ (tO hv110 (by simpa using hG)))) ?_
        try simp only[go_sem,fx]
        refine cd h (fun hc h=>?_) fun hc h=>?_
        ·obtain⟨fx,h⟩:=ck fx h
         refine rn ?_
         cases h
         exact F5 () (gX hsc)
        ·refine rn ?_
         cases h
         exact K7 () (gX hsc)
       ·try simp only[go_sem,fx]
        unfold br at h
        refine hj3 () _ _ _ h ?_;exact(hb.trans (gX hsc))
      ·refine r0 ?_
       refine hj3 () _ _ _ h ?_;exact(gX hsc)
     ·refine r0 ?_
      refine hj3 () _ _ _ h ?_;exact(gX hsc)
   ·refine r0 ?_
    obtain⟨fx,h⟩:=ck fx h
    have fy:=(show Am.rowAt (ju u8c pN) ((B0 s0 0).toNat) 1=u8c (get pN ((B0 s0 0).toNat))from yd (fun _=>rfl) (show _<pN.length by rw[LD];first|omega|(simp;omega)))
    refine r1 ?_
    refine r0 ?_
    obtain⟨fx,h⟩:=ck fx h
    have fy:=(show Am.rowAt (ju C0.cells sS) ((Int.fdiv (get pN ((B0 s0 0).toNat)) (2^(min 4 8))).toNat) 2=C0.cells (get sS ((Int.fdiv (get pN ((B0 s0 0).toNat)) (2^(min 4 8))).toNat))from yd (fun _=>rfl) (show _<sS.length by rw[FX];first|omega|(simp;omega)))
    refine r1 ?_
    refine cd h (fun hc h=>?_) fun hc h=>?_
    ·refine rs ?_
     obtain⟨fx,h⟩:=ck fx h
     obtain⟨fx,h⟩:=ck fx h
     refine dw [] 0 ?_
     refine cd h (fun hc h=>?_) fun hc h=>?_
     ·refine ra ?_
      cases h
      refine aP ?_;have h:=congrArg some (hx0 _ rfl)
      exact rt
     ·obtain⟨fx,h⟩:=ck fx h
      refine rn ?_
      cases h
      exact F5 () (bm0 hsc)
    ·refine cd h (fun hc h=>?_) fun hc h=>?_
     ·refine rs ?_
      obtain⟨fx,h⟩:=ck fx h
      obtain⟨fx,h⟩:=ck fx h
      obtain⟨fx,h⟩:=ck fx h
      obtain⟨fx,h⟩:=ck fx h
      refine dw [] 0 ?_
      refine cd h (fun hc h=>?_) fun hc h=>?_
      ·refine ra ?_
       cases h
       refine aP ?_;have h:=congrArg some (hx0 _ rfl)
       exact rt
      ·obtain⟨fx,h⟩:=ck fx h
       refine rn ?_
       cases h
       exact F5 () (bm0 hsc)
     ·refine cd h (fun hc h=>?_) fun hc h=>?_
      ·refine rs ?_
       obtain⟨fx,h⟩:=ck fx h
       obtain⟨fx,h⟩:=ck fx h
       obtain⟨fx,h⟩:=ck fx h
       obtain⟨fx,h⟩:=ck fx h
       obtain⟨fx,h⟩:=ck fx h
       obtain⟨fx,h⟩:=ck fx h
       refine dw [] 0 ?_
       refine cd h (fun hc h=>?_) fun hc h=>?_
       ·refine ra ?_
        cases h
        refine aP ?_;have h:=congrArg some (hx0 _ rfl)
        exact rt
       ·obtain⟨fx,h⟩:=ck fx h
        refine rn ?_
        cases h
        exact F5 () (bm0 hsc)
      ·refine ra ?_
       cases h
       refine aP ?_;have h:=congrArg some (hx0 _ rfl)
       exact rt
  ·refine rn ?_
   cases h
   exact K7 () (gX hsc)
 ·try simp only[go_sem,fx]
  unfold fu at h
  refine R4 hb ?_
  exact rt
end Go.Proofs.YtfogbhjeihkliaaGreatDoor
