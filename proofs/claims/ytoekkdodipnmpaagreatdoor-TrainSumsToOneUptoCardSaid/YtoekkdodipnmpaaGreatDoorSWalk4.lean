import Derived.Test.YtoekkdodipnmpaaGreatDoorSWalk3
import Derived.Test.YtoekkdodipnmpaaGreatDoorSHand2
set_option linter.unusedVariables false
set_option linter.unusedSimpArgs false
set_option maxHeartbeats 2000000
set_option maxRecDepth 100000
namespace Go.Proofs.YtoekkdodipnmpaaGreatDoor
open Go Go.Am
theorem sW:∀(n:Nat) (a0:w6) (l0:(List u0)) (r:u0×Bool) (h:W5 n a0 l0=some r),∀(st:St) (o0 q0:Nat) (hnd: [o0].Nodup) (fY:Am.look st o0=some (.arr q0 2 40 (rows u0.cells l0))),Am.Spec Tryz.prog gl 94 [.agg [.int .i64 a0.kind,.str a0.name,.int .i64 a0.index,.str a0.type.base,.sl false 2 40 (rows u0.cells a0.type.args),.sl false 6 96 (rows w6.cells a0.args)],.ref false o0 q0 0 l0.length] st (fun d st'=>d= .tup [.agg [.str r.1.base,.sl false 2 40 (rows u0.cells r.1.args)],.bool r.2]∧st'=puts st []):=by
 intro n
 induction n with
 |zero=>intro a0 l0 r h;cases h
 |succ n ih=>
  intro a0 l0 r h st o0 q0 hnd fY
  unfold W5 at h
  have ho0:=S9 fY
  have fx:=idf ho0
  refine fb 101 [.cell 4 64,.tmp 5] [0,1,2,4,5,6,7,8,9,10,11,12,14,15,19,30,78,79,82,83,84,85,88,89,90,91,92,93,94,95] Tryz.func94 fun hsc=>?_
  refine kS (s':=(U1 st [(o0,(.arr q0 2 40 (rows u0.cells l0)))])) (K5 (by simp[fY])) ?_
  refine cd h (fun hc h=>?_) fun hc h=>?_
  ·refine rr ?_
   exact fuo (.tup [.agg [.str a0.type.base,.sl false 2 40 (rows u0.cells a0.type.args)],.bool true]) (.same _) h hsc (hr:=by rintro rfl;exact⟨rfl,K5 (by simp[fY])⟩)
  ·refine cd h (fun hc h=>?_) fun hc h=>?_
   ·obtain⟨fx,h⟩:=ck fx h
    have fy:=(show(rows u0.cells l0).getD ((wr .i64 ((wr .i64 ((↑l0.length:Int)-1))-a0.index)).toNat) []=u0.cells (get l0 ((wr .i64 ((wr .i64 ((↑l0.length:Int)-1))-a0.index)).toNat))from jk (E:=u0.cells) (l:=l0) (k:=(wr .i64 ((wr .i64 ((↑l0.length:Int)-1))-a0.index)).toNat) (by first|omega|(simp;omega)))
    have fy:=fa fy (show(wr .i64 ((wr .i64 ((↑l0.length:Int)-1))-a0.index)).toNat<l0.length from by first|omega|(simp;omega))
    refine r1 ?_
    refine rr ?_
    exact fuo (.tup [.agg [.str ((get l0 ((wr .i64 ((wr .i64 ((↑l0.length:Int)-1))-a0.index)).toNat)).base),.sl false 2 40 (rows u0.cells ((get l0 ((wr .i64 ((wr .i64 ((↑l0.length:Int)-1))-a0.index)).toNat)).args))],.bool true]) (.same _) h hsc (hr:=by rintro rfl;exact⟨rfl,K5 (by simp[fY])⟩)
   ·refine cd h (fun hc h=>?_) fun hc h=>?_
    ·refine rs ?_
     obtain⟨fx,h⟩:=ck fx h
     obtain⟨c8,hc8,h⟩:=lK h
     have fy:=(show rows u0.cells l0++[[.str a0.type.base,.sl false 2 40 (rows u0.cells a0.type.args)]]=rows u0.cells c8 from by rw[hc8];first|exact bA (E:=u0.cells) l0 [a0.type]|simp only[go_sem,rows,List.map_append,List.map_cons,List.map_nil])
     have fy:=fa fy (show l0.length+1=c8.length from by rw[hc8];simp)
     obtain⟨fx,h⟩:=ck fx h
     refine dwy [] 2 ?_
     obtain⟨fx,h⟩:=ck fx h
     refine rn ?_
     obtain⟨v14,hv14,h⟩:=E7 h
     refine(ih _ _ _ hv14 _ _ 0 (by simp) (R5.trans rfl)).mono ?_
     rintro d1 st1 ⟨rfl,rfl⟩
     refine rr ?_
     exact fuo (.tup [.agg [.str [],.sl false 2 40 (rows u0.cells [a0.type,v14.1])],.bool v14.2]) (.tup _ _ (.cons _ _ _ _ (.agg _ _ (.cons _ _ _ _ .s (.cons _ _ _ _ (.ref _ _ _ _ _ _ _ _ _ (nL.trans rfl) nN (by decide) (by simp[Imm,D.imm]) (by simp only[go_sem,rows,List.map_cons,List.map_nil])) .nil))) (.cons _ _ _ _ .s .nil)) rfl) h hsc (hr:=by rintro rfl;exact⟨rfl,K5 (by simp[fY])⟩)
    ·obtain⟨fx,h⟩:=ck fx h
     refine rn ?_
     obtain⟨v17,hv17,h⟩:=E7 h
     refine(ih _ _ _ hv17 _ _ q0 hnd (by simp only[go_sem,fx])).mono ?_
     rintro d1 st1 ⟨rfl,rfl⟩
     obtain⟨fx,h⟩:=ck fx h
     refine rn ?_
     obtain⟨v19,hv19,h⟩:=E7 h
     refine(ih _ _ _ hv19 _ _ q0 hnd (by simp only[go_sem,fx])).mono ?_
     rintro d1 st1 ⟨rfl,rfl⟩
     refine rn ?_
     obtain⟨fx,h⟩:=ck fx h
     refine dw [] 0 ?_
     obtain⟨v22,hv22,h⟩:=E7 h
     refine dZ (fun hG=>(oh n _ _ _ (sM hv22 (by simpa using hG)))) ?_
     try simp only[go_sem,fx]
     refine cd h (fun hc h=>?_) fun hc h=>?_
     ·refine rr ?_
      exact fuo (.tup [.agg [.str [],.sl false 2 40 (rows u0.cells [])],.bool false]) (.tup _ _ (.cons _ _ _ _ (.agg _ _ (.cons _ _ _ _ .s (.cons _ _ _ _ (.D3 _ _ _ (by decide)) .nil))) (.cons _ _ _ _ .s .nil)) rfl) h hsc (hr:=by rintro rfl;exact⟨rfl,K5 (by simp[fY])⟩)
     ·obtain⟨fx,h⟩:=ck fx h
      refine rr ?_
      exact fuo (.tup [.agg [.str ((get v17.1.args 1).base),.sl false 2 40 (rows u0.cells ((get v17.1.args 1).args))],.bool true]) (.same _) h hsc (hr:=by rintro rfl;exact⟨rfl,K5 (by simp[fY])⟩)
theorem xq:∀(n:Nat) (a0:w6) (a1:(List u0)) (r:u0×Bool) (h:cU n a0 a1=some r),Pure Tryz.prog gl 94 [.agg [.int .i64 a0.kind,.str a0.name,.int .i64 a0.index,.str a0.type.base,.sl false 2 40 (rows u0.cells a0.type.args),.sl false 6 96 (rows w6.cells a0.args)],.sl false 2 40 (rows u0.cells a1)] (.tup [.agg [.str r.1.base,.sl false 2 40 (rows u0.cells r.1.args)],.bool r.2]):=by
 intro n
 induction n with
 |zero=>intro a0 a1 r h;cases h
 |succ n ih=>
  intro a0 a1 r h st
  unfold cU at h
  have fx:=trivial
  refine fb 101 [.cell 4 64,.tmp 5] [0,1,2,4,5,6,7,8,9,10,11,12,14,15,19,30,78,79,82,83,84,85,88,89,90,91,92,93,94,95] Tryz.func94 fun hsc=>?_
  refine cd h (fun hc h=>?_) fun hc h=>?_
  ·exact rt
  ·refine cd h (fun hc h=>?_) fun hc h=>?_
   ·obtain⟨fx,h⟩:=ck fx h
    exact rt
   ·refine cd h (fun hc h=>?_) fun hc h=>?_
    ·refine rs ?_
     obtain⟨fx,h⟩:=ck fx h
     obtain⟨c6,hc6,h⟩:=lK h
     have fy:=(show rows u0.cells a1++[[.str a0.type.base,.sl false 2 40 (rows u0.cells a0.type.args)]]=rows u0.cells c6 from by rw[hc6];first|exact bA (E:=u0.cells) a1 [a0.type]|simp only[go_sem,rows,List.map_append,List.map_cons,List.map_nil])
     have fy:=fa fy (show a1.length+1=c6.length from by rw[hc6];simp)
     obtain⟨fx,h⟩:=ck fx h
     refine dwy [] 2 ?_
     obtain⟨fx,h⟩:=ck fx h
     refine rn ?_
     obtain⟨v12,hv12,h⟩:=E7 h
     refine(sW n _ _ _ hv12 _ _ 0 (by simp) (U5.trans rfl)).mono ?_
     rintro d1 st1 ⟨rfl,rfl⟩
     refine rr ?_
     exact fo (.tup [.agg [.str [],.sl false 2 40 (rows u0.cells [a0.type,v12.1])],.bool v12.2]) (.tup _ _ (.cons _ _ _ _ (.agg _ _ (.cons _ _ _ _ .s (.cons _ _ _ _ (.ref _ _ _ _ _ _ _ _ _ (nK.trans rfl) zE (by decide) (by simp[Imm,D.imm]) (by simp only[go_sem,rows,List.map_cons,List.map_nil])) .nil))) (.cons _ _ _ _ .s .nil)) rfl) h hsc
    ·obtain⟨fx,h⟩:=ck fx h
     refine cl h (ih _ _) fun v15 h=>?_
     obtain⟨fx,h⟩:=ck fx h
     refine cl h (ih _ _) fun v17 h=>?_
     refine rn ?_
     obtain⟨fx,h⟩:=ck fx h
     refine dw [] 0 ?_
     obtain⟨v20,hv20,h⟩:=E7 h
     refine dZ (fun hG=>(oh n _ _ _ (sM hv20 (by simpa using hG)))) ?_
     try simp only[go_sem,fx]
     refine cd h (fun hc h=>?_) fun hc h=>?_
     ·refine rr ?_
      exact fo (.tup [.agg [.str [],.sl false 2 40 (rows u0.cells [])],.bool false]) (.tup _ _ (.cons _ _ _ _ (.agg _ _ (.cons _ _ _ _ .s (.cons _ _ _ _ (.D3 _ _ _ (by decide)) .nil))) (.cons _ _ _ _ .s .nil)) rfl) h hsc
     ·obtain⟨fx,h⟩:=ck fx h
      exact rt
theorem lx(n:Nat)(a0:w6)(r:w5)(h:bS n a0=some r):Pure Tryz.prog gl 76 [.agg [.int .i64 a0.kind,.str a0.name,.int .i64 a0.index,.str a0.type.base,.sl false 2 40 (rows u0.cells a0.type.args),.sl false 6 96 (rows w6.cells a0.args)]] (.agg [.int .i64 r.code,.int .i64 r.index]):=by
 intro st
 unfold bS at h
 have fx:=trivial
 refine fb 25 [.cell 2 39] [0,1,2,3,4,5,7,14,22] Tryz.func76 fun hsc=>?_
 refine rn ?_
 obtain⟨v1,hv1,h⟩:=E7 h
 refine(pZ n _ _ _ _ _ hv1 _ _ _ (by simp) (U5.trans rfl) (U5.trans rfl)).mono ?_
 rintro d1 st1 ⟨rfl,rfl⟩
 refine cd h (fun hc h=>?_) fun hc h=>?_
 ·exact rt
 ·refine cl h (up (xq n _ _) (fun _=>(.cons _ _ _ _ .s (.cons _ _ _ _ (.D3 _ _ _ (by decide)) .nil)))) fun v2 h=>?_
  refine cd h (fun hc h=>?_) fun hc h=>?_
  ·exact rt
  ·exact rt
theorem sX(n:Nat)(a0:x7)(a1:A9)(a2:w8)(r:Int)(h:hB n a0 a1 a2=some r):Pure Tryz.prog gl 54 [.agg [.sl false 2 40 (rows x5.cells a0.types),.sl false 3 32 (rows A0.cells a0.C2)],.agg [.sl false 1 8 (rows Z2 a1.up),.sl false 1 8 (rows Z2 a1.down)],.agg [.str a2.name,.sl false 2 32 (rows y4.cells a2.graph.nodes),.int .i64 a2.kids,.int .i64 a2.weight,.int .i64 a2.meaning.kind,.str a2.meaning.name,.int .i64 a2.meaning.index,.str a2.meaning.type.base,.sl false 2 40 (rows u0.cells a2.meaning.type.args),.sl false 6 96 (rows w6.cells a2.meaning.args)]] (.int .i64 r):=by
 intro st
 unfold hB at h
 have fx:=trivial
 refine fb 46 [.tmp 6] [0,1,2,3,4,5,6,7,12,13,14,17,18,19,22,23,24,25,33,41] Tryz.func54 fun hsc=>?_
 refine cd h (fun hc h=>?_) fun hc h=>?_
 ·exact rt
 ·refine cl h (ji n _ _ _) fun v1 h=>?_
  refine cd h (fun hc h=>?_) fun hc h=>?_
  ·exact rt
  ·refine cl h (pY n _ _) fun v2 h=>?_
   refine cd h (fun hc h=>?_) fun hc h=>?_
   ·exact rt
   ·refine cl h (lx n _) fun v3 h=>?_
    exact rt
theorem eX(n:Nat)(a0:Bs)(r:Int)(h:J5 n a0=some r):Pure Tryz.prog gl 95 [.str a0] (.int .i64 r):=by
 intro st
 unfold J5 at h
 have fx:=trivial
 refine fb 10 [.tmp 2] [0,2,4,6] Tryz.func95 fun hsc=>?_
 refine rn ?_
 refine I3 (body:=K8 a0) (kk:=S2) (n:=n) (s0:=(0,0))
  (fun(gs0:Unit) (s0:Nat×Int)=>[(2,.int .i64 s0.2),(4,.it st.length)])
  (fun(gs0:Unit) (s0:Nat×Int)=>st++[some (.sit a0 s0.1)])
  (fun(gt0:Unit) (t0:Int)=>[(2,.int .i64 t0)])
  (fun(gt0:Unit) (t0:Int)=>st)
  () h (bm hsc)
  (fun gs0 s0 b0 h hx0=>?_) (fun gt0 t0 fr1 st1 h hb=>?_)
 ·unfold K8 at h
  refine cd h (fun hc h=>?_) fun hc h=>?_
  ·refine rn ?_
   cases h
   exact J2 () (bm hsc)
  ·refine rn ?_
   cases h
   exact U0 () (bm0 hsc)
 ·try simp only[go_sem,fx]
  unfold S2 at h
  refine R8 hb ?_
  exact rt
theorem G9(a0:Bs)(r:Int)(h:E6 a0=some r):Pure Tryz.prog gl 104 [.str a0] (.int .u64 r):=by
 intro st
 unfold E6 at h
 have fx:=trivial
 refine fb 59 [.tmp 2] [0,2] Tryz.func104 fun hsc=>?_
 refine cd h (fun hc h=>?_) fun hc h=>?_
 ·refine rs ?_
  obtain⟨fx,h⟩:=ck fx h
  obtain⟨fx,h⟩:=ck fx h
  obtain⟨fx,h⟩:=ck fx h
  obtain⟨fx,h⟩:=ck fx h
  refine dw [] 0 ?_
  exact rt
 ·refine rn ?_
  obtain⟨fx,h⟩:=ck fx h
  obtain⟨fx,h⟩:=ck fx h
  obtain⟨fx,h⟩:=ck fx h
  obtain⟨fx,h⟩:=ck fx h
  obtain⟨fx,h⟩:=ck fx h
  obtain⟨fx,h⟩:=ck fx h
  obtain⟨fx,h⟩:=ck fx h
  obtain⟨fx,h⟩:=ck fx h
  refine dw [] 0 ?_
  exact rt
theorem jj(n:Nat)(a0:Bs)(r:Bool)(h:R9 n a0=some r):Pure Tryz.prog gl 96 [.str a0] (.bool r):=by
 intro st
 unfold R9 at h
 have fx:=trivial
 refine fb 169 [.tmp 2] [0,2,3,4,5,6,9,13,20,21,22,23,24,31,32,33,34,35,36,37,38,39,46,47,48,49,50,51,52,53,54,55,56,57,58,59,60,61,62,75,76,82,83,84,85,86,89,90,91,92,93,94,97,103,104,105,106,107,110,111,112,113,114,117,118,119,122,123,124,125,128,134,135,136,137,138,141,142,143,144,145,148,149,150,153,154,155,158,159,160,163,164,165,166] Tryz.func96 fun hsc=>?_
 refine rn ?_
 refine I3 (body:=M6 n) (kk:=Z6) (n:=n) (s0:=a0)
  (fun(gs0:Unit) (s0:Bs)=>[(0,.str s0)])
  (fun(gs0:Unit) (s0:Bs)=>st)
  (fun(gt0:Unit) (t0:Unit)=>[])
  (fun(gt0:Unit) (t0:Unit)=>st)
  () h (cT hsc)
  (fun gs0 s0 b0 h hx0=>?_) (fun gt0 t0 fr1 st1 h hb=>?_)
 ·unfold M6 at h
  refine cd h (fun hc h=>?_) fun hc h=>?_
  ·obtain⟨fx,h⟩:=ck fx h
   refine cd h (fun hc h=>?_) fun hc h=>?_
   ·obtain⟨fx,h⟩:=ck fx h
    refine rn ?_
    obtain⟨v78,hv78,h⟩:=E7 h
    refine iZ (fun hG=>(G9 _ _ (sM hv78 (by simpa using hG)))) ?_
    refine rn ?_
    refine eP (I9) b0 (fun(gj3:Unit) (j3:Bs)=>[(0,.str j3)]) (fun(gj3:Unit) (j3:Bs)=>st) (fun gj3 j3 fr1 st1 h hb=>?_) (fun hj3=>?_)
    ·try simp only[go_sem,fx]
     unfold I9 at h
     refine R8 hb ?_
     refine rn ?_
     cases h
     exact J2 () (cT hsc)
    ·refine cd h (fun hc h=>?_) fun hc h=>?_
     ·obtain⟨fx,h⟩:=ck fx h
      refine rn ?_
      refine dw [] 0 ?_
      obtain⟨v81,hv81,h⟩:=E7 h
      refine dZ (fun hG=>(G9 _ _ (sM hv81 (by simpa using hG)))) ?_
      obtain⟨fx,h⟩:=ck fx h
      try simp only[go_sem,fx]
      obtain⟨v84,hv84,h⟩:=E7 h
      refine dZ (fun hG=>(G9 _ _ (sM hv84 (by simpa using hG)))) ?_
      try simp only[go_sem,fx]
      refine cd h (fun hc h=>?_) fun hc h=>?_
      ·obtain⟨fx,h⟩:=ck fx h
       refine rn ?_
       refine I3 (body:=M5) (kk:=S6) (n:=n) (s0:=(((s0.drop 1).drop 8).drop 16))
        (fun(gs4:Unit) (s4:Bs)=>[(0,.str s4)])
        (fun(gs4:Unit) (s4:Bs)=>st)
        (fun(gt4:Unit) (t4:Bs)=>[(0,.str t4)])
        (fun(gt4:Unit) (t4:Bs)=>st)
        () h (cT hsc)
        (fun gs4 s4 b4 h hx4=>?_) (fun gt4 t4 fr1 st1 h hb=>?_)
       ·unfold M5 at h
        refine rs ?_
        refine dw [] 0 ?_
        obtain⟨v100,hv100,h⟩:=E7 h
        refine dZ (fun hG=>(G9 _ _ (sM hv100 (by simpa using hG)))) ?_
        obtain⟨fx,h⟩:=ck fx h
        try simp only[go_sem,fx]
        obtain⟨v103,hv103,h⟩:=E7 h
        refine dZ (fun hG=>(G9 _ _ (sM hv103 (by simpa using hG)))) ?_
        obtain⟨fx,h⟩:=ck fx h
        try simp only[go_sem,fx]
        obtain⟨v106,hv106,h⟩:=E7 h
        refine dZ (fun hG=>(G9 _ _ (sM hv106 (by simpa using hG)))) ?_
        obtain⟨fx,h⟩:=ck fx h
        try simp only[go_sem,fx]
        obtain⟨v110,hv110,h⟩:=E7 h
        refine dZ (fun hG=>(G9 _ _ (sM hv110 (by simpa using hG)))) ?_
        try simp only[go_sem,fx]
        refine cd h (fun hc h=>?_) fun hc h=>?_
        ·obtain⟨fx,h⟩:=ck fx h
         refine rn ?_
         cases h
         exact J2 () (cT hsc)
        ·refine rn ?_
         cases h
         exact U0 () (cT hsc)
       ·try simp only[go_sem,fx]
        unfold S6 at h
        refine hj3 () _ _ _ h ?_;exact(hb.trans (cT hsc))
      ·refine r0 ?_
       refine hj3 () _ _ _ h ?_;exact(cT hsc)
     ·refine r0 ?_
      refine hj3 () _ _ _ h ?_;exact(cT hsc)
   ·refine r0 ?_
    obtain⟨fx,h⟩:=ck fx h
    have fy:=(show Am.rowAt (cS u8c jv) ((y8 s0 0).toNat) 1=u8c (get jv ((y8 s0 0).toNat))from qW (fun _=>rfl) (show _<jv.length by rw[EB];first|omega|(simp;omega)))
    refine r1 ?_
    refine r0 ?_
    obtain⟨fx,h⟩:=ck fx h
    have fy:=(show Am.rowAt (cS B7.cells mR) ((Int.fdiv (get jv ((y8 s0 0).toNat)) (2^(min 4 8))).toNat) 2=B7.cells (get mR ((Int.fdiv (get jv ((y8 s0 0).toNat)) (2^(min 4 8))).toNat))from qW (fun _=>rfl) (show _<mR.length by rw[zL];first|omega|(simp;omega)))
    refine r1 ?_
    refine cd h (fun hc h=>?_) fun hc h=>?_
    ·refine rs ?_
     obtain⟨fx,h⟩:=ck fx h
     obtain⟨fx,h⟩:=ck fx h
     refine dw [] 0 ?_
     refine cd h (fun hc h=>?_) fun hc h=>?_
     ·refine ra ?_
      cases h
      refine aA ?_;have h:=congrArg some (hx0 _ rfl)
      exact rt
     ·obtain⟨fx,h⟩:=ck fx h
      refine rn ?_
      cases h
      exact J2 () (bm0 hsc)
    ·refine cd h (fun hc h=>?_) fun hc h=>?_
     ·refine rs ?_
      obtain⟨fx,h⟩:=ck fx h
      obtain⟨fx,h⟩:=ck fx h
      obtain⟨fx,h⟩:=ck fx h
      obtain⟨fx,h⟩:=ck fx h
      refine dw [] 0 ?_
      refine cd h (fun hc h=>?_) fun hc h=>?_
      ·refine ra ?_
       cases h
       refine aA ?_;have h:=congrArg some (hx0 _ rfl)
       exact rt
      ·obtain⟨fx,h⟩:=ck fx h
       refine rn ?_
       cases h
       exact J2 () (bm0 hsc)
     ·refine cd h (fun hc h=>?_) fun hc h=>?_
      ·refine rs ?_
       obtain⟨fx,h⟩:=ck fx h
       obtain⟨fx,h⟩:=ck fx h
       obtain⟨fx,h⟩:=ck fx h
       obtain⟨fx,h⟩:=ck fx h
       obtain⟨fx,h⟩:=ck fx h
       obtain⟨fx,h⟩:=ck fx h
       refine dw [] 0 ?_
       refine cd h (fun hc h=>?_) fun hc h=>?_
       ·refine ra ?_
        cases h
        refine aA ?_;have h:=congrArg some (hx0 _ rfl)
        exact rt
       ·obtain⟨fx,h⟩:=ck fx h
        refine rn ?_
        cases h
        exact J2 () (bm0 hsc)
      ·refine ra ?_
       cases h
       refine aA ?_;have h:=congrArg some (hx0 _ rfl)
       exact rt
  ·refine rn ?_
   cases h
   exact U0 () (cT hsc)
 ·try simp only[go_sem,fx]
  unfold Z6 at h
  refine R8 hb ?_
  exact rt
theorem iu(a0:Bs)(a1:Int)(r:Int)(h:aV a0 a1=some r):Pure Tryz.prog gl 115 [.str a0,.int .u8 a1] (.int .i64 r):=by
 intro st
 unfold aV at h
 have fx:=trivial
 refine fb 8 [.tmp 4] [0,1,4] Tryz.func115 fun hsc=>?_
 refine cl h (wz _ _) fun v1 h=>?_
 exact rt
theorem kj(a0:Int)(r:Bool)(h:ak a0=some r):Pure Tryz.prog gl 116 [.int .i32 a0] (.bool r):=by
 intro st
 unfold ak at h
 have fx:=trivial
 refine fb 17 [.tmp 2] [0,2,3,7,8,10,14,15] Tryz.func116 fun hsc=>?_
 refine cd h (fun hc h=>?_) fun hc h=>?_
 ·exact rt
 ·refine cd h (fun hc h=>?_) fun hc h=>?_
  ·exact rt
  ·exact rt
theorem iw(n:Nat)(a0:Bs)(a1:Int)(r:Int)(h:Y3 n a0 a1=some r):Pure Tryz.prog gl 110 [.str a0,.int .i32 a1] (.int .i64 r):=by
 intro st
 unfold Y3 at h
 have fx:=trivial
 refine fb 187 [.tmp 4] [0,1,4,5,6,7,8,9,10,11,12,13,14,15,16,26,33,43,51,64,73,74,75,76,79,80,81,82,85,86,87,88,89,90,91,92,93,94,95,96,97,98,108,124,133,134,135,136,137,138,139,143,156,160,164,165,171,175,176,177,181,183] Tryz.func110 fun hsc=>?_
 refine cd h (fun hc h=>?_) fun hc h=>?_
 ·refine cl h (iu _ _) fun v1 h=>?_
  exact rt
 ·refine cd h (fun hc h=>?_) fun hc h=>?_
  ·refine rn ?_
   refine I3 (body:=aN a0) (kk:=dH) (n:=n) (s0:=0)
    (fun(gs0:Unit) (s0:Nat)=>[(175,.it st.length)])
    (fun(gs0:Unit) (s0:Nat)=>st++[some (.sit a0 s0)])
    (fun(gt0:Unit) (t0:Unit)=>[])
    (fun(gt0:Unit) (t0:Unit)=>st)
    () h (bm hsc)
    (fun gs0 s0 b0 h hx0=>?_) (fun gt0 t0 fr1 st1 h hb=>?_)
   ·unfold aN at h
    refine cd h (fun hc h=>?_) fun hc h=>?_
    ·obtain⟨fx,h⟩:=ck fx h
     refine cd h (fun hc h=>?_) fun hc h=>?_
     ·refine ra ?_
      cases h
      refine aA ?_;have h:=congrArg some (hx0 _ rfl)
      exact rt
     ·refine rn ?_
      cases h
      exact J2 () (bm hsc)
    ·refine rn ?_
     cases h
     exact U0 () (bm0 hsc)
   ·try simp only[go_sem,fx]
    unfold dH at h
    refine R8 hb ?_
    exact rt
  ·refine cl h (kj _) fun v4 h=>?_
   refine cd h (fun hc h=>?_) fun hc h=>?_
   ·exact rt
   ·refine rn ?_
    refine I3 (body:=W6 n a1 a0) (kk:=dK) (n:=n) (s0:=())
     (fun(gs1:Unit) (s1:Unit)=>[(0,.str a0),(7,.str (H9 a1)),(8,.int .i64 (wr .i64 ((↑((H9 a1).length):Int)-1))),(9,.int .i64 (wr .i64 ((↑((H9 a1).length):Int)-1)))])
     (fun(gs1:Unit) (s1:Unit)=>st)
     (fun(gt1:Unit) (t1:Unit)=>[])
     (fun(gt1:Unit) (t1:Unit)=>st)
     () h (cT hsc)
     (fun gs1 s1 b1 h hx1=>?_) (fun gt1 t1 fr1 st1 h hb=>?_)
    ·unfold W6 at h
     refine cd h (fun hc h=>?_) fun hc h=>?_
     ·refine rn ?_
      obtain⟨fx,h⟩:=ck fx h
      obtain⟨fx,h⟩:=ck fx h
      refine dw [] 0 ?_
      (repeat apply sq_)
      refine eP (aR n a1 a0) b1 (fun(gj2:Unit) (j2:Int)=>[(0,.str a0),(7,.str (H9 a1)),(8,.int .i64 (wr .i64 ((↑((H9 a1).length):Int)-1))),(9,.int .i64 j2)]) (fun(gj2:Unit) (j2:Int)=>st) (fun gj2 j2 fr1 st1 h hb=>?_) (fun hj2=>?_)
      ·try simp only[go_sem,fx]
       unfold aR at h
       refine R8 hb ?_
       refine rn ?_
       refine I3 (body:=dI a1 j2 a0) (kk:=dJ j2 a1) (n:=n) (s0:=1)
        (fun(gs3:Unit) (s3:Int)=>[(0,.str a0),(7,.str (H9 a1)),(8,.int .i64 (wr .i64 ((↑((H9 a1).length):Int)-1))),(9,.int .i64 j2),(12,.int .i64 s3)])
        (fun(gs3:Unit) (s3:Int)=>st)
        (fun(gt3:Unit) (t3:Unit)=>[(8,.int .i64 (wr .i64 ((↑((H9 a1).length):Int)-1))),(9,.int .i64 j2)])
        (fun(gt3:Unit) (t3:Unit)=>st)
        () h (cT hsc)
        (fun gs3 s3 b3 h hx3=>?_) (fun gt3 t3 fr1 st1 h hb=>?_)
       ·unfold dI at h
        refine cd h (fun hc h=>?_) fun hc h=>?_
        ·refine rn ?_
         obtain⟨fx,h⟩:=ck fx h
         obtain⟨fx,h⟩:=ck fx h
         refine dw [] 0 ?_
         refine cd h (fun hc h=>?_) fun hc h=>?_
         ·cases h
         ·refine rn ?_
          cases h
          exact J2 () (cT hsc)
        ·refine rn ?_
         cases h
         exact U0 () (cT hsc)
       ·try simp only[go_sem,fx]
        unfold dJ at h
        refine R8 hb ?_
        refine ra ?_
        cases h
        refine aA ?_;have h:=congrArg some (hx1 _ rfl)
        exact rt
      ·refine cd h (fun hc h=>?_) fun hc h=>?_
       ·refine rs ?_
        obtain⟨fx,h⟩:=ck fx h
        refine dw [] 0 ?_
        obtain⟨v10,hv10,h⟩:=E7 h
        refine y9 (iu _ _ _ hv10) ?_
        try simp only[go_sem,fx]
        refine cd h (fun hc h=>?_) fun hc h=>?_
        ·refine ra ?_
         cases h
         refine aA ?_;have h:=congrArg some (hx1 _ rfl)
         exact rt
        ·refine r0 ?_
         refine r0 ?_
         refine hj2 () _ _ _ h ?_;exact(cT hsc)
       ·refine r0 ?_
        refine hj2 () _ _ _ h ?_;exact(cT hsc)
     ·refine rn ?_
      cases h
      exact U0 () (cT hsc)
    ·try simp only[go_sem,fx]
     unfold dK at h
     refine R8 hb ?_
     exact rt
theorem iy(a0:Int)(r:Bool)(h:aG a0=some r):Pure Tryz.prog gl 111 [.int .i64 a0] (.bool r):=by
 intro st
 unfold aG at h
 have fx:=trivial
 refine fb 5 [.tmp 2] [0,2] Tryz.func111 fun hsc=>?_
 exact rt
theorem mW(n:Nat)(a0:Bs)(a1:Bs)(r:Int)(h:dj n a0 a1=some r):Pure Tryz.prog gl 105 [.str a0,.str a1] (.int .i64 r):=by
 intro st
 unfold dj at h
 have fx:=trivial
 refine fb 55 [.tmp 4] [0,1,4,5,6,7,8,9,10,12,15,20,26,32,36,42,45,46,47,53] Tryz.func105 fun hsc=>?_
 refine cd h (fun hc h=>?_) fun hc h=>?_
 ·exact rt
 ·refine cd h (fun hc h=>?_) fun hc h=>?_
  ·obtain⟨fx,h⟩:=ck fx h
   refine rn ?_
   refine eP (aS n a0) r (fun(gj0:Unit) (j0:Int)=>[(0,.str a0),(5,.int .i32 j0)]) (fun(gj0:Unit) (j0:Int)=>st) (fun gj0 j0 fr1 st1 h hb=>?_) (fun hj0=>?_)
   ·try simp only[go_sem,fx]
    unfold aS at h
    refine R8 hb ?_
    refine cl h (iw n _ _) fun v2 h=>?_
    exact rt
   ·refine cd h (fun hc h=>?_) fun hc h=>?_
    ·refine r0 ?_
     refine hj0 () _ _ _ h ?_;exact(cT hsc)
    ·refine r0 ?_
     refine hj0 () _ _ _ h ?_;exact(cT hsc)
  ·refine cl h (iy _) fun v3 h=>?_
   refine rn ?_
   refine eP (aO n a0 a1) r (fun(gj1:Unit) (j1:Unit)=>[(0,.str a0),(1,.str a1)]) (fun(gj1:Unit) (j1:Unit)=>st) (fun gj1 j1 fr1 st1 h hb=>?_) (fun hj1=>?_)
   ·try simp only[go_sem,fx]
    unfold aO at h
    refine R8 hb ?_
    refine rn ?_
    refine I3 (body:=aP n a0 a1) (kk:=dL) (n:=n) (s0:=0)
     (fun(gs2:Unit) (s2:Nat)=>[(1,.str a1),(45,.it st.length)])
     (fun(gs2:Unit) (s2:Nat)=>st++[some (.sit a0 s2)])
     (fun(gt2:Unit) (t2:Unit)=>[])
     (fun(gt2:Unit) (t2:Unit)=>st)
     () h (bm hsc)
     (fun gs2 s2 b2 h hx2=>?_) (fun gt2 t2 fr1 st1 h hb=>?_)
    ·unfold aP at h
     refine cd h (fun hc h=>?_) fun hc h=>?_
     ·obtain⟨fx,h⟩:=ck fx h
      refine cl h (iw n _ _) fun v7 h=>?_
      refine cd h (fun hc h=>?_) fun hc h=>?_
      ·refine ra ?_
       cases h
       refine aA ?_;have h:=congrArg some (hx2 _ rfl)
       exact rt
      ·refine rn ?_
       cases h
       exact J2 () (bm hsc)
     ·refine rn ?_
      cases h
      exact U0 () (bm0 hsc)
    ·try simp only[go_sem,fx]
     unfold dL at h
     refine R8 hb ?_
     exact rt
   ·refine cd h (fun hc h=>?_) fun hc h=>?_
    ·cases h
    ·refine r0 ?_
     refine hj1 () _ _ _ h ?_;exact(cT hsc)
theorem om(n:Nat)(a0:Bs)(a1:Bs)(r:Int)(h:eC n a0 a1=some r):Pure Tryz.prog gl 105 [.str a0,.str a1] (.int .i64 r):=by
 unfold eC at h
 cases hc:decide (8<a0.length)with
 |true=>
  rw[hc]at h
  obtain⟨hp,h⟩:=Gp h
  cases h
  exact uO a0 a1 hp.1 (of_decide_eq_true hc) hp.2.1 hp.2.2.1 hp.2.2.2
 |false=>
  rw[hc]at h
  exact mW n a0 a1 r h
end Go.Proofs.YtoekkdodipnmpaaGreatDoor
