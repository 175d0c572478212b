import Derived.Test.YtonfgoanbllceaaGreatDoorAWalk3
set_option linter.unusedVariables false
set_option linter.unusedSimpArgs false
set_option maxHeartbeats 2000000
set_option maxRecDepth 100000
namespace Go.Proofs.YtonfgoanbllceaaGreatDoor
open Go Go.Am
theorem sZ:∀(n:Nat) (a0:u0) (a1:u0) (r:Bool) (h:cH n a0 a1=some r),Pure Tryz.prog gl 114 [.agg [.str a0.base,.sl false 2 40 (rows u0.cells a0.args)],.agg [.str a1.base,.sl false 2 40 (rows u0.cells a1.args)]] (.bool r):=by
 intro n
 induction n with
 |zero=>intro a0 a1 r h;cases h
 |succ n ih=>
  intro a0 a1 r h st
  unfold cH at h
  have fx:=trivial
  refine fb 39 [.tmp 4] [0,1,2,3,4,5,12,13,14,15,16,17,18,19,22,23,24,37] Tryz.func114 fun hsc=>?_
  refine cd h (fun hc h=>?_) fun hc h=>?_
  ·exact rt
  ·obtain⟨fx,h⟩:=ck fx h
   refine rn ?_
   refine rng (body:=kr (cH n) a1 a0) (kk:=ku) (n:=a0.args.length) (s0:=())
    (fun(gs0:Unit) (k0:Nat) (s0:Unit)=>[(2,.ptr st.length 0 0 0),(3,.ptr (st.length+1) 0 0 0),(22,.int .i64 (↑a0.args.length:Int)),(23,.int .i64 (↑k0:Int))])
    (fun(gs0:Unit) (k0:Nat) (s0:Unit)=>st++[some (.arr 0 2 0 [[.str a0.base,.sl false 2 40 (rows u0.cells a0.args)]]),some (.arr 0 2 0 [[.str a1.base,.sl false 2 40 (rows u0.cells a1.args)]])])
    (fun(gt0:Unit) (t0:Unit)=>[])
    (fun(gt0:Unit) (t0:Unit)=>st)
    () fx fx.2 h (bm hsc)
    (fun gs0 k0 s0 b0 fx h hx0=>?_) (fun gs0 s0=>?_) (fun gt0 t0 fr1 st1 h hb=>?_)
   ·unfold kr at h
    refine ct ?_
    refine rn ?_
    obtain⟨fx,h⟩:=ck fx h
    refine dw [] 0 ?_
    obtain⟨v3,hv3,h⟩:=E4 h
    refine A9 (ih _ _ _ hv3) ?_
    try simp only[go_sem,fx]
    refine cd h (fun hc h=>?_) fun hc h=>?_
    ·refine ra ?_
     cases h
     refine D4 ?_;have h:=congrArg some (hx0 _ rfl)
     exact rt
    ·refine rn ?_
     cases h
     exact aT () (bm hsc)
   ·refine cf ?_
    refine X5 ?_;simp only[go_sem,fx]
    exact⟨(),(bm0 hsc)⟩
   ·try simp only[go_sem,fx]
    unfold ku at h
    refine K6 hb ?_
    exact rt
theorem yD:∀(n:Nat) (a0:w6) (l0:(List u0)) (r:u0×Bool) (h:aK n a0 l0=some r),∀(st:St) (o0 q0:Nat) (hnd: [o0].Nodup) (oM:Am.look st o0=some (.arr q0 2 40 (rows u0.cells l0))),Am.Spec Tryz.prog gl 102 [.agg [.int .i64 a0.kind,.str a0.name,.int .i64 a0.index,.str a0.type.base,.sl false 2 40 (rows u0.cells a0.type.args),.sl false 6 96 (rows w6.cells a0.args)],.ref false o0 q0 0 l0.length] st (fun d st'=>d= .tup [.agg [.str r.1.base,.sl false 2 40 (rows u0.cells r.1.args)],.bool r.2]∧st'=puts st []):=by
 intro n
 induction n with
 |zero=>intro a0 l0 r h;cases h
 |succ n ih=>
  intro a0 l0 r h st o0 q0 hnd oM
  unfold aK at h
  have ho0:=cE oM
  have fx:=idf ho0
  refine fb 101 [.cell 4 63,.tmp 5] [0,1,2,4,5,6,7,8,9,10,11,12,14,15,19,30,78,79,82,83,84,85,88,89,90,91,92,93,94,95] Tryz.func102 fun hsc=>?_
  refine lZ (s':=(Z4 st [(o0,(.arr q0 2 40 (rows u0.cells l0)))])) (N6 (by simp[oM])) ?_
  refine cd h (fun hc h=>?_) fun hc h=>?_
  ·refine rr ?_
   exact fuo (.tup [.agg [.str a0.type.base,.sl false 2 40 (rows u0.cells a0.type.args)],.bool true]) (.same _) h hsc (hr:=by rintro rfl;exact⟨rfl,N6 (by simp[oM])⟩)
  ·refine cd h (fun hc h=>?_) fun hc h=>?_
   ·obtain⟨fx,h⟩:=ck fx h
    have fy:=(show(rows u0.cells l0).getD ((wr .i64 ((wr .i64 ((↑l0.length:Int)-1))-a0.index)).toNat) []=u0.cells (get l0 ((wr .i64 ((wr .i64 ((↑l0.length:Int)-1))-a0.index)).toNat))from oP (E:=u0.cells) (l:=l0) (k:=(wr .i64 ((wr .i64 ((↑l0.length:Int)-1))-a0.index)).toNat) (by first|omega|(simp;omega)))
    have fy:=fa fy (show(wr .i64 ((wr .i64 ((↑l0.length:Int)-1))-a0.index)).toNat<l0.length from by first|omega|(simp;omega))
    refine r1 ?_
    refine rr ?_
    exact fuo (.tup [.agg [.str ((get l0 ((wr .i64 ((wr .i64 ((↑l0.length:Int)-1))-a0.index)).toNat)).base),.sl false 2 40 (rows u0.cells ((get l0 ((wr .i64 ((wr .i64 ((↑l0.length:Int)-1))-a0.index)).toNat)).args))],.bool true]) (.same _) h hsc (hr:=by rintro rfl;exact⟨rfl,N6 (by simp[oM])⟩)
   ·refine cd h (fun hc h=>?_) fun hc h=>?_
    ·refine rs ?_
     obtain⟨fx,h⟩:=ck fx h
     obtain⟨c8,hc8,h⟩:=mO h
     have fy:=(show rows u0.cells l0++[[.str a0.type.base,.sl false 2 40 (rows u0.cells a0.type.args)]]=rows u0.cells c8 from by rw[hc8];first|exact N9 (E:=u0.cells) l0 [a0.type]|simp only[go_sem,rows,List.map_append,List.map_cons,List.map_nil])
     have fy:=fa fy (show l0.length+1=c8.length from by rw[hc8];simp)
     obtain⟨fx,h⟩:=ck fx h
     refine dwy [] 2 ?_
     obtain⟨fx,h⟩:=ck fx h
     refine rn ?_
     obtain⟨v14,hv14,h⟩:=E4 h
     refine(ih _ _ _ hv14 _ _ 0 (by simp) (br.trans rfl)).mono ?_
     rintro d1 st1 ⟨rfl,rfl⟩
     refine rr ?_
     exact fuo (.tup [.agg [.str [],.sl false 2 40 (rows u0.cells [a0.type,v14.1])],.bool v14.2]) (.tup _ _ (.cons _ _ _ _ (.agg _ _ (.cons _ _ _ _ .s (.cons _ _ _ _ (.ref _ _ _ _ _ _ _ _ _ (Bu.trans rfl) Bw (by decide) (by simp[Imm,D.imm]) (by simp only[go_sem,rows,List.map_cons,List.map_nil])) .nil))) (.cons _ _ _ _ .s .nil)) rfl) h hsc (hr:=by rintro rfl;exact⟨rfl,N6 (by simp[oM])⟩)
    ·obtain⟨fx,h⟩:=ck fx h
     refine rn ?_
     obtain⟨v17,hv17,h⟩:=E4 h
     refine(ih _ _ _ hv17 _ _ q0 hnd (by simp only[go_sem,fx])).mono ?_
     rintro d1 st1 ⟨rfl,rfl⟩
     obtain⟨fx,h⟩:=ck fx h
     refine rn ?_
     obtain⟨v19,hv19,h⟩:=E4 h
     refine(ih _ _ _ hv19 _ _ q0 hnd (by simp only[go_sem,fx])).mono ?_
     rintro d1 st1 ⟨rfl,rfl⟩
     refine rn ?_
     obtain⟨fx,h⟩:=ck fx h
     refine dw [] 0 ?_
     obtain⟨v22,hv22,h⟩:=E4 h
     refine bB (fun hG=>(sZ n _ _ _ (kh hv22 (by simpa using hG)))) ?_
     try simp only[go_sem,fx]
     refine cd h (fun hc h=>?_) fun hc h=>?_
     ·refine rr ?_
      exact fuo (.tup [.agg [.str [],.sl false 2 40 (rows u0.cells [])],.bool false]) (.tup _ _ (.cons _ _ _ _ (.agg _ _ (.cons _ _ _ _ .s (.cons _ _ _ _ (.B3 _ _ _ (by decide)) .nil))) (.cons _ _ _ _ .s .nil)) rfl) h hsc (hr:=by rintro rfl;exact⟨rfl,N6 (by simp[oM])⟩)
     ·obtain⟨fx,h⟩:=ck fx h
      refine rr ?_
      exact fuo (.tup [.agg [.str ((get v17.1.args 1).base),.sl false 2 40 (rows u0.cells ((get v17.1.args 1).args))],.bool true]) (.same _) h hsc (hr:=by rintro rfl;exact⟨rfl,N6 (by simp[oM])⟩)
theorem CV:∀(n:Nat) (a0:w6) (a1:(List u0)) (r:u0×Bool) (h:gD n a0 a1=some r),Pure Tryz.prog gl 102 [.agg [.int .i64 a0.kind,.str a0.name,.int .i64 a0.index,.str a0.type.base,.sl false 2 40 (rows u0.cells a0.type.args),.sl false 6 96 (rows w6.cells a0.args)],.sl false 2 40 (rows u0.cells a1)] (.tup [.agg [.str r.1.base,.sl false 2 40 (rows u0.cells r.1.args)],.bool r.2]):=by
 intro n
 induction n with
 |zero=>intro a0 a1 r h;cases h
 |succ n ih=>
  intro a0 a1 r h st
  unfold gD at h
  have fx:=trivial
  refine fb 101 [.cell 4 63,.tmp 5] [0,1,2,4,5,6,7,8,9,10,11,12,14,15,19,30,78,79,82,83,84,85,88,89,90,91,92,93,94,95] Tryz.func102 fun hsc=>?_
  refine cd h (fun hc h=>?_) fun hc h=>?_
  ·exact rt
  ·refine cd h (fun hc h=>?_) fun hc h=>?_
   ·obtain⟨fx,h⟩:=ck fx h
    exact rt
   ·refine cd h (fun hc h=>?_) fun hc h=>?_
    ·refine rs ?_
     obtain⟨fx,h⟩:=ck fx h
     obtain⟨c6,hc6,h⟩:=mO h
     have fy:=(show rows u0.cells a1++[[.str a0.type.base,.sl false 2 40 (rows u0.cells a0.type.args)]]=rows u0.cells c6 from by rw[hc6];first|exact N9 (E:=u0.cells) a1 [a0.type]|simp only[go_sem,rows,List.map_append,List.map_cons,List.map_nil])
     have fy:=fa fy (show a1.length+1=c6.length from by rw[hc6];simp)
     obtain⟨fx,h⟩:=ck fx h
     refine dwy [] 2 ?_
     obtain⟨fx,h⟩:=ck fx h
     refine rn ?_
     obtain⟨v12,hv12,h⟩:=E4 h
     refine(yD n _ _ _ hv12 _ _ 0 (by simp) (cV.trans rfl)).mono ?_
     rintro d1 st1 ⟨rfl,rfl⟩
     refine rr ?_
     exact fo (.tup [.agg [.str [],.sl false 2 40 (rows u0.cells [a0.type,v12.1])],.bool v12.2]) (.tup _ _ (.cons _ _ _ _ (.agg _ _ (.cons _ _ _ _ .s (.cons _ _ _ _ (.ref _ _ _ _ _ _ _ _ _ (iC.trans rfl) uX (by decide) (by simp[Imm,D.imm]) (by simp only[go_sem,rows,List.map_cons,List.map_nil])) .nil))) (.cons _ _ _ _ .s .nil)) rfl) h hsc
    ·obtain⟨fx,h⟩:=ck fx h
     refine cl h (ih _ _) fun v15 h=>?_
     obtain⟨fx,h⟩:=ck fx h
     refine cl h (ih _ _) fun v17 h=>?_
     refine rn ?_
     obtain⟨fx,h⟩:=ck fx h
     refine dw [] 0 ?_
     obtain⟨v20,hv20,h⟩:=E4 h
     refine bB (fun hG=>(sZ n _ _ _ (kh hv20 (by simpa using hG)))) ?_
     try simp only[go_sem,fx]
     refine cd h (fun hc h=>?_) fun hc h=>?_
     ·refine rr ?_
      exact fo (.tup [.agg [.str [],.sl false 2 40 (rows u0.cells [])],.bool false]) (.tup _ _ (.cons _ _ _ _ (.agg _ _ (.cons _ _ _ _ .s (.cons _ _ _ _ (.B3 _ _ _ (by decide)) .nil))) (.cons _ _ _ _ .s .nil)) rfl) h hsc
     ·obtain⟨fx,h⟩:=ck fx h
      exact rt
theorem pY(n:Nat)(a0:w6)(r:x6)(h:fu n a0=some r):Pure Tryz.prog gl 78 [.agg [.int .i64 a0.kind,.str a0.name,.int .i64 a0.index,.str a0.type.base,.sl false 2 40 (rows u0.cells a0.type.args),.sl false 6 96 (rows w6.cells a0.args)]] (.agg [.int .i64 r.code,.int .i64 r.index]):=by
 intro st
 unfold fu at h
 have fx:=trivial
 refine fb 25 [.cell 2 41] [0,1,2,3,4,5,7,14,22] Tryz.func78 fun hsc=>?_
 refine rn ?_
 obtain⟨v1,hv1,h⟩:=E4 h
 refine(vr n _ _ _ _ _ hv1 _ _ _ (by simp) (cV.trans rfl) (cV.trans rfl)).mono ?_
 rintro d1 st1 ⟨rfl,rfl⟩
 refine cd h (fun hc h=>?_) fun hc h=>?_
 ·exact rt
 ·refine cl h (up (CV n _ _) (fun _=>(.cons _ _ _ _ .s (.cons _ _ _ _ (.B3 _ _ _ (by decide)) .nil)))) fun v2 h=>?_
  refine cd h (fun hc h=>?_) fun hc h=>?_
  ·exact rt
  ·exact rt
theorem yE(n:Nat)(a0:w5)(a1:B6)(a2:w4)(r:Int)(h:ld n a0 a1 a2=some r):Pure Tryz.prog gl 51 [.agg [.sl false 2 40 (rows w8.cells a0.types),.sl false 3 32 (rows y3.cells a0.B1)],.agg [.sl false 1 8 (rows bP a1.up),.sl false 1 8 (rows bP a1.down)],.agg [.str a2.name,.sl false 2 32 (rows x5.cells a2.graph.nodes),.int .i64 a2.kids,.int .i64 a2.weight,.int .i64 a2.meaning.kind,.str a2.meaning.name,.int .i64 a2.meaning.index,.str a2.meaning.type.base,.sl false 2 40 (rows u0.cells a2.meaning.type.args),.sl false 6 96 (rows w6.cells a2.meaning.args)]] (.int .i64 r):=by
 intro st
 unfold ld at h
 have fx:=trivial
 refine fb 46 [.tmp 6] [0,1,2,3,4,5,6,7,12,13,14,17,18,19,22,23,24,25,33,41] Tryz.func51 fun hsc=>?_
 refine cd h (fun hc h=>?_) fun hc h=>?_
 ·exact rt
 ·refine cl h (mR n _ _ _) fun v1 h=>?_
  refine cd h (fun hc h=>?_) fun hc h=>?_
  ·exact rt
  ·refine cl h (vo n _ _) fun v2 h=>?_
   refine cd h (fun hc h=>?_) fun hc h=>?_
   ·exact rt
   ·refine cl h (pY n _) fun v3 h=>?_
    exact rt
theorem jr(n:Nat)(a0:Bs)(r:Int)(h:M6 n a0=some r):Pure Tryz.prog gl 103 [.str a0] (.int .i64 r):=by
 intro st
 unfold M6 at h
 have fx:=trivial
 refine fb 10 [.tmp 2] [0,2,4,6] Tryz.func103 fun hsc=>?_
 refine rn ?_
 refine H9 (body:=O1 a0) (kk:=W1) (n:=n) (s0:=(0,0))
  (fun(gs0:Unit) (s0:Nat×Int)=>[(2,.int .i64 s0.2),(4,.it st.length)])
  (fun(gs0:Unit) (s0:Nat×Int)=>st++[some (.sit a0 s0.1)])
  (fun(gt0:Unit) (t0:Int)=>[(2,.int .i64 t0)])
  (fun(gt0:Unit) (t0:Int)=>st)
  () h (bm hsc)
  (fun gs0 s0 b0 h hx0=>?_) (fun gt0 t0 fr1 st1 h hb=>?_)
 ·unfold O1 at h
  refine cd h (fun hc h=>?_) fun hc h=>?_
  ·refine rn ?_
   cases h
   exact I6 () (bm hsc)
  ·refine rn ?_
   cases h
   exact T2 () (bm0 hsc)
 ·try simp only[go_sem,fx]
  unfold W1 at h
  refine K6 hb ?_
  exact rt
theorem K4(a0:Bs)(r:Int)(h:F2 a0=some r):Pure Tryz.prog gl 115 [.str a0] (.int .u64 r):=by
 intro st
 unfold F2 at h
 have fx:=trivial
 refine fb 59 [.tmp 2] [0,2] Tryz.func115 fun hsc=>?_
 refine cd h (fun hc h=>?_) fun hc h=>?_
 ·refine rs ?_
  obtain⟨fx,h⟩:=ck fx h
  obtain⟨fx,h⟩:=ck fx h
  obtain⟨fx,h⟩:=ck fx h
  obtain⟨fx,h⟩:=ck fx h
  refine dw [] 0 ?_
  exact rt
 ·refine rn ?_
  obtain⟨fx,h⟩:=ck fx h
  obtain⟨fx,h⟩:=ck fx h
  obtain⟨fx,h⟩:=ck fx h
  obtain⟨fx,h⟩:=ck fx h
  obtain⟨fx,h⟩:=ck fx h
  obtain⟨fx,h⟩:=ck fx h
  obtain⟨fx,h⟩:=ck fx h
  obtain⟨fx,h⟩:=ck fx h
  refine dw [] 0 ?_
  exact rt
theorem mS(n:Nat)(a0:Bs)(r:Bool)(h:V8 n a0=some r):Pure Tryz.prog gl 104 [.str a0] (.bool r):=by
 intro st
 unfold V8 at h
 have fx:=trivial
 refine fb 169 [.tmp 2] [0,2,3,4,5,6,9,13,20,21,22,23,24,31,32,33,34,35,36,37,38,39,46,47,48,49,50,51,52,53,54,55,56,57,58,59,60,61,62,75,76,82,83,84,85,86,89,90,91,92,93,94,97,103,104,105,106,107,110,111,112,113,114,117,118,119,122,123,124,125,128,134,135,136,137,138,141,142,143,144,145,148,149,150,153,154,155,158,159,160,163,164,165,166] Tryz.func104 fun hsc=>?_
 refine rn ?_
 refine H9 (body:=P8 n) (kk:=bT) (n:=n) (s0:=a0)
  (fun(gs0:Unit) (s0:Bs)=>[(0,.str s0)])
  (fun(gs0:Unit) (s0:Bs)=>st)
  (fun(gt0:Unit) (t0:Unit)=>[])
  (fun(gt0:Unit) (t0:Unit)=>st)
  () h (bW hsc)
  (fun gs0 s0 b0 h hx0=>?_) (fun gt0 t0 fr1 st1 h hb=>?_)
 ·unfold P8 at h
  refine cd h (fun hc h=>?_) fun hc h=>?_
  ·obtain⟨fx,h⟩:=ck fx h
   refine cd h (fun hc h=>?_) fun hc h=>?_
   ·obtain⟨fx,h⟩:=ck fx h
    refine rn ?_
    obtain⟨v78,hv78,h⟩:=E4 h
    refine P4 (fun hG=>(K4 _ _ (kh hv78 (by simpa using hG)))) ?_
    refine rn ?_
    refine nk (L7) b0 (fun(gj3:Unit) (j3:Bs)=>[(0,.str j3)]) (fun(gj3:Unit) (j3:Bs)=>st) (fun gj3 j3 fr1 st1 h hb=>?_) (fun hj3=>?_)
    ·try simp only[go_sem,fx]
     unfold L7 at h
     refine K6 hb ?_
     refine rn ?_
     cases h
     exact I6 () (bW hsc)
    ·refine cd h (fun hc h=>?_) fun hc h=>?_
     ·obtain⟨fx,h⟩:=ck fx h
      refine rn ?_
      refine dw [] 0 ?_
      obtain⟨v81,hv81,h⟩:=E4 h
      refine bB (fun hG=>(K4 _ _ (kh hv81 (by simpa using hG)))) ?_
      obtain⟨fx,h⟩:=ck fx h
      try simp only[go_sem,fx]
      obtain⟨v84,hv84,h⟩:=E4 h
      refine bB (fun hG=>(K4 _ _ (kh hv84 (by simpa using hG)))) ?_
      try simp only[go_sem,fx]
      refine cd h (fun hc h=>?_) fun hc h=>?_
      ·obtain⟨fx,h⟩:=ck fx h
       refine rn ?_
       refine H9 (body:=P7) (kk:=W2) (n:=n) (s0:=(((s0.drop 1).drop 8).drop 16))
        (fun(gs4:Unit) (s4:Bs)=>[(0,.str s4)])
        (fun(gs4:Unit) (s4:Bs)=>st)
        (fun(gt4:Unit) (t4:Bs)=>[(0,.str t4)])
        (fun(gt4:Unit) (t4:Bs)=>st)
        () h (bW hsc)
        (fun gs4 s4 b4 h hx4=>?_) (fun gt4 t4 fr1 st1 h hb=>?_)
       ·unfold P7 at h
        refine rs ?_
        refine dw [] 0 ?_
        obtain⟨v100,hv100,h⟩:=E4 h
        refine bB (fun hG=>(K4 _ _ (kh hv100 (by simpa using hG)))) ?_
        obtain⟨fx,h⟩:=ck fx h
        try simp only[go_sem,fx]
        obtain⟨v103,hv103,h⟩:=E4 h
        refine bB (fun hG=>(K4 _ _ (kh hv103 (by simpa using hG)))) ?_
        obtain⟨fx,h⟩:=ck fx h
        try simp only[go_sem,fx]
        obtain⟨v106,hv106,h⟩:=E4 h
        refine bB (fun hG=>(K4 _ _ (kh hv106 (by simpa using hG)))) ?_
        obtain⟨fx,h⟩:=ck fx h
        try simp only[go_sem,fx]
        obtain⟨v110,hv110,h⟩:=E4 h
        refine bB (fun hG=>(K4 _ _ (kh hv110 (by simpa using hG)))) ?_
        try simp only[go_sem,fx]
        refine cd h (fun hc h=>?_) fun hc h=>?_
        ·obtain⟨fx,h⟩:=ck fx h
         refine rn ?_
         cases h
         exact I6 () (bW hsc)
        ·refine rn ?_
         cases h
         exact T2 () (bW hsc)
       ·try simp only[go_sem,fx]
        unfold W2 at h
        refine hj3 () _ _ _ h ?_;exact(hb.trans (bW hsc))
      ·refine r0 ?_
       refine hj3 () _ _ _ h ?_;exact(bW hsc)
     ·refine r0 ?_
      refine hj3 () _ _ _ h ?_;exact(bW hsc)
   ·refine r0 ?_
    obtain⟨fx,h⟩:=ck fx h
    have fy:=(show Am.rowAt (gA u8c nu) ((B2 s0 0).toNat) 1=u8c (get nu ((B2 s0 0).toNat))from wL (fun _=>rfl) (show _<nu.length by rw[KI];first|omega|(simp;omega)))
    refine r1 ?_
    refine r0 ?_
    obtain⟨fx,h⟩:=ck fx h
    have fy:=(show Am.rowAt (gA C4.cells rj) ((Int.fdiv (get nu ((B2 s0 0).toNat)) (2^(min 4 8))).toNat) 2=C4.cells (get rj ((Int.fdiv (get nu ((B2 s0 0).toNat)) (2^(min 4 8))).toNat))from wL (fun _=>rfl) (show _<rj.length by rw[EY];first|omega|(simp;omega)))
    refine r1 ?_
    refine cd h (fun hc h=>?_) fun hc h=>?_
    ·refine rs ?_
     obtain⟨fx,h⟩:=ck fx h
     obtain⟨fx,h⟩:=ck fx h
     refine dw [] 0 ?_
     refine cd h (fun hc h=>?_) fun hc h=>?_
     ·refine ra ?_
      cases h
      refine ep ?_;have h:=congrArg some (hx0 _ rfl)
      exact rt
     ·obtain⟨fx,h⟩:=ck fx h
      refine rn ?_
      cases h
      exact I6 () (bm0 hsc)
    ·refine cd h (fun hc h=>?_) fun hc h=>?_
     ·refine rs ?_
      obtain⟨fx,h⟩:=ck fx h
      obtain⟨fx,h⟩:=ck fx h
      obtain⟨fx,h⟩:=ck fx h
      obtain⟨fx,h⟩:=ck fx h
      refine dw [] 0 ?_
      refine cd h (fun hc h=>?_) fun hc h=>?_
      ·refine ra ?_
       cases h
       refine ep ?_;have h:=congrArg some (hx0 _ rfl)
       exact rt
      ·obtain⟨fx,h⟩:=ck fx h
       refine rn ?_
       cases h
       exact I6 () (bm0 hsc)
     ·refine cd h (fun hc h=>?_) fun hc h=>?_
      ·refine rs ?_
       obtain⟨fx,h⟩:=ck fx h
       obtain⟨fx,h⟩:=ck fx h
       obtain⟨fx,h⟩:=ck fx h
       obtain⟨fx,h⟩:=ck fx h
       obtain⟨fx,h⟩:=ck fx h
       obtain⟨fx,h⟩:=ck fx h
       refine dw [] 0 ?_
       refine cd h (fun hc h=>?_) fun hc h=>?_
       ·refine ra ?_
        cases h
        refine ep ?_;have h:=congrArg some (hx0 _ rfl)
        exact rt
       ·obtain⟨fx,h⟩:=ck fx h
        refine rn ?_
        cases h
        exact I6 () (bm0 hsc)
      ·refine ra ?_
       cases h
       refine ep ?_;have h:=congrArg some (hx0 _ rfl)
       exact rt
  ·refine rn ?_
   cases h
   exact T2 () (bW hsc)
 ·try simp only[go_sem,fx]
  unfold bT at h
  refine K6 hb ?_
  exact rt
theorem lM(a0:Bs)(a1:Int)(r:Int)(h:dR a0 a1=some r):Pure Tryz.prog gl 130 [.str a0,.int .u8 a1] (.int .i64 r):=by
 intro st
 unfold dR at h
 have fx:=trivial
 refine fb 8 [.tmp 4] [0,1,4] Tryz.func130 fun hsc=>?_
 refine cl h (BK _ _) fun v1 h=>?_
 exact rt
theorem oC(a0:Int)(r:Bool)(h:cw a0=some r):Pure Tryz.prog gl 131 [.int .i32 a0] (.bool r):=by
 intro st
 unfold cw at h
 have fx:=trivial
 refine fb 17 [.tmp 2] [0,2,3,7,8,10,14,15] Tryz.func131 fun hsc=>?_
 refine cd h (fun hc h=>?_) fun hc h=>?_
 ·exact rt
 ·refine cd h (fun hc h=>?_) fun hc h=>?_
  ·exact rt
  ·exact rt
theorem lN(n:Nat)(a0:Bs)(a1:Int)(r:Int)(h:bw n a0 a1=some r):Pure Tryz.prog gl 122 [.str a0,.int .i32 a1] (.int .i64 r):=by
 intro st
 unfold bw at h
 have fx:=trivial
 refine fb 187 [.tmp 4] [0,1,4,5,6,7,8,9,10,11,12,13,14,15,16,26,33,43,51,64,73,74,75,76,79,80,81,82,85,86,87,88,89,90,91,92,93,94,95,96,97,98,108,124,133,134,135,136,137,138,139,143,156,160,164,165,171,175,176,177,181,183] Tryz.func122 fun hsc=>?_
 refine cd h (fun hc h=>?_) fun hc h=>?_
 ·refine cl h (lM _ _) fun v1 h=>?_
  exact rt
 ·refine cd h (fun hc h=>?_) fun hc h=>?_
  ·refine rn ?_
   refine H9 (body:=dy a0) (kk:=gT) (n:=n) (s0:=0)
    (fun(gs0:Unit) (s0:Nat)=>[(175,.it st.length)])
    (fun(gs0:Unit) (s0:Nat)=>st++[some (.sit a0 s0)])
    (fun(gt0:Unit) (t0:Unit)=>[])
    (fun(gt0:Unit) (t0:Unit)=>st)
    () h (bm hsc)
    (fun gs0 s0 b0 h hx0=>?_) (fun gt0 t0 fr1 st1 h hb=>?_)
   ·unfold dy at h
    refine cd h (fun hc h=>?_) fun hc h=>?_
    ·obtain⟨fx,h⟩:=ck fx h
     refine cd h (fun hc h=>?_) fun hc h=>?_
     ·refine ra ?_
      cases h
      refine ep ?_;have h:=congrArg some (hx0 _ rfl)
      exact rt
     ·refine rn ?_
      cases h
      exact I6 () (bm hsc)
    ·refine rn ?_
     cases h
     exact T2 () (bm0 hsc)
   ·try simp only[go_sem,fx]
    unfold gT at h
    refine K6 hb ?_
    exact rt
  ·refine cl h (oC _) fun v4 h=>?_
   refine cd h (fun hc h=>?_) fun hc h=>?_
   ·exact rt
   ·refine rn ?_
    refine H9 (body:=aL n a1 a0) (kk:=gW) (n:=n) (s0:=())
     (fun(gs1:Unit) (s1:Unit)=>[(0,.str a0),(7,.str (L0 a1)),(8,.int .i64 (wr .i64 ((↑((L0 a1).length):Int)-1))),(9,.int .i64 (wr .i64 ((↑((L0 a1).length):Int)-1)))])
     (fun(gs1:Unit) (s1:Unit)=>st)
     (fun(gt1:Unit) (t1:Unit)=>[])
     (fun(gt1:Unit) (t1:Unit)=>st)
     () h (bW hsc)
     (fun gs1 s1 b1 h hx1=>?_) (fun gt1 t1 fr1 st1 h hb=>?_)
    ·unfold aL at h
     refine cd h (fun hc h=>?_) fun hc h=>?_
     ·refine rn ?_
      obtain⟨fx,h⟩:=ck fx h
      obtain⟨fx,h⟩:=ck fx h
      refine dw [] 0 ?_
      (repeat apply sq_)
      refine nk (dJ n a1 a0) b1 (fun(gj2:Unit) (j2:Int)=>[(0,.str a0),(7,.str (L0 a1)),(8,.int .i64 (wr .i64 ((↑((L0 a1).length):Int)-1))),(9,.int .i64 j2)]) (fun(gj2:Unit) (j2:Int)=>st) (fun gj2 j2 fr1 st1 h hb=>?_) (fun hj2=>?_)
      ·try simp only[go_sem,fx]
       unfold dJ at h
       refine K6 hb ?_
       refine rn ?_
       refine H9 (body:=gU a1 j2 a0) (kk:=gV j2 a1) (n:=n) (s0:=1)
        (fun(gs3:Unit) (s3:Int)=>[(0,.str a0),(7,.str (L0 a1)),(8,.int .i64 (wr .i64 ((↑((L0 a1).length):Int)-1))),(9,.int .i64 j2),(12,.int .i64 s3)])
        (fun(gs3:Unit) (s3:Int)=>st)
        (fun(gt3:Unit) (t3:Unit)=>[(8,.int .i64 (wr .i64 ((↑((L0 a1).length):Int)-1))),(9,.int .i64 j2)])
        (fun(gt3:Unit) (t3:Unit)=>st)
        () h (bW hsc)
        (fun gs3 s3 b3 h hx3=>?_) (fun gt3 t3 fr1 st1 h hb=>?_)
       ·unfold gU at h
        refine cd h (fun hc h=>?_) fun hc h=>?_
        ·refine rn ?_
         obtain⟨fx,h⟩:=ck fx h
         obtain⟨fx,h⟩:=ck fx h
         refine dw [] 0 ?_
         refine cd h (fun hc h=>?_) fun hc h=>?_
         ·cases h
         ·refine rn ?_
          cases h
          exact I6 () (bW hsc)
        ·refine rn ?_
         cases h
         exact T2 () (bW hsc)
       ·try simp only[go_sem,fx]
        unfold gV at h
        refine K6 hb ?_
        refine ra ?_
        cases h
        refine ep ?_;have h:=congrArg some (hx1 _ rfl)
        exact rt
      ·refine cd h (fun hc h=>?_) fun hc h=>?_
       ·refine rs ?_
        obtain⟨fx,h⟩:=ck fx h
        refine dw [] 0 ?_
        obtain⟨v10,hv10,h⟩:=E4 h
        refine A9 (lM _ _ _ hv10) ?_
        try simp only[go_sem,fx]
        refine cd h (fun hc h=>?_) fun hc h=>?_
        ·refine ra ?_
         cases h
         refine ep ?_;have h:=congrArg some (hx1 _ rfl)
         exact rt
        ·refine r0 ?_
         refine r0 ?_
         refine hj2 () _ _ _ h ?_;exact(bW hsc)
       ·refine r0 ?_
        refine hj2 () _ _ _ h ?_;exact(bW hsc)
     ·refine rn ?_
      cases h
      exact T2 () (bW hsc)
    ·try simp only[go_sem,fx]
     unfold gW at h
     refine K6 hb ?_
     exact rt
end Go.Proofs.YtonfgoanbllceaaGreatDoor
