import Derived.Test.YtbgkcolebacbmaaGreatDoorDWalk8
set_option linter.unusedVariables false
set_option linter.unusedSimpArgs false
set_option maxHeartbeats 2000000
set_option maxRecDepth 100000
namespace Go.Proofs.YtbgkcolebacbmaaGreatDoor
open Go Go.Am
theorem jt(a0:Int)(a1:Int)(r:w9)(h:hJ a0 a1=some r):Pure Tryz.prog gl 17 [.int .i64 a0,.int .i64 a1] (.agg [.int .i64 r.code,.int .i64 r.index]):=by
 intro st
 unfold hJ at h
 have fx:=trivial
 refine fb 8 [.cell 4 41] [0,1,4] Tryz.func17 fun hsc=>?_
 exact rt
theorem sv(a0:Int)(a1:Int)(a2:Int)(r:Bool)(h:gJ a0 a1 a2=some r):Pure Tryz.prog gl 49 [.int .i64 a0,.int .i64 a1,.int .i64 a2] (.bool r):=by
 intro st
 unfold gJ at h
 have fx:=trivial
 refine fb 25 [.tmp 6] [0,1,2,6,10,11,14,15,18,19,22,23] Tryz.func49 fun hsc=>?_
 exact rt
theorem tS(a0:y8)(r:w9)(h:gZ a0=some r):Pure Tryz.prog gl 13 [.agg [.sl false 2 48 (rows w5.cells a0.hierarchy),.sl false 1 24 (rows y4.cells a0.start),.sl false 3 40 (rows y7.cells a0.rules),.sl false 3 40 (rows A9.cells a0.y9)]] (.agg [.int .i64 r.code,.int .i64 r.index]):=by
 intro st
 unfold gZ at h
 have fx:=trivial
 refine fb 76 [.cell 2 41] [0,1,2,3,4,5,6,7,13,14,15,16,19,20,21,22,25,26,27,28,29,32,33,34,35,47,52,53,54,55,67] Tryz.func13 fun hsc=>?_
 refine cd h (fun hc h=>?_) fun hc h=>?_
 ·refine cl h (jt _ _) fun v1 h=>?_
  exact rt
 ·refine aln 32 fun hl0=>?_
  refine rng (body:=gK a0) (kk:=gL a0) (n:=a0.rules.length) (s0:=())
   (fun(gs0:Unit) (k0:Nat) (s0:Unit)=>[(1,.ptr st.length 0 0 0),(2,.ptr (st.length+1) 0 0 0),(3,.fn 49 [] []),(32,.sl false 3 40 (rows y7.cells a0.rules)),(33,.int .i64 (↑a0.rules.length:Int)),(34,.int .i64 (↑k0:Int))])
   (fun(gs0:Unit) (k0:Nat) (s0:Unit)=>st++[some (.arr 0 4 0 [[.sl false 2 48 (rows w5.cells a0.hierarchy),.sl false 1 24 (rows y4.cells a0.start),.sl false 3 40 (rows y7.cells a0.rules),.sl false 3 40 (rows A9.cells a0.y9)]]),some (.arr 0 2 0 [[.int .i64 0,.int .i64 0]])])
   (fun(gt0:Unit) (t0:Unit)=>[(1,.ptr st.length 0 0 0),(2,.ptr (st.length+1) 0 0 0),(3,.fn 49 [] [])])
   (fun(gt0:Unit) (t0:Unit)=>st++[some (.arr 0 4 0 [[.sl false 2 48 (rows w5.cells a0.hierarchy),.sl false 1 24 (rows y4.cells a0.start),.sl false 3 40 (rows y7.cells a0.rules),.sl false 3 40 (rows A9.cells a0.y9)]]),some (.arr 0 2 0 [[.int .i64 0,.int .i64 0]])])
   () fx hl0 h (bm hsc)
   (fun gs0 k0 s0 b0 fx h hx0=>?_) (fun gs0 s0=>?_) (fun gt0 t0 fr1 st1 h hb=>?_)
  ·unfold gK at h
   refine ct ?_
   refine cl h (sv _ _ _) fun v2 h=>?_
   refine cd h (fun hc h=>?_) fun hc h=>?_
   ·refine cl h (jt _ _) fun v3 h=>?_
    refine ra ?_
    cases h
    refine D6 ?_;have h:=congrArg some (hx0 _ rfl)
    exact rt
   ·refine rn ?_
    cases h
    exact aX () (bm hsc)
  ·refine cf ?_
   refine Z6 ?_;simp only[go_sem,fx]
   exact⟨(),(bm hsc)⟩
  ·try simp only[go_sem,fx]
   unfold gL at h
   refine K1 hb ?_
   refine aln 52 fun hl1=>?_
   refine rng (body:=jo a0) (kk:=oW) (n:=a0.y9.length) (s0:=())
    (fun(gs1:Unit) (k1:Nat) (s1:Unit)=>[(1,.ptr st.length 0 0 0),(2,.ptr (st.length+1) 0 0 0),(3,.fn 49 [] []),(52,.sl false 3 40 (rows A9.cells a0.y9)),(53,.int .i64 (↑a0.y9.length:Int)),(54,.int .i64 (↑k1:Int))])
    (fun(gs1:Unit) (k1:Nat) (s1:Unit)=>st++[some (.arr 0 4 0 [[.sl false 2 48 (rows w5.cells a0.hierarchy),.sl false 1 24 (rows y4.cells a0.start),.sl false 3 40 (rows y7.cells a0.rules),.sl false 3 40 (rows A9.cells a0.y9)]]),some (.arr 0 2 0 [[.int .i64 0,.int .i64 0]])])
    (fun(gt1:Unit) (t1:Unit)=>[(2,.ptr (st.length+1) 0 0 0)])
    (fun(gt1:Unit) (t1:Unit)=>st++[none,some (.arr 0 2 0 [[.int .i64 0,.int .i64 0]])])
    () fx hl1 h (bm hsc)
    (fun gs1 k1 s1 b1 fx h hx1=>?_) (fun gs1 s1=>?_) (fun gt1 t1 fr1 st1 h hb=>?_)
   ·unfold jo at h
    refine ct ?_
    refine cl h (sv _ _ _) fun v4 h=>?_
    refine cd h (fun hc h=>?_) fun hc h=>?_
    ·refine cl h (jt _ _) fun v5 h=>?_
     refine ra ?_
     cases h
     refine D6 ?_;have h:=congrArg some (hx1 _ rfl)
     exact rt
    ·refine rn ?_
     cases h
     exact aX () (bm hsc)
   ·refine cf ?_
    refine Z6 ?_;simp only[go_sem,fx]
    exact⟨(),(bm hsc)⟩
   ·try simp only[go_sem,fx]
    unfold oW at h
    refine K1 hb ?_
    exact rt
theorem wE(a0:y8)(r:Int×w9)(h:nN a0=some r):Pure Tryz.prog gl 5 [.agg [.sl false 2 48 (rows w5.cells a0.hierarchy),.sl false 1 24 (rows y4.cells a0.start),.sl false 3 40 (rows y7.cells a0.rules),.sl false 3 40 (rows A9.cells a0.y9)]] (.tup [.int .i64 r.1,.agg [.int .i64 r.2.code,.int .i64 r.2.index]]):=by
 intro st
 unfold nN at h
 have fx:=trivial
 refine fb 57 [.tmp 2,.cell 3 41] [0,1,2,3,4,5,7,9,14,24,25,26,27,40,41,42,43] Tryz.func5 fun hsc=>?_
 refine cl h (tS _) fun v1 h=>?_
 refine cd h (fun hc h=>?_) fun hc h=>?_
 ·refine rs ?_
  refine dw [] 0 ?_
  exact rt
 ·refine aln 24 fun hl0=>?_
  refine rng (body:=nO a0) (kk:=nP a0) (n:=a0.rules.length) (s0:=(wr .i64 ((↑a0.hierarchy.length:Int)+(↑a0.start.length:Int))))
   (fun(gs0:Unit) (k0:Nat) (s0:Int)=>[(1,.ptr st.length 0 0 0),(3,.ptr (st.length+1) 0 0 0),(5,.int .i64 s0),(24,.sl false 3 40 (rows y7.cells a0.rules)),(25,.int .i64 (↑a0.rules.length:Int)),(26,.int .i64 (↑k0:Int))])
   (fun(gs0:Unit) (k0:Nat) (s0:Int)=>st++[some (.arr 0 4 0 [[.sl false 2 48 (rows w5.cells a0.hierarchy),.sl false 1 24 (rows y4.cells a0.start),.sl false 3 40 (rows y7.cells a0.rules),.sl false 3 40 (rows A9.cells a0.y9)]]),some (.arr 0 2 0 [[.int .i64 0,.int .i64 0]])])
   (fun(gt0:Unit) (t0:Int)=>[(1,.ptr st.length 0 0 0),(3,.ptr (st.length+1) 0 0 0),(5,.int .i64 t0)])
   (fun(gt0:Unit) (t0:Int)=>st++[some (.arr 0 4 0 [[.sl false 2 48 (rows w5.cells a0.hierarchy),.sl false 1 24 (rows y4.cells a0.start),.sl false 3 40 (rows y7.cells a0.rules),.sl false 3 40 (rows A9.cells a0.y9)]]),some (.arr 0 2 0 [[.int .i64 0,.int .i64 0]])])
   () fx hl0 h (bm hsc)
   (fun gs0 k0 s0 b0 fx h hx0=>?_) (fun gs0 s0=>?_) (fun gt0 t0 fr1 st1 h hb=>?_)
  ·unfold nO at h
   refine ct ?_
   refine rn ?_
   cases h
   exact aX () (bm hsc)
  ·refine cf ?_
   refine Z6 ?_;simp only[go_sem,fx]
   exact⟨(),(bm hsc)⟩
  ·try simp only[go_sem,fx]
   unfold nP at h
   refine K1 hb ?_
   refine aln 40 fun hl1=>?_
   refine rng (body:=nQ a0) (kk:=qJ) (n:=a0.y9.length) (s0:=t0)
    (fun(gs1:Unit) (k1:Nat) (s1:Int)=>[(3,.ptr (st.length+1) 0 0 0),(5,.int .i64 s1),(40,.sl false 3 40 (rows A9.cells a0.y9)),(41,.int .i64 (↑a0.y9.length:Int)),(42,.int .i64 (↑k1:Int))])
    (fun(gs1:Unit) (k1:Nat) (s1:Int)=>st++[none,some (.arr 0 2 0 [[.int .i64 0,.int .i64 0]])])
    (fun(gt1:Unit) (t1:Int)=>[(3,.ptr (st.length+1) 0 0 0),(5,.int .i64 t1)])
    (fun(gt1:Unit) (t1:Int)=>st++[none,some (.arr 0 2 0 [[.int .i64 0,.int .i64 0]])])
    () fx hl1 h (bm hsc)
    (fun gs1 k1 s1 b1 fx h hx1=>?_) (fun gs1 s1=>?_) (fun gt1 t1 fr1 st1 h hb=>?_)
   ·unfold nQ at h
    refine ct ?_
    refine rn ?_
    cases h
    exact aX () (bm hsc)
   ·refine cf ?_
    refine Z6 ?_;simp only[go_sem,fx]
    exact⟨(),(bm hsc)⟩
   ·try simp only[go_sem,fx]
    unfold qJ at h
    refine K1 hb ?_
    exact rt
theorem qe(a0:(List w4))(l0:(List x5))(r:(List w4)×Bool)(h:cH a0 l0=some r):∀(st:St) (o0 q0:Nat) (hnd: [o0].Nodup) (oo:Am.look st o0=some (.arr q0 3 40 (rows x5.cells l0))),Am.Spec Tryz.prog gl 15 [.sl false 10 152 (rows w4.cells a0),.ref false o0 q0 0 l0.length] st (fun d st'=>d= .tup [.sl false 10 152 (rows w4.cells r.1),.bool r.2]∧st'=puts st []):=by
 intro st o0 q0 hnd oo
 unfold cH at h
 have ho0:=jD oo
 have fx:=idf ho0
 refine fb 52 [.tmp 4,.tmp 5] [0,1,4,5,6,7,9,10,11,12,13,25] Tryz.func15 fun hsc=>?_
 refine tM (s':=(bp st [(o0,(.arr q0 3 40 (rows x5.cells l0)))])) (U6 (by simp[oo])) ?_
 refine r0 ?_
 refine r0 ?_
 refine r0 ?_
 refine r0 ?_
 (repeat apply sq_)
 refine bW 10 152 ?_
 try simp only[List.append_assoc,List.cons_append,List.nil_append]
 refine K1 (F:=[(0,.sl false 10 152 (rows w4.cells a0)),(6,.ref false st.length 0 0 0),(7,.int .i64 0),(10,.ref false o0 q0 0 l0.length),(11,.int .i64 (↑l0.length:Int)),(12,.int .i64 0)]) (T:=(bp st [(o0,(.arr q0 3 40 (rows x5.cells l0)))])++[some (.arr 0 10 152 (rows w4.cells []))]) (FT (by simp) (oK hsc (by simp<;>omega)) (.lv (.nil _)) (by simp<;>omega) ⟨.s,.nref _ _ _ _ _ _ (pU.trans rfl),.s,.s,.s,.s,trivial⟩ (by simp<;>omega)) ?_
 obtain⟨fx,h⟩:=ck fx h
 (repeat apply sq_)
 refine rng (body:=cA a0 l0) (kk:=cB a0) (n:=l0.length) (s0:=([],0))
  (fun(gs0:Nat) (k0:Nat) (s0:(List w4)×Int)=>[(0,.sl false 10 152 (rows w4.cells a0)),(6,.ref false st.length gs0 0 s0.1.length),(7,.int .i64 s0.2),(10,.ref false o0 q0 0 l0.length),(11,.int .i64 (↑l0.length:Int)),(12,.int .i64 (↑k0:Int))])
  (fun(gs0:Nat) (k0:Nat) (s0:(List w4)×Int)=>(bp st [(o0,(.arr q0 3 40 (rows x5.cells l0)))])++[some (.arr gs0 10 152 (rows w4.cells s0.1))])
  (fun(gt0:Nat) (t0:(List w4)×Int)=>[(0,.sl false 10 152 (rows w4.cells a0)),(6,.ref false st.length gt0 0 t0.1.length),(7,.int .i64 t0.2)])
  (fun(gt0:Nat) (t0:(List w4)×Int)=>(bp st [(o0,(.arr q0 3 40 (rows x5.cells l0)))])++[some (.arr gt0 10 152 (rows w4.cells t0.1))])
  0 fx fx.2 h (bu hsc)
  (fun gs0 k0 s0 b0 fx h hx0=>?_) (fun gs0 s0=>?_) (fun gt0 t0 fr1 st1 h hb=>?_)
 ·unfold cA at h
  refine ct ?_
  refine r0 ?_
  refine r0 ?_
  have fy:=(show(rows x5.cells l0).getD k0 []=x5.cells (get l0 k0)from pS (E:=x5.cells) (l:=l0) (k:=k0) (by first|omega|(simp;omega)))
  have fy:=fa fy (show k0<l0.length from by first|omega|(simp;omega))
  refine r1 ?_
  refine cd h (fun hc h=>?_) fun hc h=>?_
  ·refine ra ?_
   cases h
   refine D6 ?_;have h:=congrArg some (hx0 _ rfl)
   refine rr ?_
   exact fuo (.tup [.sl false 10 152 (rows w4.cells []),.bool false]) (.tup _ _ (.cons _ _ _ _ (.B0 _ _ _ (by decide)) (.cons _ _ _ _ .s .nil)) rfl) h hsc (hr:=by rintro rfl;exact⟨rfl,U6 (by simp[oo])⟩)
  ·refine r0 ?_
   obtain⟨fx,h⟩:=ck fx h
   obtain⟨c24,OA,h⟩:=lR h
   have fy:=(show rows w4.cells s0.1++rows w4.cells ((a0.drop s0.2.toNat).take ((wr .i64 (s0.2+((get l0 k0).keep))).toNat-s0.2.toNat))=rows w4.cells c24 from by rw[OA];first|exact O2 (E:=w4.cells) s0.1 ((a0.drop s0.2.toNat).take ((wr .i64 (s0.2+((get l0 k0).keep))).toNat-s0.2.toNat))|simp only[go_sem,rows,List.map_append,List.map_cons,List.map_nil])
   have fy:=fa fy (show s0.1.length+((a0.drop s0.2.toNat).take ((wr .i64 (s0.2+((get l0 k0).keep))).toNat-s0.2.toNat)).length=c24.length from by rw[OA];simp)
   obtain⟨fx,h⟩:=ck fx h
   refine r1 ?_
   obtain⟨c29,OB,h⟩:=lR h
   have fy:=(show rows w4.cells c24++rows w4.cells ((get l0 k0).put)=rows w4.cells c29 from by rw[OB];first|exact O2 (E:=w4.cells) c24 ((get l0 k0).put)|simp only[go_sem,rows,List.map_append,List.map_cons,List.map_nil])
   have fy:=fa fy (show c24.length+((get l0 k0).put).length=c29.length from by rw[OB];simp)
   obtain⟨fx,h⟩:=ck fx h
   refine r1 ?_
   refine rn ?_
   cases h
   exact aX ((gs0+1)+1) (bu hsc)
 ·refine cf ?_
  refine Z6 ?_;simp only[go_sem,fx]
  exact⟨gs0,(bu hsc)⟩
 ·try simp only[go_sem,fx]
  unfold cB at h
  refine K1 hb ?_
  refine rr ?_
  exact fuo (.tup [.sl false 10 152 (rows w4.cells t0.1),.bool (decide (t0.2=(↑a0.length:Int)))]) (.tup _ _ (.cons _ _ _ _ (.ref _ _ _ _ _ _ _ _ _ (pU.trans rfl) xM (by decide) (lG _) (by simp only[go_sem])) (.cons _ _ _ _ .s .nil)) rfl) h hsc (hr:=by rintro rfl;exact⟨rfl,U6 (by simp[oo])⟩)
theorem qK(a0:(List x7))(l0:(List x9))(r:(List x7)×Bool)(h:dI a0 l0=some r):∀(st:St) (o0 q0:Nat) (hnd: [o0].Nodup) (oo:Am.look st o0=some (.arr q0 3 40 (rows x9.cells l0))),Am.Spec Tryz.prog gl 16 [.sl false 9 144 (rows x7.cells a0),.ref false o0 q0 0 l0.length] st (fun d st'=>d= .tup [.sl false 9 144 (rows x7.cells r.1),.bool r.2]∧st'=puts st []):=by
 intro st o0 q0 hnd oo
 unfold dI at h
 have ho0:=jD oo
 have fx:=idf ho0
 refine fb 52 [.tmp 4,.tmp 5] [0,1,4,5,6,7,9,10,11,12,13,25] Tryz.func16 fun hsc=>?_
 refine tM (s':=(bp st [(o0,(.arr q0 3 40 (rows x9.cells l0)))])) (U6 (by simp[oo])) ?_
 refine r0 ?_
 refine r0 ?_
 refine r0 ?_
 refine r0 ?_
 (repeat apply sq_)
 refine bW 9 144 ?_
 try simp only[List.append_assoc,List.cons_append,List.nil_append]
 refine K1 (F:=[(0,.sl false 9 144 (rows x7.cells a0)),(6,.ref false st.length 0 0 0),(7,.int .i64 0),(10,.ref false o0 q0 0 l0.length),(11,.int .i64 (↑l0.length:Int)),(12,.int .i64 0)]) (T:=(bp st [(o0,(.arr q0 3 40 (rows x9.cells l0)))])++[some (.arr 0 9 144 (rows x7.cells []))]) (FT (by simp) (oK hsc (by simp<;>omega)) (.lv (.nil _)) (by simp<;>omega) ⟨.s,.nref _ _ _ _ _ _ (pU.trans rfl),.s,.s,.s,.s,trivial⟩ (by simp<;>omega)) ?_
 obtain⟨fx,h⟩:=ck fx h
 (repeat apply sq_)
 refine rng (body:=dj a0 l0) (kk:=dn a0) (n:=l0.length) (s0:=([],0))
  (fun(gs0:Nat) (k0:Nat) (s0:(List x7)×Int)=>[(0,.sl false 9 144 (rows x7.cells a0)),(6,.ref false st.length gs0 0 s0.1.length),(7,.int .i64 s0.2),(10,.ref false o0 q0 0 l0.length),(11,.int .i64 (↑l0.length:Int)),(12,.int .i64 (↑k0:Int))])
  (fun(gs0:Nat) (k0:Nat) (s0:(List x7)×Int)=>(bp st [(o0,(.arr q0 3 40 (rows x9.cells l0)))])++[some (.arr gs0 9 144 (rows x7.cells s0.1))])
  (fun(gt0:Nat) (t0:(List x7)×Int)=>[(0,.sl false 9 144 (rows x7.cells a0)),(6,.ref false st.length gt0 0 t0.1.length),(7,.int .i64 t0.2)])
  (fun(gt0:Nat) (t0:(List x7)×Int)=>(bp st [(o0,(.arr q0 3 40 (rows x9.cells l0)))])++[some (.arr gt0 9 144 (rows x7.cells t0.1))])
  0 fx fx.2 h (bu hsc)
  (fun gs0 k0 s0 b0 fx h hx0=>?_) (fun gs0 s0=>?_) (fun gt0 t0 fr1 st1 h hb=>?_)
 ·unfold dj at h
  refine ct ?_
  refine r0 ?_
  refine r0 ?_
  have fy:=(show(rows x9.cells l0).getD k0 []=x9.cells (get l0 k0)from pS (E:=x9.cells) (l:=l0) (k:=k0) (by first|omega|(simp;omega)))
  have fy:=fa fy (show k0<l0.length from by first|omega|(simp;omega))
  refine r1 ?_
  refine cd h (fun hc h=>?_) fun hc h=>?_
  ·refine ra ?_
   cases h
   refine D6 ?_;have h:=congrArg some (hx0 _ rfl)
   refine rr ?_
   exact fuo (.tup [.sl false 9 144 (rows x7.cells []),.bool false]) (.tup _ _ (.cons _ _ _ _ (.B0 _ _ _ (by decide)) (.cons _ _ _ _ .s .nil)) rfl) h hsc (hr:=by rintro rfl;exact⟨rfl,U6 (by simp[oo])⟩)
  ·refine r0 ?_
   obtain⟨fx,h⟩:=ck fx h
   obtain⟨c24,OA,h⟩:=lR h
   have fy:=(show rows x7.cells s0.1++rows x7.cells ((a0.drop s0.2.toNat).take ((wr .i64 (s0.2+((get l0 k0).keep))).toNat-s0.2.toNat))=rows x7.cells c24 from by rw[OA];first|exact O2 (E:=x7.cells) s0.1 ((a0.drop s0.2.toNat).take ((wr .i64 (s0.2+((get l0 k0).keep))).toNat-s0.2.toNat))|simp only[go_sem,rows,List.map_append,List.map_cons,List.map_nil])
   have fy:=fa fy (show s0.1.length+((a0.drop s0.2.toNat).take ((wr .i64 (s0.2+((get l0 k0).keep))).toNat-s0.2.toNat)).length=c24.length from by rw[OA];simp)
   obtain⟨fx,h⟩:=ck fx h
   refine r1 ?_
   obtain⟨c29,OB,h⟩:=lR h
   have fy:=(show rows x7.cells c24++rows x7.cells ((get l0 k0).put)=rows x7.cells c29 from by rw[OB];first|exact O2 (E:=x7.cells) c24 ((get l0 k0).put)|simp only[go_sem,rows,List.map_append,List.map_cons,List.map_nil])
   have fy:=fa fy (show c24.length+((get l0 k0).put).length=c29.length from by rw[OB];simp)
   obtain⟨fx,h⟩:=ck fx h
   refine r1 ?_
   refine rn ?_
   cases h
   exact aX ((gs0+1)+1) (bu hsc)
 ·refine cf ?_
  refine Z6 ?_;simp only[go_sem,fx]
  exact⟨gs0,(bu hsc)⟩
 ·try simp only[go_sem,fx]
  unfold dn at h
  refine K1 hb ?_
  refine rr ?_
  exact fuo (.tup [.sl false 9 144 (rows x7.cells t0.1),.bool (decide (t0.2=(↑a0.length:Int)))]) (.tup _ _ (.cons _ _ _ _ (.ref _ _ _ _ _ _ _ _ _ (pU.trans rfl) xM (by decide) (lG _) (by simp only[go_sem])) (.cons _ _ _ _ .s .nil)) rfl) h hsc (hr:=by rintro rfl;exact⟨rfl,U6 (by simp[oo])⟩)
theorem AZ(n:Nat)(a0:x6)(r:x6)(h:oT n a0=some r):Pure Tryz.prog gl 18 [.agg [.sl false 2 40 (rows w6.cells a0.hierarchy.types),.sl false 3 32 (rows y3.cells a0.hierarchy.B5),.sl false 10 152 (rows w4.cells a0.rules),.sl false 9 144 (rows x7.cells a0.y9),.sl false 2 32 (rows w8.cells a0.start.nodes)]] (.agg [.sl false 2 40 (rows w6.cells r.hierarchy.types),.sl false 3 32 (rows y3.cells r.hierarchy.B5),.sl false 10 152 (rows w4.cells r.rules),.sl false 9 144 (rows x7.cells r.y9),.sl false 2 32 (rows w8.cells r.start.nodes)]):=by
 intro st
 unfold oT at h
 have fx:=trivial
 refine fb 46 [.cell 2 32] [0,1,2,3,5,7,16,17,18,19,31,32,33,34] Tryz.func18 fun hsc=>?_
 refine rn ?_
 refine dw [] 1 ?_
 obtain⟨v1,hv1,h⟩:=E6 h
 refine B3 (jw _ _ hv1) ?_
 try simp only[go_sem,fx]
 obtain⟨v2,hv2,h⟩:=E6 h
 refine B3 (fE _ _ hv2) ?_
 try simp only[go_sem,fx]
 refine r0 ?_
 (repeat apply sq_)
 refine bW 10 152 ?_
 try simp only[List.append_assoc,List.cons_append,List.nil_append]
 refine K1 (F:=[(1,.ptr st.length 0 0 0),(2,.ptr (st.length+1) 0 0 0),(3,.ptr (st.length+2) 0 0 0),(16,.sl false 10 152 (rows w4.cells a0.rules)),(17,.int .i64 (↑a0.rules.length:Int)),(18,.int .i64 0)]) (T:=st++[some (.arr 0 5 0 [[.sl false 2 40 (rows w6.cells a0.hierarchy.types),.sl false 3 32 (rows y3.cells a0.hierarchy.B5),.sl false 10 152 (rows w4.cells a0.rules),.sl false 9 144 (rows x7.cells a0.y9),.sl false 2 32 (rows w8.cells a0.start.nodes)]]),some (.arr 0 5 0 [[.B0,.B0,.B0,.B0,.B0]]),some (.arr 0 5 0 [[.sl false 2 40 (rows w6.cells v1.types),.sl false 3 32 (rows y3.cells v1.B5),.ref false (st.length+3) 0 0 0,.B0,.sl false 2 32 (rows w8.cells v2.nodes)]]),some (.arr 0 10 152 (rows w4.cells []))]) (jx hsc (.lv (.lv (.live _ _ _ _ (.arr _ _ _ _ _ (.cons _ _ _ _ (.cons _ _ _ _ .s (.cons _ _ _ _ .s (.cons _ _ _ _ (.nref _ _ _ _ _ _ (fK.trans rfl)) (.cons _ _ _ _ .s (.cons _ _ _ _ .s .nil))))) (.same _))) (.lv (.nil _))))) (by simp) ⟨.s,.s,.s,.s,.s,.s,trivial⟩ (by simp)) ?_
 refine aln 16 fun hl0=>?_
 refine rng (body:=oX n a0) (kk:=lY n a0 v1 v2) (n:=a0.rules.length) (s0:=[])
  (fun(gs0:Nat) (k0:Nat) (s0:(List w4))=>[(1,.ptr st.length 0 0 0),(2,.ptr (st.length+1) 0 0 0),(3,.ptr (st.length+2) 0 0 0),(16,.sl false 10 152 (rows w4.cells a0.rules)),(17,.int .i64 (↑a0.rules.length:Int)),(18,.int .i64 (↑k0:Int))])
  (fun(gs0:Nat) (k0:Nat) (s0:(List w4))=>st++[some (.arr 0 5 0 [[.sl false 2 40 (rows w6.cells a0.hierarchy.types),.sl false 3 32 (rows y3.cells a0.hierarchy.B5),.sl false 10 152 (rows w4.cells a0.rules),.sl false 9 144 (rows x7.cells a0.y9),.sl false 2 32 (rows w8.cells a0.start.nodes)]]),some (.arr 0 5 0 [[.B0,.B0,.B0,.B0,.B0]]),some (.arr 0 5 0 [[.sl false 2 40 (rows w6.cells v1.types),.sl false 3 32 (rows y3.cells v1.B5),.ref false (st.length+3) gs0 0 s0.length,.B0,.sl false 2 32 (rows w8.cells v2.nodes)]]),some (.arr gs0 10 152 (rows w4.cells s0))])
  (fun(gt0:Nat) (t0:(List w4))=>[(1,.ptr st.length 0 0 0),(2,.ptr (st.length+1) 0 0 0),(3,.ptr (st.length+2) 0 0 0)])
  (fun(gt0:Nat) (t0:(List w4))=>st++[some (.arr 0 5 0 [[.sl false 2 40 (rows w6.cells a0.hierarchy.types),.sl false 3 32 (rows y3.cells a0.hierarchy.B5),.sl false 10 152 (rows w4.cells a0.rules),.sl false 9 144 (rows x7.cells a0.y9),.sl false 2 32 (rows w8.cells a0.start.nodes)]]),some (.arr 0 5 0 [[.B0,.B0,.B0,.B0,.B0]]),some (.arr 0 5 0 [[.sl false 2 40 (rows w6.cells v1.types),.sl false 3 32 (rows y3.cells v1.B5),.ref false (st.length+3) gt0 0 t0.length,.B0,.sl false 2 32 (rows w8.cells v2.nodes)]]),some (.arr gt0 10 152 (rows w4.cells t0))])
  0 fx hl0 h (bm hsc)
  (fun gs0 k0 s0 b0 fx h hx0=>?_) (fun gs0 s0=>?_) (fun gt0 t0 fr1 st1 h hb=>?_)
 ·unfold oX at h
  refine ct ?_
  refine rn ?_
  refine dw [] 2 ?_
  obtain⟨v10,hv10,h⟩:=E6 h
  refine B3 (om n _ _ hv10) ?_
  obtain⟨c12,Rt,h⟩:=lR h
  have fy:=(show rows w4.cells s0++[[.str v10.name,.sl false 2 32 (rows w8.cells v10.graph.nodes),.int .i64 v10.kids,.int .i64 v10.weight,.int .i64 v10.meaning.kind,.str v10.meaning.name,.int .i64 v10.meaning.index,.str v10.meaning.type.base,.sl false 2 40 (rows u0.cells v10.meaning.type.args),.sl false 6 96 (rows w7.cells v10.meaning.args)]]=rows w4.cells c12 from by rw[Rt];first|exact O2 (E:=w4.cells) s0 [v10]|simp only[go_sem,rows,List.map_append,List.map_cons,List.map_nil])
  have fy:=fa fy (show s0.length+1=c12.length from by rw[Rt];simp)
  obtain⟨fx,h⟩:=ck fx h
  try simp only[go_sem,fx,fy]
  refine rn ?_
  cases h
  exact aX (gs0+1) (bm hsc)
 ·refine cf ?_
  refine Z6 ?_;simp only[go_sem,fx]
  exact⟨gs0,(bm hsc)⟩
 ·try simp only[go_sem,fx]
  unfold lY at h
  refine K1 hb ?_
  refine r0 ?_
  (repeat apply sq_)
  refine bW 9 144 ?_
  try simp only[List.append_assoc,List.cons_append,List.nil_append]
  refine K1 (F:=[(2,.ptr (st.length+1) 0 0 0),(3,.ptr (st.length+2) 0 0 0),(31,.sl false 9 144 (rows x7.cells a0.y9)),(32,.int .i64 (↑a0.y9.length:Int)),(33,.int .i64 0)]) (T:=st++[some (.arr 0 5 0 [[.sl false 2 40 (rows w6.cells a0.hierarchy.types),.sl false 3 32 (rows y3.cells a0.hierarchy.B5),.sl false 10 152 (rows w4.cells a0.rules),.sl false 9 144 (rows x7.cells a0.y9),.sl false 2 32 (rows w8.cells a0.start.nodes)]]),some (.arr 0 5 0 [[.B0,.B0,.B0,.B0,.B0]]),some (.arr 0 5 0 [[.sl false 2 40 (rows w6.cells v1.types),.sl false 3 32 (rows y3.cells v1.B5),.ref false (st.length+3) gt0 0 t0.length,.ref false (st.length+4) 0 0 0,.sl false 2 32 (rows w8.cells v2.nodes)]]),some (.arr gt0 10 152 (rows w4.cells t0)),some (.arr 0 9 144 (rows x7.cells []))]) (jx hsc (.lv (.lv (.live _ _ _ _ (.arr _ _ _ _ _ (.cons _ _ _ _ (.cons _ _ _ _ .s (.cons _ _ _ _ .s (.cons _ _ _ _ .s (.cons _ _ _ _ (.nref _ _ _ _ _ _ (fK.trans rfl)) (.cons _ _ _ _ .s .nil))))) (.same _))) (.lv (.lv (.nil _)))))) (by simp) ⟨.s,.s,.s,.s,.s,trivial⟩ (by simp)) ?_
  refine aln 31 fun hl1=>?_
  refine rng (body:=oY n a0) (kk:=oZ v1 t0 v2) (n:=a0.y9.length) (s0:=[])
   (fun(gs1:Nat) (k1:Nat) (s1:(List x7))=>[(2,.ptr (st.length+1) 0 0 0),(3,.ptr (st.length+2) 0 0 0),(31,.sl false 9 144 (rows x7.cells a0.y9)),(32,.int .i64 (↑a0.y9.length:Int)),(33,.int .i64 (↑k1:Int))])
   (fun(gs1:Nat) (k1:Nat) (s1:(List x7))=>st++[none,some (.arr 0 5 0 [[.B0,.B0,.B0,.B0,.B0]]),some (.arr 0 5 0 [[.sl false 2 40 (rows w6.cells v1.types),.sl false 3 32 (rows y3.cells v1.B5),.ref false (st.length+3) gt0 0 t0.length,.ref false (st.length+4) gs1 0 s1.length,.sl false 2 32 (rows w8.cells v2.nodes)]]),some (.arr gt0 10 152 (rows w4.cells t0)),some (.arr gs1 9 144 (rows x7.cells s1))])
   (fun(gt1:Nat) (t1:(List x7))=>[(2,.ptr (st.length+1) 0 0 0),(3,.ptr (st.length+2) 0 0 0)])
   (fun(gt1:Nat) (t1:(List x7))=>st++[none,some (.arr 0 5 0 [[.B0,.B0,.B0,.B0,.B0]]),some (.arr 0 5 0 [[.sl false 2 40 (rows w6.cells v1.types),.sl false 3 32 (rows y3.cells v1.B5),.ref false (st.length+3) gt0 0 t0.length,.ref false (st.length+4) gt1 0 t1.length,.sl false 2 32 (rows w8.cells v2.nodes)]]),some (.arr gt0 10 152 (rows w4.cells t0)),some (.arr gt1 9 144 (rows x7.cells t1))])
   0 fx hl1 h (bm hsc)
   (fun gs1 k1 s1 b1 fx h hx1=>?_) (fun gs1 s1=>?_) (fun gt1 t1 fr1 st1 h hb=>?_)
  ·unfold oY at h
   refine ct ?_
   refine rn ?_
   refine dw [] 2 ?_
   obtain⟨v24,hv24,h⟩:=E6 h
   refine B3 (pI n _ _ hv24) ?_
   obtain⟨c26,Ru,h⟩:=lR h
   have fy:=(show rows x7.cells s1++[[.str v24.word,.sl false 2 32 (rows w8.cells v24.graph.nodes),.int .i64 v24.weight,.int .i64 v24.meaning.kind,.str v24.meaning.name,.int .i64 v24.meaning.index,.str v24.meaning.type.base,.sl false 2 40 (rows u0.cells v24.meaning.type.args),.sl false 6 96 (rows w7.cells v24.meaning.args)]]=rows x7.cells c26 from by rw[Ru];first|exact O2 (E:=x7.cells) s1 [v24]|simp only[go_sem,rows,List.map_append,List.map_cons,List.map_nil])
   have fy:=fa fy (show s1.length+1=c26.length from by rw[Ru];simp)
   obtain⟨fx,h⟩:=ck fx h
   try simp only[go_sem,fx,fy]
   refine rn ?_
   cases h
   exact aX (gs1+1) (bm hsc)
  ·refine cf ?_
   refine Z6 ?_;simp only[go_sem,fx]
   exact⟨gs1,(bm hsc)⟩
  ·try simp only[go_sem,fx]
   unfold oZ at h
   refine K1 hb ?_
   refine rr ?_
   exact fo (.agg [.sl false 2 40 (rows w6.cells v1.types),.sl false 3 32 (rows y3.cells v1.B5),.sl false 10 152 (rows w4.cells t0),.sl false 9 144 (rows x7.cells t1),.sl false 2 32 (rows w8.cells v2.nodes)]) (.agg _ _ (.cons _ _ _ _ .s (.cons _ _ _ _ .s (.cons _ _ _ _ (.ref _ _ _ _ _ _ _ _ _ (fK.trans rfl) sQ (by decide) (lG _) (by simp only[go_sem])) (.cons _ _ _ _ (.ref _ _ _ _ _ _ _ _ _ (fK.trans rfl) sQ (by decide) (lG _) (by simp only[go_sem])) (.cons _ _ _ _ .s .nil)))))) h hsc
end Go.Proofs.YtbgkcolebacbmaaGreatDoor
