import Derived.Test.YtonfgoanbllceaaGreatDoorAWalk8
set_option linter.unusedVariables false
set_option linter.unusedSimpArgs false
set_option maxHeartbeats 2000000
set_option maxRecDepth 100000
namespace Go.Proofs.YtonfgoanbllceaaGreatDoor
open Go Go.Am
theorem jJ(a0:Int)(a1:Int)(r:x6)(h:iP a0 a1=some r):Pure Tryz.prog gl 28 [.int .i64 a0,.int .i64 a1] (.agg [.int .i64 r.code,.int .i64 r.index]):=by
 intro st
 unfold iP at h
 have fx:=trivial
 refine fb 8 [.cell 4 41] [0,1,4] Tryz.func28 fun hsc=>?_
 exact rt
theorem tq(a0:Int)(a1:Int)(a2:Int)(r:Bool)(h:ij a0 a1 a2=some r):Pure Tryz.prog gl 71 [.int .i64 a0,.int .i64 a1,.int .i64 a2] (.bool r):=by
 intro st
 unfold ij at h
 have fx:=trivial
 refine fb 25 [.tmp 6] [0,1,2,6,10,11,14,15,18,19,22,23] Tryz.func71 fun hsc=>?_
 exact rt
theorem uT(a0:B4)(r:x6)(h:iO a0=some r):Pure Tryz.prog gl 25 [.agg [.sl false 2 48 (rows w5.cells a0.hierarchy),.sl false 1 24 (rows y5.cells a0.start),.sl false 3 40 (rows A8.cells a0.rules),.sl false 3 40 (rows B9.cells a0.y9)]] (.agg [.int .i64 r.code,.int .i64 r.index]):=by
 intro st
 unfold iO at h
 have fx:=trivial
 refine fb 76 [.cell 2 41] [0,1,2,3,4,5,6,7,13,14,15,16,19,20,21,22,25,26,27,28,29,32,33,34,35,47,52,53,54,55,67] Tryz.func25 fun hsc=>?_
 refine cd h (fun hc h=>?_) fun hc h=>?_
 ·refine cl h (jJ _ _) fun v1 h=>?_
  exact rt
 ·refine aln 32 fun hl0=>?_
  refine rng (body:=iq a0) (kk:=iu a0) (n:=a0.rules.length) (s0:=())
   (fun(gs0:Unit) (k0:Nat) (s0:Unit)=>[(1,.ptr st.length 0 0 0),(2,.ptr (st.length+1) 0 0 0),(3,.fn 71 [] []),(32,.sl false 3 40 (rows A8.cells a0.rules)),(33,.int .i64 (↑a0.rules.length:Int)),(34,.int .i64 (↑k0:Int))])
   (fun(gs0:Unit) (k0:Nat) (s0:Unit)=>st++[some (.arr 0 4 0 [[.sl false 2 48 (rows w5.cells a0.hierarchy),.sl false 1 24 (rows y5.cells a0.start),.sl false 3 40 (rows A8.cells a0.rules),.sl false 3 40 (rows B9.cells a0.y9)]]),some (.arr 0 2 0 [[.int .i64 0,.int .i64 0]])])
   (fun(gt0:Unit) (t0:Unit)=>[(1,.ptr st.length 0 0 0),(2,.ptr (st.length+1) 0 0 0),(3,.fn 71 [] [])])
   (fun(gt0:Unit) (t0:Unit)=>st++[some (.arr 0 4 0 [[.sl false 2 48 (rows w5.cells a0.hierarchy),.sl false 1 24 (rows y5.cells a0.start),.sl false 3 40 (rows A8.cells a0.rules),.sl false 3 40 (rows B9.cells a0.y9)]]),some (.arr 0 2 0 [[.int .i64 0,.int .i64 0]])])
   () fx hl0 h (bm hsc)
   (fun gs0 k0 s0 b0 fx h hx0=>?_) (fun gs0 s0=>?_) (fun gt0 t0 fr1 st1 h hb=>?_)
  ·unfold iq at h
   refine ct ?_
   refine cl h (tq _ _ _) fun v2 h=>?_
   refine cd h (fun hc h=>?_) fun hc h=>?_
   ·refine cl h (jJ _ _) fun v3 h=>?_
    refine ra ?_
    cases h
    refine D4 ?_;have h:=congrArg some (hx0 _ rfl)
    exact rt
   ·refine rn ?_
    cases h
    exact aT () (bm hsc)
  ·refine cf ?_
   refine X5 ?_;simp only[go_sem,fx]
   exact⟨(),(bm hsc)⟩
  ·try simp only[go_sem,fx]
   unfold iu at h
   refine K6 hb ?_
   refine aln 52 fun hl1=>?_
   refine rng (body:=jH a0) (kk:=pL) (n:=a0.y9.length) (s0:=())
    (fun(gs1:Unit) (k1:Nat) (s1:Unit)=>[(1,.ptr st.length 0 0 0),(2,.ptr (st.length+1) 0 0 0),(3,.fn 71 [] []),(52,.sl false 3 40 (rows B9.cells a0.y9)),(53,.int .i64 (↑a0.y9.length:Int)),(54,.int .i64 (↑k1:Int))])
    (fun(gs1:Unit) (k1:Nat) (s1:Unit)=>st++[some (.arr 0 4 0 [[.sl false 2 48 (rows w5.cells a0.hierarchy),.sl false 1 24 (rows y5.cells a0.start),.sl false 3 40 (rows A8.cells a0.rules),.sl false 3 40 (rows B9.cells a0.y9)]]),some (.arr 0 2 0 [[.int .i64 0,.int .i64 0]])])
    (fun(gt1:Unit) (t1:Unit)=>[(2,.ptr (st.length+1) 0 0 0)])
    (fun(gt1:Unit) (t1:Unit)=>st++[none,some (.arr 0 2 0 [[.int .i64 0,.int .i64 0]])])
    () fx hl1 h (bm hsc)
    (fun gs1 k1 s1 b1 fx h hx1=>?_) (fun gs1 s1=>?_) (fun gt1 t1 fr1 st1 h hb=>?_)
   ·unfold jH at h
    refine ct ?_
    refine cl h (tq _ _ _) fun v4 h=>?_
    refine cd h (fun hc h=>?_) fun hc h=>?_
    ·refine cl h (jJ _ _) fun v5 h=>?_
     refine ra ?_
     cases h
     refine D4 ?_;have h:=congrArg some (hx1 _ rfl)
     exact rt
    ·refine rn ?_
     cases h
     exact aT () (bm hsc)
   ·refine cf ?_
    refine X5 ?_;simp only[go_sem,fx]
    exact⟨(),(bm hsc)⟩
   ·try simp only[go_sem,fx]
    unfold pL at h
    refine K6 hb ?_
    exact rt
theorem xU(a0:B4)(r:Int×x6)(h:og a0=some r):Pure Tryz.prog gl 8 [.agg [.sl false 2 48 (rows w5.cells a0.hierarchy),.sl false 1 24 (rows y5.cells a0.start),.sl false 3 40 (rows A8.cells a0.rules),.sl false 3 40 (rows B9.cells a0.y9)]] (.tup [.int .i64 r.1,.agg [.int .i64 r.2.code,.int .i64 r.2.index]]):=by
 intro st
 unfold og at h
 have fx:=trivial
 refine fb 57 [.tmp 2,.cell 3 41] [0,1,2,3,4,5,7,9,14,24,25,26,27,40,41,42,43] Tryz.func8 fun hsc=>?_
 refine cl h (uT _) fun v1 h=>?_
 refine cd h (fun hc h=>?_) fun hc h=>?_
 ·refine rs ?_
  refine dw [] 0 ?_
  exact rt
 ·refine aln 24 fun hl0=>?_
  refine rng (body:=oh a0) (kk:=om a0) (n:=a0.rules.length) (s0:=(wr .i64 ((↑a0.hierarchy.length:Int)+(↑a0.start.length:Int))))
   (fun(gs0:Unit) (k0:Nat) (s0:Int)=>[(1,.ptr st.length 0 0 0),(3,.ptr (st.length+1) 0 0 0),(5,.int .i64 s0),(24,.sl false 3 40 (rows A8.cells a0.rules)),(25,.int .i64 (↑a0.rules.length:Int)),(26,.int .i64 (↑k0:Int))])
   (fun(gs0:Unit) (k0:Nat) (s0:Int)=>st++[some (.arr 0 4 0 [[.sl false 2 48 (rows w5.cells a0.hierarchy),.sl false 1 24 (rows y5.cells a0.start),.sl false 3 40 (rows A8.cells a0.rules),.sl false 3 40 (rows B9.cells a0.y9)]]),some (.arr 0 2 0 [[.int .i64 0,.int .i64 0]])])
   (fun(gt0:Unit) (t0:Int)=>[(1,.ptr st.length 0 0 0),(3,.ptr (st.length+1) 0 0 0),(5,.int .i64 t0)])
   (fun(gt0:Unit) (t0:Int)=>st++[some (.arr 0 4 0 [[.sl false 2 48 (rows w5.cells a0.hierarchy),.sl false 1 24 (rows y5.cells a0.start),.sl false 3 40 (rows A8.cells a0.rules),.sl false 3 40 (rows B9.cells a0.y9)]]),some (.arr 0 2 0 [[.int .i64 0,.int .i64 0]])])
   () fx hl0 h (bm hsc)
   (fun gs0 k0 s0 b0 fx h hx0=>?_) (fun gs0 s0=>?_) (fun gt0 t0 fr1 st1 h hb=>?_)
  ·unfold oh at h
   refine ct ?_
   refine rn ?_
   cases h
   exact aT () (bm hsc)
  ·refine cf ?_
   refine X5 ?_;simp only[go_sem,fx]
   exact⟨(),(bm hsc)⟩
  ·try simp only[go_sem,fx]
   unfold om at h
   refine K6 hb ?_
   refine aln 40 fun hl1=>?_
   refine rng (body:=oo a0) (kk:=rB) (n:=a0.y9.length) (s0:=t0)
    (fun(gs1:Unit) (k1:Nat) (s1:Int)=>[(3,.ptr (st.length+1) 0 0 0),(5,.int .i64 s1),(40,.sl false 3 40 (rows B9.cells a0.y9)),(41,.int .i64 (↑a0.y9.length:Int)),(42,.int .i64 (↑k1:Int))])
    (fun(gs1:Unit) (k1:Nat) (s1:Int)=>st++[none,some (.arr 0 2 0 [[.int .i64 0,.int .i64 0]])])
    (fun(gt1:Unit) (t1:Int)=>[(3,.ptr (st.length+1) 0 0 0),(5,.int .i64 t1)])
    (fun(gt1:Unit) (t1:Int)=>st++[none,some (.arr 0 2 0 [[.int .i64 0,.int .i64 0]])])
    () fx hl1 h (bm hsc)
    (fun gs1 k1 s1 b1 fx h hx1=>?_) (fun gs1 s1=>?_) (fun gt1 t1 fr1 st1 h hb=>?_)
   ·unfold oo at h
    refine ct ?_
    refine rn ?_
    cases h
    exact aT () (bm hsc)
   ·refine cf ?_
    refine X5 ?_;simp only[go_sem,fx]
    exact⟨(),(bm hsc)⟩
   ·try simp only[go_sem,fx]
    unfold rB at h
    refine K6 hb ?_
    exact rt
theorem qD(a0:(List w4))(l0:(List w7))(r:(List w4)×Bool)(h:cJ a0 l0=some r):∀(st:St) (o0 q0:Nat) (hnd: [o0].Nodup) (oM:Am.look st o0=some (.arr q0 3 40 (rows w7.cells l0))),Am.Spec Tryz.prog gl 26 [.sl false 10 152 (rows w4.cells a0),.ref false o0 q0 0 l0.length] st (fun d st'=>d= .tup [.sl false 10 152 (rows w4.cells r.1),.bool r.2]∧st'=puts st []):=by
 intro st o0 q0 hnd oM
 unfold cJ at h
 have ho0:=cE oM
 have fx:=idf ho0
 refine fb 52 [.tmp 4,.tmp 5] [0,1,4,5,6,7,9,10,11,12,13,25] Tryz.func26 fun hsc=>?_
 refine lZ (s':=(Z4 st [(o0,(.arr q0 3 40 (rows w7.cells l0)))])) (N6 (by simp[oM])) ?_
 refine r0 ?_
 refine r0 ?_
 refine r0 ?_
 refine r0 ?_
 (repeat apply sq_)
 refine cY 10 152 ?_
 try simp only[List.append_assoc,List.cons_append,List.nil_append]
 refine K6 (F:=[(0,.sl false 10 152 (rows w4.cells a0)),(6,.ref false st.length 0 0 0),(7,.int .i64 0),(10,.ref false o0 q0 0 l0.length),(11,.int .i64 (↑l0.length:Int)),(12,.int .i64 0)]) (T:=(Z4 st [(o0,(.arr q0 3 40 (rows w7.cells l0)))])++[some (.arr 0 10 152 (rows w4.cells []))]) (Ia (by simp) (pz hsc (by simp<;>omega)) (.lv (.nil _)) (by simp<;>omega) ⟨.s,.nref _ _ _ _ _ _ (qp.trans rfl),.s,.s,.s,.s,trivial⟩ (by simp<;>omega)) ?_
 obtain⟨fx,h⟩:=ck fx h
 (repeat apply sq_)
 refine rng (body:=cx a0 l0) (kk:=cA a0) (n:=l0.length) (s0:=([],0))
  (fun(gs0:Nat) (k0:Nat) (s0:(List w4)×Int)=>[(0,.sl false 10 152 (rows w4.cells a0)),(6,.ref false st.length gs0 0 s0.1.length),(7,.int .i64 s0.2),(10,.ref false o0 q0 0 l0.length),(11,.int .i64 (↑l0.length:Int)),(12,.int .i64 (↑k0:Int))])
  (fun(gs0:Nat) (k0:Nat) (s0:(List w4)×Int)=>(Z4 st [(o0,(.arr q0 3 40 (rows w7.cells l0)))])++[some (.arr gs0 10 152 (rows w4.cells s0.1))])
  (fun(gt0:Nat) (t0:(List w4)×Int)=>[(0,.sl false 10 152 (rows w4.cells a0)),(6,.ref false st.length gt0 0 t0.1.length),(7,.int .i64 t0.2)])
  (fun(gt0:Nat) (t0:(List w4)×Int)=>(Z4 st [(o0,(.arr q0 3 40 (rows w7.cells l0)))])++[some (.arr gt0 10 152 (rows w4.cells t0.1))])
  0 fx fx.2 h (bu hsc)
  (fun gs0 k0 s0 b0 fx h hx0=>?_) (fun gs0 s0=>?_) (fun gt0 t0 fr1 st1 h hb=>?_)
 ·unfold cx at h
  refine ct ?_
  refine r0 ?_
  refine r0 ?_
  have fy:=(show(rows w7.cells l0).getD k0 []=w7.cells (get l0 k0)from oP (E:=w7.cells) (l:=l0) (k:=k0) (by first|omega|(simp;omega)))
  have fy:=fa fy (show k0<l0.length from by first|omega|(simp;omega))
  refine r1 ?_
  refine cd h (fun hc h=>?_) fun hc h=>?_
  ·refine ra ?_
   cases h
   refine D4 ?_;have h:=congrArg some (hx0 _ rfl)
   refine rr ?_
   exact fuo (.tup [.sl false 10 152 (rows w4.cells []),.bool false]) (.tup _ _ (.cons _ _ _ _ (.B3 _ _ _ (by decide)) (.cons _ _ _ _ .s .nil)) rfl) h hsc (hr:=by rintro rfl;exact⟨rfl,N6 (by simp[oM])⟩)
  ·refine r0 ?_
   obtain⟨fx,h⟩:=ck fx h
   obtain⟨c24,QM,h⟩:=mO h
   have fy:=(show rows w4.cells s0.1++rows w4.cells ((a0.drop s0.2.toNat).take ((wr .i64 (s0.2+((get l0 k0).keep))).toNat-s0.2.toNat))=rows w4.cells c24 from by rw[QM];first|exact N9 (E:=w4.cells) s0.1 ((a0.drop s0.2.toNat).take ((wr .i64 (s0.2+((get l0 k0).keep))).toNat-s0.2.toNat))|simp only[go_sem,rows,List.map_append,List.map_cons,List.map_nil])
   have fy:=fa fy (show s0.1.length+((a0.drop s0.2.toNat).take ((wr .i64 (s0.2+((get l0 k0).keep))).toNat-s0.2.toNat)).length=c24.length from by rw[QM];simp)
   obtain⟨fx,h⟩:=ck fx h
   refine r1 ?_
   obtain⟨c29,QN,h⟩:=mO h
   have fy:=(show rows w4.cells c24++rows w4.cells ((get l0 k0).put)=rows w4.cells c29 from by rw[QN];first|exact N9 (E:=w4.cells) c24 ((get l0 k0).put)|simp only[go_sem,rows,List.map_append,List.map_cons,List.map_nil])
   have fy:=fa fy (show c24.length+((get l0 k0).put).length=c29.length from by rw[QN];simp)
   obtain⟨fx,h⟩:=ck fx h
   refine r1 ?_
   refine rn ?_
   cases h
   exact aT ((gs0+1)+1) (bu hsc)
 ·refine cf ?_
  refine X5 ?_;simp only[go_sem,fx]
  exact⟨gs0,(bu hsc)⟩
 ·try simp only[go_sem,fx]
  unfold cA at h
  refine K6 hb ?_
  refine rr ?_
  exact fuo (.tup [.sl false 10 152 (rows w4.cells t0.1),.bool (decide (t0.2=(↑a0.length:Int)))]) (.tup _ _ (.cons _ _ _ _ (.ref _ _ _ _ _ _ _ _ _ (qp.trans rfl) yW (by decide) (lQ _) (by simp only[go_sem])) (.cons _ _ _ _ .s .nil)) rfl) h hsc (hr:=by rintro rfl;exact⟨rfl,N6 (by simp[oM])⟩)
theorem rC(a0:(List x7))(l0:(List w9))(r:(List x7)×Bool)(h:dU a0 l0=some r):∀(st:St) (o0 q0:Nat) (hnd: [o0].Nodup) (oM:Am.look st o0=some (.arr q0 3 40 (rows w9.cells l0))),Am.Spec Tryz.prog gl 27 [.sl false 9 144 (rows x7.cells a0),.ref false o0 q0 0 l0.length] st (fun d st'=>d= .tup [.sl false 9 144 (rows x7.cells r.1),.bool r.2]∧st'=puts st []):=by
 intro st o0 q0 hnd oM
 unfold dU at h
 have ho0:=cE oM
 have fx:=idf ho0
 refine fb 52 [.tmp 4,.tmp 5] [0,1,4,5,6,7,9,10,11,12,13,25] Tryz.func27 fun hsc=>?_
 refine lZ (s':=(Z4 st [(o0,(.arr q0 3 40 (rows w9.cells l0)))])) (N6 (by simp[oM])) ?_
 refine r0 ?_
 refine r0 ?_
 refine r0 ?_
 refine r0 ?_
 (repeat apply sq_)
 refine cY 9 144 ?_
 try simp only[List.append_assoc,List.cons_append,List.nil_append]
 refine K6 (F:=[(0,.sl false 9 144 (rows x7.cells a0)),(6,.ref false st.length 0 0 0),(7,.int .i64 0),(10,.ref false o0 q0 0 l0.length),(11,.int .i64 (↑l0.length:Int)),(12,.int .i64 0)]) (T:=(Z4 st [(o0,(.arr q0 3 40 (rows w9.cells l0)))])++[some (.arr 0 9 144 (rows x7.cells []))]) (Ia (by simp) (pz hsc (by simp<;>omega)) (.lv (.nil _)) (by simp<;>omega) ⟨.s,.nref _ _ _ _ _ _ (qp.trans rfl),.s,.s,.s,.s,trivial⟩ (by simp<;>omega)) ?_
 obtain⟨fx,h⟩:=ck fx h
 (repeat apply sq_)
 refine rng (body:=dH a0 l0) (kk:=dI a0) (n:=l0.length) (s0:=([],0))
  (fun(gs0:Nat) (k0:Nat) (s0:(List x7)×Int)=>[(0,.sl false 9 144 (rows x7.cells a0)),(6,.ref false st.length gs0 0 s0.1.length),(7,.int .i64 s0.2),(10,.ref false o0 q0 0 l0.length),(11,.int .i64 (↑l0.length:Int)),(12,.int .i64 (↑k0:Int))])
  (fun(gs0:Nat) (k0:Nat) (s0:(List x7)×Int)=>(Z4 st [(o0,(.arr q0 3 40 (rows w9.cells l0)))])++[some (.arr gs0 9 144 (rows x7.cells s0.1))])
  (fun(gt0:Nat) (t0:(List x7)×Int)=>[(0,.sl false 9 144 (rows x7.cells a0)),(6,.ref false st.length gt0 0 t0.1.length),(7,.int .i64 t0.2)])
  (fun(gt0:Nat) (t0:(List x7)×Int)=>(Z4 st [(o0,(.arr q0 3 40 (rows w9.cells l0)))])++[some (.arr gt0 9 144 (rows x7.cells t0.1))])
  0 fx fx.2 h (bu hsc)
  (fun gs0 k0 s0 b0 fx h hx0=>?_) (fun gs0 s0=>?_) (fun gt0 t0 fr1 st1 h hb=>?_)
 ·unfold dH at h
  refine ct ?_
  refine r0 ?_
  refine r0 ?_
  have fy:=(show(rows w9.cells l0).getD k0 []=w9.cells (get l0 k0)from oP (E:=w9.cells) (l:=l0) (k:=k0) (by first|omega|(simp;omega)))
  have fy:=fa fy (show k0<l0.length from by first|omega|(simp;omega))
  refine r1 ?_
  refine cd h (fun hc h=>?_) fun hc h=>?_
  ·refine ra ?_
   cases h
   refine D4 ?_;have h:=congrArg some (hx0 _ rfl)
   refine rr ?_
   exact fuo (.tup [.sl false 9 144 (rows x7.cells []),.bool false]) (.tup _ _ (.cons _ _ _ _ (.B3 _ _ _ (by decide)) (.cons _ _ _ _ .s .nil)) rfl) h hsc (hr:=by rintro rfl;exact⟨rfl,N6 (by simp[oM])⟩)
  ·refine r0 ?_
   obtain⟨fx,h⟩:=ck fx h
   obtain⟨c24,QM,h⟩:=mO h
   have fy:=(show rows x7.cells s0.1++rows x7.cells ((a0.drop s0.2.toNat).take ((wr .i64 (s0.2+((get l0 k0).keep))).toNat-s0.2.toNat))=rows x7.cells c24 from by rw[QM];first|exact N9 (E:=x7.cells) s0.1 ((a0.drop s0.2.toNat).take ((wr .i64 (s0.2+((get l0 k0).keep))).toNat-s0.2.toNat))|simp only[go_sem,rows,List.map_append,List.map_cons,List.map_nil])
   have fy:=fa fy (show s0.1.length+((a0.drop s0.2.toNat).take ((wr .i64 (s0.2+((get l0 k0).keep))).toNat-s0.2.toNat)).length=c24.length from by rw[QM];simp)
   obtain⟨fx,h⟩:=ck fx h
   refine r1 ?_
   obtain⟨c29,QN,h⟩:=mO h
   have fy:=(show rows x7.cells c24++rows x7.cells ((get l0 k0).put)=rows x7.cells c29 from by rw[QN];first|exact N9 (E:=x7.cells) c24 ((get l0 k0).put)|simp only[go_sem,rows,List.map_append,List.map_cons,List.map_nil])
   have fy:=fa fy (show c24.length+((get l0 k0).put).length=c29.length from by rw[QN];simp)
   obtain⟨fx,h⟩:=ck fx h
   refine r1 ?_
   refine rn ?_
   cases h
   exact aT ((gs0+1)+1) (bu hsc)
 ·refine cf ?_
  refine X5 ?_;simp only[go_sem,fx]
  exact⟨gs0,(bu hsc)⟩
 ·try simp only[go_sem,fx]
  unfold dI at h
  refine K6 hb ?_
  refine rr ?_
  exact fuo (.tup [.sl false 9 144 (rows x7.cells t0.1),.bool (decide (t0.2=(↑a0.length:Int)))]) (.tup _ _ (.cons _ _ _ _ (.ref _ _ _ _ _ _ _ _ _ (qp.trans rfl) yW (by decide) (lQ _) (by simp only[go_sem])) (.cons _ _ _ _ .s .nil)) rfl) h hsc (hr:=by rintro rfl;exact⟨rfl,N6 (by simp[oM])⟩)
theorem CU(n:Nat)(a0:x9)(r:x9)(h:pJ n a0=some r):Pure Tryz.prog gl 29 [.agg [.sl false 2 40 (rows w8.cells a0.hierarchy.types),.sl false 3 32 (rows y3.cells a0.hierarchy.B1),.sl false 10 152 (rows w4.cells a0.rules),.sl false 9 144 (rows x7.cells a0.y9),.sl false 2 32 (rows x5.cells a0.start.nodes)]] (.agg [.sl false 2 40 (rows w8.cells r.hierarchy.types),.sl false 3 32 (rows y3.cells r.hierarchy.B1),.sl false 10 152 (rows w4.cells r.rules),.sl false 9 144 (rows x7.cells r.y9),.sl false 2 32 (rows x5.cells r.start.nodes)]):=by
 intro st
 unfold pJ at h
 have fx:=trivial
 refine fb 46 [.cell 2 32] [0,1,2,3,5,7,16,17,18,19,31,32,33,34] Tryz.func29 fun hsc=>?_
 refine rn ?_
 refine dw [] 1 ?_
 obtain⟨v1,hv1,h⟩:=E4 h
 refine A9 (jK _ _ hv1) ?_
 try simp only[go_sem,fx]
 obtain⟨v2,hv2,h⟩:=E4 h
 refine A9 (gg _ _ hv2) ?_
 try simp only[go_sem,fx]
 refine r0 ?_
 (repeat apply sq_)
 refine cY 10 152 ?_
 try simp only[List.append_assoc,List.cons_append,List.nil_append]
 refine K6 (F:=[(1,.ptr st.length 0 0 0),(2,.ptr (st.length+1) 0 0 0),(3,.ptr (st.length+2) 0 0 0),(16,.sl false 10 152 (rows w4.cells a0.rules)),(17,.int .i64 (↑a0.rules.length:Int)),(18,.int .i64 0)]) (T:=st++[some (.arr 0 5 0 [[.sl false 2 40 (rows w8.cells a0.hierarchy.types),.sl false 3 32 (rows y3.cells a0.hierarchy.B1),.sl false 10 152 (rows w4.cells a0.rules),.sl false 9 144 (rows x7.cells a0.y9),.sl false 2 32 (rows x5.cells a0.start.nodes)]]),some (.arr 0 5 0 [[.B3,.B3,.B3,.B3,.B3]]),some (.arr 0 5 0 [[.sl false 2 40 (rows w8.cells v1.types),.sl false 3 32 (rows y3.cells v1.B1),.ref false (st.length+3) 0 0 0,.B3,.sl false 2 32 (rows x5.cells v2.nodes)]]),some (.arr 0 10 152 (rows w4.cells []))]) (jL hsc (.lv (.lv (.live _ _ _ _ (.arr _ _ _ _ _ (.cons _ _ _ _ (.cons _ _ _ _ .s (.cons _ _ _ _ .s (.cons _ _ _ _ (.nref _ _ _ _ _ _ (iC.trans rfl)) (.cons _ _ _ _ .s (.cons _ _ _ _ .s .nil))))) (.same _))) (.lv (.nil _))))) (by simp) ⟨.s,.s,.s,.s,.s,.s,trivial⟩ (by simp)) ?_
 refine aln 16 fun hl0=>?_
 refine rng (body:=pN n a0) (kk:=mz n a0 v1 v2) (n:=a0.rules.length) (s0:=[])
  (fun(gs0:Nat) (k0:Nat) (s0:(List w4))=>[(1,.ptr st.length 0 0 0),(2,.ptr (st.length+1) 0 0 0),(3,.ptr (st.length+2) 0 0 0),(16,.sl false 10 152 (rows w4.cells a0.rules)),(17,.int .i64 (↑a0.rules.length:Int)),(18,.int .i64 (↑k0:Int))])
  (fun(gs0:Nat) (k0:Nat) (s0:(List w4))=>st++[some (.arr 0 5 0 [[.sl false 2 40 (rows w8.cells a0.hierarchy.types),.sl false 3 32 (rows y3.cells a0.hierarchy.B1),.sl false 10 152 (rows w4.cells a0.rules),.sl false 9 144 (rows x7.cells a0.y9),.sl false 2 32 (rows x5.cells a0.start.nodes)]]),some (.arr 0 5 0 [[.B3,.B3,.B3,.B3,.B3]]),some (.arr 0 5 0 [[.sl false 2 40 (rows w8.cells v1.types),.sl false 3 32 (rows y3.cells v1.B1),.ref false (st.length+3) gs0 0 s0.length,.B3,.sl false 2 32 (rows x5.cells v2.nodes)]]),some (.arr gs0 10 152 (rows w4.cells s0))])
  (fun(gt0:Nat) (t0:(List w4))=>[(1,.ptr st.length 0 0 0),(2,.ptr (st.length+1) 0 0 0),(3,.ptr (st.length+2) 0 0 0)])
  (fun(gt0:Nat) (t0:(List w4))=>st++[some (.arr 0 5 0 [[.sl false 2 40 (rows w8.cells a0.hierarchy.types),.sl false 3 32 (rows y3.cells a0.hierarchy.B1),.sl false 10 152 (rows w4.cells a0.rules),.sl false 9 144 (rows x7.cells a0.y9),.sl false 2 32 (rows x5.cells a0.start.nodes)]]),some (.arr 0 5 0 [[.B3,.B3,.B3,.B3,.B3]]),some (.arr 0 5 0 [[.sl false 2 40 (rows w8.cells v1.types),.sl false 3 32 (rows y3.cells v1.B1),.ref false (st.length+3) gt0 0 t0.length,.B3,.sl false 2 32 (rows x5.cells v2.nodes)]]),some (.arr gt0 10 152 (rows w4.cells t0))])
  0 fx hl0 h (bm hsc)
  (fun gs0 k0 s0 b0 fx h hx0=>?_) (fun gs0 s0=>?_) (fun gt0 t0 fr1 st1 h hb=>?_)
 ·unfold pN at h
  refine ct ?_
  refine rn ?_
  refine dw [] 2 ?_
  obtain⟨v10,hv10,h⟩:=E4 h
  refine A9 (oJ n _ _ hv10) ?_
  obtain⟨c12,TS,h⟩:=mO h
  have fy:=(show rows w4.cells s0++[[.str v10.name,.sl false 2 32 (rows x5.cells v10.graph.nodes),.int .i64 v10.kids,.int .i64 v10.weight,.int .i64 v10.meaning.kind,.str v10.meaning.name,.int .i64 v10.meaning.index,.str v10.meaning.type.base,.sl false 2 40 (rows u0.cells v10.meaning.type.args),.sl false 6 96 (rows w6.cells v10.meaning.args)]]=rows w4.cells c12 from by rw[TS];first|exact N9 (E:=w4.cells) s0 [v10]|simp only[go_sem,rows,List.map_append,List.map_cons,List.map_nil])
  have fy:=fa fy (show s0.length+1=c12.length from by rw[TS];simp)
  obtain⟨fx,h⟩:=ck fx h
  try simp only[go_sem,fx,fy]
  refine rn ?_
  cases h
  exact aT (gs0+1) (bm hsc)
 ·refine cf ?_
  refine X5 ?_;simp only[go_sem,fx]
  exact⟨gs0,(bm hsc)⟩
 ·try simp only[go_sem,fx]
  unfold mz at h
  refine K6 hb ?_
  refine r0 ?_
  (repeat apply sq_)
  refine cY 9 144 ?_
  try simp only[List.append_assoc,List.cons_append,List.nil_append]
  refine K6 (F:=[(2,.ptr (st.length+1) 0 0 0),(3,.ptr (st.length+2) 0 0 0),(31,.sl false 9 144 (rows x7.cells a0.y9)),(32,.int .i64 (↑a0.y9.length:Int)),(33,.int .i64 0)]) (T:=st++[some (.arr 0 5 0 [[.sl false 2 40 (rows w8.cells a0.hierarchy.types),.sl false 3 32 (rows y3.cells a0.hierarchy.B1),.sl false 10 152 (rows w4.cells a0.rules),.sl false 9 144 (rows x7.cells a0.y9),.sl false 2 32 (rows x5.cells a0.start.nodes)]]),some (.arr 0 5 0 [[.B3,.B3,.B3,.B3,.B3]]),some (.arr 0 5 0 [[.sl false 2 40 (rows w8.cells v1.types),.sl false 3 32 (rows y3.cells v1.B1),.ref false (st.length+3) gt0 0 t0.length,.ref false (st.length+4) 0 0 0,.sl false 2 32 (rows x5.cells v2.nodes)]]),some (.arr gt0 10 152 (rows w4.cells t0)),some (.arr 0 9 144 (rows x7.cells []))]) (jL hsc (.lv (.lv (.live _ _ _ _ (.arr _ _ _ _ _ (.cons _ _ _ _ (.cons _ _ _ _ .s (.cons _ _ _ _ .s (.cons _ _ _ _ .s (.cons _ _ _ _ (.nref _ _ _ _ _ _ (iC.trans rfl)) (.cons _ _ _ _ .s .nil))))) (.same _))) (.lv (.lv (.nil _)))))) (by simp) ⟨.s,.s,.s,.s,.s,trivial⟩ (by simp)) ?_
  refine aln 31 fun hl1=>?_
  refine rng (body:=pO n a0) (kk:=pP v1 t0 v2) (n:=a0.y9.length) (s0:=[])
   (fun(gs1:Nat) (k1:Nat) (s1:(List x7))=>[(2,.ptr (st.length+1) 0 0 0),(3,.ptr (st.length+2) 0 0 0),(31,.sl false 9 144 (rows x7.cells a0.y9)),(32,.int .i64 (↑a0.y9.length:Int)),(33,.int .i64 (↑k1:Int))])
   (fun(gs1:Nat) (k1:Nat) (s1:(List x7))=>st++[none,some (.arr 0 5 0 [[.B3,.B3,.B3,.B3,.B3]]),some (.arr 0 5 0 [[.sl false 2 40 (rows w8.cells v1.types),.sl false 3 32 (rows y3.cells v1.B1),.ref false (st.length+3) gt0 0 t0.length,.ref false (st.length+4) gs1 0 s1.length,.sl false 2 32 (rows x5.cells v2.nodes)]]),some (.arr gt0 10 152 (rows w4.cells t0)),some (.arr gs1 9 144 (rows x7.cells s1))])
   (fun(gt1:Nat) (t1:(List x7))=>[(2,.ptr (st.length+1) 0 0 0),(3,.ptr (st.length+2) 0 0 0)])
   (fun(gt1:Nat) (t1:(List x7))=>st++[none,some (.arr 0 5 0 [[.B3,.B3,.B3,.B3,.B3]]),some (.arr 0 5 0 [[.sl false 2 40 (rows w8.cells v1.types),.sl false 3 32 (rows y3.cells v1.B1),.ref false (st.length+3) gt0 0 t0.length,.ref false (st.length+4) gt1 0 t1.length,.sl false 2 32 (rows x5.cells v2.nodes)]]),some (.arr gt0 10 152 (rows w4.cells t0)),some (.arr gt1 9 144 (rows x7.cells t1))])
   0 fx hl1 h (bm hsc)
   (fun gs1 k1 s1 b1 fx h hx1=>?_) (fun gs1 s1=>?_) (fun gt1 t1 fr1 st1 h hb=>?_)
  ·unfold pO at h
   refine ct ?_
   refine rn ?_
   refine dw [] 2 ?_
   obtain⟨v24,hv24,h⟩:=E4 h
   refine A9 (qd n _ _ hv24) ?_
   obtain⟨c26,TT,h⟩:=mO h
   have fy:=(show rows x7.cells s1++[[.str v24.word,.sl false 2 32 (rows x5.cells v24.graph.nodes),.int .i64 v24.weight,.int .i64 v24.meaning.kind,.str v24.meaning.name,.int .i64 v24.meaning.index,.str v24.meaning.type.base,.sl false 2 40 (rows u0.cells v24.meaning.type.args),.sl false 6 96 (rows w6.cells v24.meaning.args)]]=rows x7.cells c26 from by rw[TT];first|exact N9 (E:=x7.cells) s1 [v24]|simp only[go_sem,rows,List.map_append,List.map_cons,List.map_nil])
   have fy:=fa fy (show s1.length+1=c26.length from by rw[TT];simp)
   obtain⟨fx,h⟩:=ck fx h
   try simp only[go_sem,fx,fy]
   refine rn ?_
   cases h
   exact aT (gs1+1) (bm hsc)
  ·refine cf ?_
   refine X5 ?_;simp only[go_sem,fx]
   exact⟨gs1,(bm hsc)⟩
  ·try simp only[go_sem,fx]
   unfold pP at h
   refine K6 hb ?_
   refine rr ?_
   exact fo (.agg [.sl false 2 40 (rows w8.cells v1.types),.sl false 3 32 (rows y3.cells v1.B1),.sl false 10 152 (rows w4.cells t0),.sl false 9 144 (rows x7.cells t1),.sl false 2 32 (rows x5.cells v2.nodes)]) (.agg _ _ (.cons _ _ _ _ .s (.cons _ _ _ _ .s (.cons _ _ _ _ (.ref _ _ _ _ _ _ _ _ _ (iC.trans rfl) uX (by decide) (lQ _) (by simp only[go_sem])) (.cons _ _ _ _ (.ref _ _ _ _ _ _ _ _ _ (iC.trans rfl) uX (by decide) (lQ _) (by simp only[go_sem])) (.cons _ _ _ _ .s .nil)))))) h hsc
end Go.Proofs.YtonfgoanbllceaaGreatDoor
