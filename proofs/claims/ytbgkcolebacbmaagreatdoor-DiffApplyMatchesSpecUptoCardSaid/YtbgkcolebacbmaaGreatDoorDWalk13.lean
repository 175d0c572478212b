import Derived.Test.YtbgkcolebacbmaaGreatDoorDWalk12
set_option linter.unusedVariables false
set_option linter.unusedSimpArgs false
set_option maxHeartbeats 2000000
set_option maxRecDepth 100000
namespace Go.Proofs.YtbgkcolebacbmaaGreatDoor
open Go Go.Am
theorem nq(n:Nat)(a0:(List C2))(a1:Int)(r:Int)(h:S6 n a0 a1=some r):Pure Tryz.prog gl 120 [.sl false 7 104 (rows C2.cells a0),.int .i64 a1] (.int .i64 r):=by
 intro st
 unfold S6 at h
 have fx:=trivial
 refine fb 35 [.tmp 4] [0,1,4,5,6,18,29,31] Tryz.func120 fun hsc=>?_
 obtain⟨fx,h⟩:=ck fx h
 refine rn ?_
 refine F1 (body:=K5 a0) (kk:=cO) (n:=n) (s0:=((get a0 a1.toNat).index,(get a0 a1.toNat).up))
  (fun(gs0:Unit) (s0:Int×Int)=>[(0,.sl false 7 104 (rows C2.cells a0)),(5,.int .i64 s0.1),(6,.int .i64 s0.2)])
  (fun(gs0:Unit) (s0:Int×Int)=>st)
  (fun(gt0:Unit) (t0:Unit)=>[])
  (fun(gt0:Unit) (t0:Unit)=>st)
  () h (bX hsc)
  (fun gs0 s0 b0 h hx0=>?_) (fun gt0 t0 fr1 st1 h hb=>?_)
 ·unfold K5 at h
  refine cd h (fun hc h=>?_) fun hc h=>?_
  ·obtain⟨fx,h⟩:=ck fx h
   refine cd h (fun hc h=>?_) fun hc h=>?_
   ·refine cd h (fun hc h=>?_) fun hc h=>?_
    ·refine ra ?_
     cases h
     refine cX ?_;have h:=congrArg some (hx0 _ rfl)
     exact rt
    ·refine rn ?_
     cases h
     exact G0 () (bX hsc)
   ·refine rn ?_
    cases h
    exact G0 () (bX hsc)
  ·refine rn ?_
   cases h
   exact P0 () (bX hsc)
 ·try simp only[go_sem,fx]
  unfold cO at h
  refine K1 hb ?_
  exact rt
theorem qg(a0:u0)(a1:u0)(r:u0)(h:fA a0 a1=some r):Pure Tryz.prog gl 121 [.agg [.str a0.base,.sl false 2 40 (rows u0.cells a0.args)],.agg [.str a1.base,.sl false 2 40 (rows u0.cells a1.args)]] (.agg [.str r.base,.sl false 2 40 (rows u0.cells r.args)]):=by
 intro st
 unfold fA at h
 have fx:=trivial
 refine fb 9 [.cell 4 67] [0,1,2,3,4] Tryz.func121 fun hsc=>?_
 refine rr ?_
 exact fo (.agg [.str [],.sl false 2 40 (rows u0.cells [a0,a1])]) (.agg _ _ (.cons _ _ _ _ .s (.cons _ _ _ _ (.ref _ _ _ _ _ _ _ _ _ (fK.trans rfl) sQ (by decide) (by simp[Imm,D.imm]) (by simp only[go_sem,rows,List.map_cons,List.map_nil])) .nil))) h hsc
theorem eH:∀(n:Nat) (a0:u0) (r:Bs) (h:E8 n a0=some r),Pure Tryz.prog gl 128 [.agg [.str a0.base,.sl false 2 40 (rows u0.cells a0.args)]] (.str r):=by
 intro n
 induction n with
 |zero=>intro a0 r h;cases h
 |succ n ih=>
  intro a0 r h st
  unfold E8 at h
  have fx:=trivial
  refine fb 22 [.tmp 2] [0,1,2,5] Tryz.func128 fun hsc=>?_
  refine cd h (fun hc h=>?_) fun hc h=>?_
  ·exact rt
  ·refine rn ?_
   obtain⟨fx,h⟩:=ck fx h
   refine dw [] 0 ?_
   obtain⟨v2,hv2,h⟩:=E6 h
   refine B3 (ih _ _ hv2) ?_
   obtain⟨fx,h⟩:=ck fx h
   obtain⟨fx,h⟩:=ck fx h
   obtain⟨fx,h⟩:=ck fx h
   try simp only[go_sem,fx]
   obtain⟨v6,hv6,h⟩:=E6 h
   refine B3 (ih _ _ hv6) ?_
   obtain⟨fx,h⟩:=ck fx h
   obtain⟨fx,h⟩:=ck fx h
   try simp only[go_sem,fx]
   exact rt
theorem lJ(n:Nat)(a0:u0)(a1:u0)(r:Bool)(h:V7 n a0 a1=some r):Pure Tryz.prog gl 122 [.agg [.str a0.base,.sl false 2 40 (rows u0.cells a0.args)],.agg [.str a1.base,.sl false 2 40 (rows u0.cells a1.args)]] (.bool r):=by
 intro st
 unfold V7 at h
 have fx:=trivial
 refine fb 10 [.tmp 4] [0,1,2,3,4] Tryz.func122 fun hsc=>?_
 refine rn ?_
 refine dw [] 0 ?_
 obtain⟨v1,hv1,h⟩:=E6 h
 refine B3 (eH n _ _ hv1) ?_
 try simp only[go_sem,fx]
 obtain⟨v2,hv2,h⟩:=E6 h
 refine B3 (eH n _ _ hv2) ?_
 try simp only[go_sem,fx]
 exact rt
theorem nu(n:Nat)(a0:w7)(r:u0×Bool)(h:X6 n a0=some r):Pure Tryz.prog gl 110 [.agg [.int .i64 a0.kind,.str a0.name,.int .i64 a0.index,.str a0.type.base,.sl false 2 40 (rows u0.cells a0.type.args),.sl false 6 96 (rows w7.cells a0.args)]] (.tup [.agg [.str r.1.base,.sl false 2 40 (rows u0.cells r.1.args)],.bool r.2]):=by
 intro st
 unfold X6 at h
 have fx:=trivial
 refine fb 107 [.cell 2 67,.tmp 3] [0,1,2,3,4,5,6,7,8,9,19,27,28,35,47,62,82,83,84,85,88,89,90,91,92,93,94,95] Tryz.func110 fun hsc=>?_
 obtain⟨v1,hv1,h⟩:=E6 h
 refine r0 ?_
 (repeat apply sq_)
 refine bW 7 104 ?_
 try simp only[List.append_assoc,List.cons_append,List.nil_append]
 refine rn ?_
 refine((Lz n _ _ 0 _ hv1 _ (st.length+2) 0 [] rfl (cQ.trans rfl)).up (.cons _ _ _ _ .s (.cons _ _ _ _ .s (.cons _ _ _ _ (.nref _ _ _ _ _ _ (fK.trans rfl)) .nil))) (by simp)).mono ?_
 rintro d1 st1 ⟨g2,E2,N2,rfl,rfl,Hl⟩
 try simp only[go_sem,fx,bp,Nat.zero_add]
 refine yC (fr':=[(1,.ptr st.length 0 0 0),(2,.ptr (st.length+1) 0 0 0),(3,.bool false),(4,.ref false (st.length+2) g2 0 v1.length)]) ⟨rfl,rfl,rfl,rfl,trivial⟩ ?_
 refine K1 (Jj (F:=[(1,.ptr st.length 0 0 0),(2,.ptr (st.length+1) 0 0 0),(3,.bool false),(4,.sl false 7 104 (rows C2.cells v1))]) hsc (by simpa using Hl) (by simp) (fun _ _=>⟨.s,.s,.s,.s,trivial⟩) (fun _ _ u=>⟨.s,.s,.s,u,trivial⟩) (by simp) (by simp)) ?_
 obtain⟨fx,h⟩:=ck fx h
 refine r0 ?_
 (repeat apply sq_)
 refine K1 (F:=[(2,.ptr (st.length+1) 0 0 0),(4,.sl false 7 104 (rows C2.cells v1)),(5,.ref true (st.length+2) 0 0 v1.length)]) (T:=st++[some (.arr 0 6 0 [[.int .i64 a0.kind,.str a0.name,.int .i64 a0.index,.str a0.type.base,.sl false 2 40 (rows u0.cells a0.type.args),.sl false 6 96 (rows w7.cells a0.args)]]),some (.arr 0 2 0 [[.str [],.B0]]),some (.arr 0 2 40 (rows u0.cells (List.replicate v1.length (default:u0))))]) (jx hsc (.lv (.lv (.live _ _ _ _ (.arr _ _ _ _ _ (Nk (by rw[u0.D7];exact(.cons _ _ _ _ .s (.cons _ _ _ _ (.B0 _ _ _ (by decide)) .nil))))) (.nil _)))) (by simp) ⟨.s,.s,.s,trivial⟩ (by simp)) ?_
 refine rn ?_
 refine F1 (body:=N9 n v1) (kk:=Y5) (n:=n) (s0:=((List.replicate v1.length (default:u0)),(wr .i64 ((↑v1.length:Int)-1))))
  (fun(gs0:Nat) (s0:(List u0)×Int)=>[(2,.ptr (st.length+1) 0 0 0),(4,.sl false 7 104 (rows C2.cells v1)),(5,.ref true (st.length+2) gs0 0 s0.1.length),(6,.int .i64 s0.2)])
  (fun(gs0:Nat) (s0:(List u0)×Int)=>st++[none,some (.arr 0 2 0 [[.str [],.B0]]),some (.arr gs0 2 40 (rows u0.cells s0.1))])
  (fun(gt0:Nat) (t0:(List u0))=>[(2,.ptr (st.length+1) 0 0 0),(5,.ref true (st.length+2) gt0 0 t0.length)])
  (fun(gt0:Nat) (t0:(List u0))=>st++[none,some (.arr 0 2 0 [[.str [],.B0]]),some (.arr gt0 2 40 (rows u0.cells t0))])
  0 h (bm hsc (hf:=⟨.s,.s,nF (by first|(simp;done)|simp[Fr.get]),.s,trivial⟩))
  (fun gs0 s0 b0 h hx0=>?_) (fun gt0 t0 fr1 st1 h hb=>?_)
 ·unfold N9 at h
  refine cd h (fun hc h=>?_) fun hc h=>?_
  ·obtain⟨fx,h⟩:=ck fx h
   refine cd h (fun hc h=>?_) fun hc h=>?_
   ·obtain⟨fx,h⟩:=ck fx h
    have fy:=(show(rows u0.cells s0.1).getD s0.2.toNat []=u0.cells (get s0.1 s0.2.toNat)from pS (E:=u0.cells) (l:=s0.1) (k:=s0.2.toNat) (by first|omega|(simp;omega)))
    have fy:=fa fy (show s0.2.toNat<s0.1.length from by first|omega|(simp;omega))
    obtain⟨c54,Rg,h⟩:=lR h
    have fy:=fa fy (show(rows u0.cells s0.1).set s0.2.toNat [.str ((get v1 s0.2.toNat).typ.base),.sl false 2 40 (rows u0.cells ((get v1 s0.2.toNat).typ.args))]=rows u0.cells c54 from by rw[Rg];first|exact Da (E:=u0.cells) _ _ _|simp only[go_sem,rows,List.map_set])
    refine r1 ?_
    have e56:D.ref true (st.length+2) gs0 0 s0.1.length=D.ref true (st.length+2) gs0 0 c54.length:=by simp[Rg]
    simp only[e56]
    refine rn ?_
    cases h
    exact G0 gs0 (bm hsc)
   ·refine cd h (fun hc h=>?_) fun hc h=>?_
    ·refine cl h (nq n _ _) fun v57 h=>?_
     obtain⟨fx,h⟩:=ck fx h
     obtain⟨fx,h⟩:=ck fx h
     have fy:=(show(rows u0.cells s0.1).getD s0.2.toNat []=u0.cells (get s0.1 s0.2.toNat)from pS (E:=u0.cells) (l:=s0.1) (k:=s0.2.toNat) (by first|omega|(simp;omega)))
     have fy:=fa fy (show s0.2.toNat<s0.1.length from by first|omega|(simp;omega))
     obtain⟨c63,Rh,h⟩:=lR h
     have fy:=fa fy (show(rows u0.cells s0.1).set s0.2.toNat [.str ((get v1 v57.toNat).typ.base),.sl false 2 40 (rows u0.cells ((get v1 v57.toNat).typ.args))]=rows u0.cells c63 from by rw[Rh];first|exact Da (E:=u0.cells) _ _ _|simp only[go_sem,rows,List.map_set])
     try simp only[go_sem,fx,fy]
     have e65:D.ref true (st.length+2) gs0 0 s0.1.length=D.ref true (st.length+2) gs0 0 c63.length:=by simp[Rh]
     simp only[e65]
     refine rn ?_
     cases h
     exact G0 gs0 (bm hsc)
    ·refine cd h (fun hc h=>?_) fun hc h=>?_
     ·refine rs ?_
      obtain⟨fx,h⟩:=ck fx h
      obtain⟨fx,h⟩:=ck fx h
      have fy:=(show(rows u0.cells s0.1).getD ((get ((get v1 s0.2.toNat).kids) 0).toNat) []=u0.cells (get s0.1 ((get ((get v1 s0.2.toNat).kids) 0).toNat))from pS (E:=u0.cells) (l:=s0.1) (k:=(get ((get v1 s0.2.toNat).kids) 0).toNat) (by first|omega|(simp;omega)))
      have fy:=fa fy (show(get ((get v1 s0.2.toNat).kids) 0).toNat<s0.1.length from by first|omega|(simp;omega))
      refine dwy [] 0 ?_
      obtain⟨v71,hv71,h⟩:=E6 h
      refine B3 (qg _ _ _ hv71) ?_
      obtain⟨fx,h⟩:=ck fx h
      have fy:=fa fy (show(rows u0.cells s0.1).getD s0.2.toNat []=u0.cells (get s0.1 s0.2.toNat)from pS (E:=u0.cells) (l:=s0.1) (k:=s0.2.toNat) (by first|omega|(simp;omega)))
      have fy:=fa fy (show s0.2.toNat<s0.1.length from by first|omega|(simp;omega))
      obtain⟨c75,Ri,h⟩:=lR h
      have fy:=fa fy (show(rows u0.cells s0.1).set s0.2.toNat [.str v71.base,.sl false 2 40 (rows u0.cells v71.args)]=rows u0.cells c75 from by rw[Ri];first|exact Da (E:=u0.cells) _ _ _|simp only[go_sem,rows,List.map_set])
      try simp only[go_sem,fx,fy]
      have e77:D.ref true (st.length+2) gs0 0 s0.1.length=D.ref true (st.length+2) gs0 0 c75.length:=by simp[Ri]
      simp only[e77]
      refine rn ?_
      cases h
      exact G0 gs0 (bm hsc)
     ·refine cd h (fun hc h=>?_) fun hc h=>?_
      ·refine rs ?_
       obtain⟨fx,h⟩:=ck fx h
       obtain⟨fx,h⟩:=ck fx h
       have fy:=(show(rows u0.cells s0.1).getD ((get ((get v1 s0.2.toNat).kids) 0).toNat) []=u0.cells (get s0.1 ((get ((get v1 s0.2.toNat).kids) 0).toNat))from pS (E:=u0.cells) (l:=s0.1) (k:=(get ((get v1 s0.2.toNat).kids) 0).toNat) (by first|omega|(simp;omega)))
       have fy:=fa fy (show(get ((get v1 s0.2.toNat).kids) 0).toNat<s0.1.length from by first|omega|(simp;omega))
       obtain⟨fx,h⟩:=ck fx h
       obtain⟨fx,h⟩:=ck fx h
       have fy:=fa fy (show(rows u0.cells s0.1).getD ((get ((get v1 s0.2.toNat).kids) 1).toNat) []=u0.cells (get s0.1 ((get ((get v1 s0.2.toNat).kids) 1).toNat))from pS (E:=u0.cells) (l:=s0.1) (k:=(get ((get v1 s0.2.toNat).kids) 1).toNat) (by first|omega|(simp;omega)))
       have fy:=fa fy (show(get ((get v1 s0.2.toNat).kids) 1).toNat<s0.1.length from by first|omega|(simp;omega))
       refine dwy [9,10,11,12,13,16] 2 ?_
       try refine⟨by(simp<;>omega),?_⟩
       refine rs ?_
       obtain⟨fx,h⟩:=ck fx h
       refine dw [] 0 ?_
       obtain⟨v90,hv90,h⟩:=E6 h
       refine bG (fun hG=>(lJ n _ _ _ (kH hv90 (by simpa using hG)))) ?_
       try simp only[go_sem,fx]
       refine cd h (fun hc h=>?_) fun hc h=>?_
       ·refine ra ?_
        cases h
        refine cX ?_;have h:=congrArg some (hx0 _ rfl)
        refine rr ?_
        exact fo (.tup [.agg [.str [],.sl false 2 40 (rows u0.cells [])],.bool false]) (.tup _ _ (.cons _ _ _ _ (.agg _ _ (.cons _ _ _ _ .s (.cons _ _ _ _ (.B0 _ _ _ (by decide)) .nil))) (.cons _ _ _ _ .s .nil)) rfl) h hsc
       ·refine r0 ?_
        obtain⟨fx,h⟩:=ck fx h
        obtain⟨fx,h⟩:=ck fx h
        have fy:=(show(rows u0.cells s0.1).getD s0.2.toNat []=u0.cells (get s0.1 s0.2.toNat)from pS (E:=u0.cells) (l:=s0.1) (k:=s0.2.toNat) (by first|omega|(simp;omega)))
        have fy:=fa fy (show s0.2.toNat<s0.1.length from by first|omega|(simp;omega))
        obtain⟨c95,Rj,h⟩:=lR h
        have fy:=fa fy (show(rows u0.cells s0.1).set s0.2.toNat [.str ((get ((get s0.1 ((get ((get v1 s0.2.toNat).kids) 0).toNat)).args) 1).base),.sl false 2 40 (rows u0.cells ((get ((get s0.1 ((get ((get v1 s0.2.toNat).kids) 0).toNat)).args) 1).args))]=rows u0.cells c95 from by rw[Rj];first|exact Da (E:=u0.cells) _ _ _|simp only[go_sem,rows,List.map_set])
        refine r1 ?_
        have e97:D.ref true (st.length+2) gs0 0 s0.1.length=D.ref true (st.length+2) gs0 0 c95.length:=by simp[Rj]
        simp only[e97]
        refine rn ?_
        cases h
        exact G0 gs0 (bm hsc)
      ·refine rn ?_
       cases h
       exact G0 gs0 (bm hsc)
  ·refine rn ?_
   cases h
   exact P0 gs0 (bm hsc)
 ·try simp only[go_sem,fx]
  unfold Y5 at h
  refine K1 hb ?_
  obtain⟨fx,h⟩:=ck fx h
  have fy:=(show(rows u0.cells t0).getD 0 []=u0.cells (get t0 0)from pS (E:=u0.cells) (l:=t0) (k:=0) (by first|omega|(simp;omega)))
  have fy:=fa fy (show 0<t0.length from by first|omega|(simp;omega))
  refine r1 ?_
  exact rt
theorem lA(n:Nat)(a0:w7)(r:w9)(h:S7 n a0=some r):Pure Tryz.prog gl 90 [.agg [.int .i64 a0.kind,.str a0.name,.int .i64 a0.index,.str a0.type.base,.sl false 2 40 (rows u0.cells a0.type.args),.sl false 6 96 (rows w7.cells a0.args)]] (.agg [.int .i64 r.code,.int .i64 r.index]):=by
 intro st
 unfold S7 at h
 have fx:=trivial
 refine fb 177 [.cell 2 41] [0,1,2,3,4,5,6,7,8,9,10,11,13,19,38,39,40,41,46,47,48,49,61,62,63,64,65,66,67,68,71,72,73,74,75,76,77,78,81,82,83,84,85,86,87,88,89,90,91,92,93,96,101,102,103,104,105,110,111,112,115,116,117,118,119,124,125,126,127,128,129,130,131,132,133,134,136,144,152,174] Tryz.func90 fun hsc=>?_
 refine rn ?_
 refine F1 (body:=C7 n) (kk:=V8 n a0) (n:=n) (s0:=([(y5.mk a0 1 0)],0,1))
  (fun(gs0:Nat) (s0:(List y5)×Int×Nat)=>[(1,.ptr st.length 0 0 0),(2,.ptr (st.length+1) 0 0 0),(3,.ref false (st.length+2) gs0 0 s0.2.2),(4,.int .i64 s0.2.1)])
  (fun(gs0:Nat) (s0:(List y5)×Int×Nat)=>st++[some (.arr 0 6 0 [[.int .i64 a0.kind,.str a0.name,.int .i64 a0.index,.str a0.type.base,.sl false 2 40 (rows u0.cells a0.type.args),.sl false 6 96 (rows w7.cells a0.args)]]),some (.arr 0 2 0 [[.int .i64 0,.int .i64 0]]),some (.arr gs0 8 112 (rows y5.cells s0.1))])
  (fun(gt0:Unit) (t0:Unit)=>[(1,.ptr st.length 0 0 0),(2,.ptr (st.length+1) 0 0 0)])
  (fun(gt0:Unit) (t0:Unit)=>st++[some (.arr 0 6 0 [[.int .i64 a0.kind,.str a0.name,.int .i64 a0.index,.str a0.type.base,.sl false 2 40 (rows u0.cells a0.type.args),.sl false 6 96 (rows w7.cells a0.args)]]),some (.arr 0 2 0 [[.int .i64 0,.int .i64 0]])])
  0 h (bm hsc)
  (fun gs0 s0 b0 h hx0=>?_) (fun gt0 t0 fr1 st1 h hb=>?_)
 ·unfold C7 at h
  refine cd h (fun hc h=>?_) fun hc h=>?_
  ·refine r0 ?_
   refine r0 ?_
   obtain⟨fx,h⟩:=ck fx h
   obtain⟨fx,h⟩:=ck fx h
   have fy:=(show(rows y5.cells s0.1).getD ((wr .i64 ((↑s0.2.2:Int)-1)).toNat) []=y5.cells (get s0.1 ((wr .i64 ((↑s0.2.2:Int)-1)).toNat))from pS (E:=y5.cells) (l:=s0.1) (k:=(wr .i64 ((↑s0.2.2:Int)-1)).toNat) (by first|omega|(simp;omega)))
   have fy:=fa fy (show(wr .i64 ((↑s0.2.2:Int)-1)).toNat<s0.1.length from by first|omega|(simp;omega))
   refine r1 ?_
   obtain⟨fx,h⟩:=ck fx h
   refine rn ?_
   refine jP (D1 n s0) b0 (fun(gj4:Unit) (j4:Int)=>[(1,.ptr st.length 0 0 0),(2,.ptr (st.length+1) 0 0 0),(3,.ref false (st.length+2) gs0 0 ((wr .i64 ((↑s0.2.2:Int)-1)).toNat)),(4,.int .i64 s0.2.1),(5,.ptr (st.length+3) 0 0 0),(6,.ptr (st.length+4) 0 0 0),(7,.int .i64 j4)]) (fun(gj4:Unit) (j4:Int)=>st++[some (.arr 0 6 0 [[.int .i64 a0.kind,.str a0.name,.int .i64 a0.index,.str a0.type.base,.sl false 2 40 (rows u0.cells a0.type.args),.sl false 6 96 (rows w7.cells a0.args)]]),some (.arr 0 2 0 [[.int .i64 0,.int .i64 0]]),some (.arr gs0 8 112 (rows y5.cells s0.1)),some (.arr 0 8 0 [[.int .i64 ((get s0.1 ((wr .i64 ((↑s0.2.2:Int)-1)).toNat)).t.kind),.str ((get s0.1 ((wr .i64 ((↑s0.2.2:Int)-1)).toNat)).t.name),.int .i64 ((get s0.1 ((wr .i64 ((↑s0.2.2:Int)-1)).toNat)).t.index),.str ((get s0.1 ((wr .i64 ((↑s0.2.2:Int)-1)).toNat)).t.type.base),.sl false 2 40 (rows u0.cells ((get s0.1 ((wr .i64 ((↑s0.2.2:Int)-1)).toNat)).t.type.args)),.sl false 6 96 (rows w7.cells ((get s0.1 ((wr .i64 ((↑s0.2.2:Int)-1)).toNat)).t.args)),.int .i64 ((get s0.1 ((wr .i64 ((↑s0.2.2:Int)-1)).toNat)).depth),.int .i64 ((get s0.1 ((wr .i64 ((↑s0.2.2:Int)-1)).toNat)).bound)]]),some (.arr 0 6 0 [[.int .i64 ((get s0.1 ((wr .i64 ((↑s0.2.2:Int)-1)).toNat)).t.kind),.str ((get s0.1 ((wr .i64 ((↑s0.2.2:Int)-1)).toNat)).t.name),.int .i64 ((get s0.1 ((wr .i64 ((↑s0.2.2:Int)-1)).toNat)).t.index),.str ((get s0.1 ((wr .i64 ((↑s0.2.2:Int)-1)).toNat)).t.type.base),.sl false 2 40 (rows u0.cells ((get s0.1 ((wr .i64 ((↑s0.2.2:Int)-1)).toNat)).t.type.args)),.sl false 6 96 (rows w7.cells ((get s0.1 ((wr .i64 ((↑s0.2.2:Int)-1)).toNat)).t.args))]])]) (fun gj4 j4 fr1 st1 h hb=>?_) (fun hj4=>?_)
   ·try simp only[go_sem,fx]
    unfold D1 at h
    refine K1 hb ?_
    refine cd h (fun hc h=>?_) fun hc h=>?_
    ·refine ra ?_
     cases h
     refine cX ?_;have h:=congrArg some (hx0 _ rfl)
     exact rt
    ·refine rn ?_
     refine jP (K4 n s0) b0 (fun(gj5:Unit) (j5:Int)=>[(1,.ptr st.length 0 0 0),(2,.ptr (st.length+1) 0 0 0),(3,.ref false (st.length+2) gs0 0 ((wr .i64 ((↑s0.2.2:Int)-1)).toNat)),(4,.int .i64 s0.2.1),(5,.ptr (st.length+3) 0 0 0),(6,.ptr (st.length+4) 0 0 0),(10,.int .i64 j5)]) (fun(gj5:Unit) (j5:Int)=>st++[some (.arr 0 6 0 [[.int .i64 a0.kind,.str a0.name,.int .i64 a0.index,.str a0.type.base,.sl false 2 40 (rows u0.cells a0.type.args),.sl false 6 96 (rows w7.cells a0.args)]]),some (.arr 0 2 0 [[.int .i64 0,.int .i64 0]]),some (.arr gs0 8 112 (rows y5.cells s0.1)),some (.arr 0 8 0 [[.int .i64 ((get s0.1 ((wr .i64 ((↑s0.2.2:Int)-1)).toNat)).t.kind),.str ((get s0.1 ((wr .i64 ((↑s0.2.2:Int)-1)).toNat)).t.name),.int .i64 ((get s0.1 ((wr .i64 ((↑s0.2.2:Int)-1)).toNat)).t.index),.str ((get s0.1 ((wr .i64 ((↑s0.2.2:Int)-1)).toNat)).t.type.base),.sl false 2 40 (rows u0.cells ((get s0.1 ((wr .i64 ((↑s0.2.2:Int)-1)).toNat)).t.type.args)),.sl false 6 96 (rows w7.cells ((get s0.1 ((wr .i64 ((↑s0.2.2:Int)-1)).toNat)).t.args)),.int .i64 ((get s0.1 ((wr .i64 ((↑s0.2.2:Int)-1)).toNat)).depth),.int .i64 ((get s0.1 ((wr .i64 ((↑s0.2.2:Int)-1)).toNat)).bound)]]),some (.arr 0 6 0 [[.int .i64 ((get s0.1 ((wr .i64 ((↑s0.2.2:Int)-1)).toNat)).t.kind),.str ((get s0.1 ((wr .i64 ((↑s0.2.2:Int)-1)).toNat)).t.name),.int .i64 ((get s0.1 ((wr .i64 ((↑s0.2.2:Int)-1)).toNat)).t.index),.str ((get s0.1 ((wr .i64 ((↑s0.2.2:Int)-1)).toNat)).t.type.base),.sl false 2 40 (rows u0.cells ((get s0.1 ((wr .i64 ((↑s0.2.2:Int)-1)).toNat)).t.type.args)),.sl false 6 96 (rows w7.cells ((get s0.1 ((wr .i64 ((↑s0.2.2:Int)-1)).toNat)).t.args))]])]) (fun gj5 j5 fr1 st1 h hb=>?_) (fun hj5=>?_)
     ·try simp only[go_sem,fx]
      unfold K4 at h
      refine K1 hb ?_
      refine rn ?_
      refine F1 (body:=V5 s0 j5) (kk:=V6 s0) (n:=n) (s0:=(s0.1,(wr .i64 ((↑(((get s0.1 ((wr .i64 ((↑s0.2.2:Int)-1)).toNat)).t.args).length):Int)-1)),(wr .i64 ((↑s0.2.2:Int)-1)).toNat))
       (fun(gs6:Nat) (s6:(List y5)×Int×Nat)=>[(1,.ptr st.length 0 0 0),(2,.ptr (st.length+1) 0 0 0),(3,.ref false (st.length+2) gs6 0 s6.2.2),(4,.int .i64 s0.2.1),(5,.ptr (st.length+3) 0 0 0),(6,.ptr (st.length+4) 0 0 0),(10,.int .i64 j5),(11,.int .i64 s6.2.1)])
       (fun(gs6:Nat) (s6:(List y5)×Int×Nat)=>st++[some (.arr 0 6 0 [[.int .i64 a0.kind,.str a0.name,.int .i64 a0.index,.str a0.type.base,.sl false 2 40 (rows u0.cells a0.type.args),.sl false 6 96 (rows w7.cells a0.args)]]),some (.arr 0 2 0 [[.int .i64 0,.int .i64 0]]),some (.arr gs6 8 112 (rows y5.cells s6.1)),some (.arr 0 8 0 [[.int .i64 ((get s0.1 ((wr .i64 ((↑s0.2.2:Int)-1)).toNat)).t.kind),.str ((get s0.1 ((wr .i64 ((↑s0.2.2:Int)-1)).toNat)).t.name),.int .i64 ((get s0.1 ((wr .i64 ((↑s0.2.2:Int)-1)).toNat)).t.index),.str ((get s0.1 ((wr .i64 ((↑s0.2.2:Int)-1)).toNat)).t.type.base),.sl false 2 40 (rows u0.cells ((get s0.1 ((wr .i64 ((↑s0.2.2:Int)-1)).toNat)).t.type.args)),.sl false 6 96 (rows w7.cells ((get s0.1 ((wr .i64 ((↑s0.2.2:Int)-1)).toNat)).t.args)),.int .i64 ((get s0.1 ((wr .i64 ((↑s0.2.2:Int)-1)).toNat)).depth),.int .i64 ((get s0.1 ((wr .i64 ((↑s0.2.2:Int)-1)).toNat)).bound)]]),some (.arr 0 6 0 [[.int .i64 ((get s0.1 ((wr .i64 ((↑s0.2.2:Int)-1)).toNat)).t.kind),.str ((get s0.1 ((wr .i64 ((↑s0.2.2:Int)-1)).toNat)).t.name),.int .i64 ((get s0.1 ((wr .i64 ((↑s0.2.2:Int)-1)).toNat)).t.index),.str ((get s0.1 ((wr .i64 ((↑s0.2.2:Int)-1)).toNat)).t.type.base),.sl false 2 40 (rows u0.cells ((get s0.1 ((wr .i64 ((↑s0.2.2:Int)-1)).toNat)).t.type.args)),.sl false 6 96 (rows w7.cells ((get s0.1 ((wr .i64 ((↑s0.2.2:Int)-1)).toNat)).t.args))]])])
       (fun(gt6:Nat) (t6:(List y5)×Nat)=>[(1,.ptr st.length 0 0 0),(2,.ptr (st.length+1) 0 0 0),(3,.ref false (st.length+2) gt6 0 t6.2),(4,.int .i64 s0.2.1)])
       (fun(gt6:Nat) (t6:(List y5)×Nat)=>st++[some (.arr 0 6 0 [[.int .i64 a0.kind,.str a0.name,.int .i64 a0.index,.str a0.type.base,.sl false 2 40 (rows u0.cells a0.type.args),.sl false 6 96 (rows w7.cells a0.args)]]),some (.arr 0 2 0 [[.int .i64 0,.int .i64 0]]),some (.arr gt6 8 112 (rows y5.cells t6.1))])
       gs0 h (bm hsc)
       (fun gs6 s6 b6 h hx6=>?_) (fun gt6 t6 fr1 st1 h hb=>?_)
      ·unfold V5 at h
       refine cd h (fun hc h=>?_) fun hc h=>?_
       ·refine rn ?_
        obtain⟨fx,h⟩:=ck fx h
        obtain⟨fx,h⟩:=ck fx h
        obtain⟨c57,Rk,h⟩:=lR h
        have fy:=(show rows y5.cells (s6.1.take s6.2.2)++[[.int .i64 ((get ((get s0.1 ((wr .i64 ((↑s0.2.2:Int)-1)).toNat)).t.args) s6.2.1.toNat).kind),.str ((get ((get s0.1 ((wr .i64 ((↑s0.2.2:Int)-1)).toNat)).t.args) s6.2.1.toNat).name),.int .i64 ((get ((get s0.1 ((wr .i64 ((↑s0.2.2:Int)-1)).toNat)).t.args) s6.2.1.toNat).index),.str ((get ((get s0.1 ((wr .i64 ((↑s0.2.2:Int)-1)).toNat)).t.args) s6.2.1.toNat).type.base),.sl false 2 40 (rows u0.cells ((get ((get s0.1 ((wr .i64 ((↑s0.2.2:Int)-1)).toNat)).t.args) s6.2.1.toNat).type.args)),.sl false 6 96 (rows w7.cells ((get ((get s0.1 ((wr .i64 ((↑s0.2.2:Int)-1)).toNat)).t.args) s6.2.1.toNat).args)),.int .i64 (wr .i64 (((get s0.1 ((wr .i64 ((↑s0.2.2:Int)-1)).toNat)).depth)+1)),.int .i64 j5]]=rows y5.cells c57 from by rw[Rk];first|exact O2 (E:=y5.cells) (s6.1.take s6.2.2) [(y5.mk (get ((get s0.1 ((wr .i64 ((↑s0.2.2:Int)-1)).toNat)).t.args) s6.2.1.toNat) (wr .i64 (((get s0.1 ((wr .i64 ((↑s0.2.2:Int)-1)).toNat)).depth)+1)) j5)]|simp only[go_sem,rows,List.map_append,List.map_cons,List.map_nil])
        have fy:=fa fy (show s6.2.2+1=c57.length from by rw[Rk];simp<;>omega)
        obtain⟨fx,h⟩:=ck fx h
        refine dwy [] 2 ?_
        refine rn ?_
        cases h
        exact G0 (gs6+1) (bm hsc)
       ·refine rn ?_
        cases h
        exact P0 gs6 (bm hsc)
      ·try simp only[go_sem,fx]
       unfold V6 at h
       refine K1 hb ?_
       refine rn ?_
       cases h
       exact G0 gt6 (bm hsc)
     ·refine cd h (fun hc h=>?_) fun hc h=>?_
      ·refine r0 ?_
       refine hj5 () _ _ _ h ?_;exact(bm hsc)
      ·refine r0 ?_
       refine hj5 () _ _ _ h ?_;exact(bm hsc)
   ·refine cd h (fun hc h=>?_) fun hc h=>?_
    ·refine r0 ?_
     refine hj4 () _ _ _ h ?_;exact(bm hsc)
    ·refine cd h (fun hc h=>?_) fun hc h=>?_
     ·refine r0 ?_
      refine hj4 () _ _ _ h ?_;exact(bm hsc)
     ·obtain⟨fx,h⟩:=ck fx h
      have fy:=(show [[D.int .i64 0],[D.int .i64 0],[D.int .i64 0],[D.int .i64 1],[D.int .i64 2]].getD (((get s0.1 ((wr .i64 ((↑s0.2.2:Int)-1)).toNat)).t.kind).toNat) [D.int .i64 0]=[D.int .i64 (get [0,0,0,1,2] (((get s0.1 ((wr .i64 ((↑s0.2.2:Int)-1)).toNat)).t.kind).toNat))]from Kw [0,0,0,1,2] _)
      refine r1 ?_
      refine rn ?_
      obtain⟨v41,hv41,h⟩:=E6 h
      refine U4 (fun hG=>(nk _ _ (kH hv41 (by simpa using hG)))) ?_
      refine cd h (fun hc h=>?_) fun hc h=>?_
      ·refine r0 ?_
       refine hj4 () _ _ _ h ?_;exact(bm hsc)
      ·refine rn ?_
       obtain⟨v42,hv42,h⟩:=E6 h
       refine U4 (fun hG=>(ot n _ _ (kH hv42 (by simpa using hG)))) ?_
       refine cd h (fun hc h=>?_) fun hc h=>?_
       ·refine r0 ?_
        refine hj4 () _ _ _ h ?_;exact(bm hsc)
       ·refine rn ?_
        obtain⟨v43,hv43,h⟩:=E6 h
        refine U4 (fun hG=>(jM n _ _ (kH hv43 (by simpa using hG)))) ?_
        refine cd h (fun hc h=>?_) fun hc h=>?_
        ·refine r0 ?_
         refine hj4 () _ _ _ h ?_;exact(bm hsc)
        ·refine cd h (fun hc h=>?_) fun hc h=>?_
         ·refine r0 ?_
          refine hj4 () _ _ _ h ?_;exact(bm hsc)
         ·refine r0 ?_
          refine hj4 () _ _ _ h ?_;exact(bm hsc)
  ·refine rn ?_
   cases h
   exact P0 () (bm hsc)
 ·try simp only[go_sem,fx]
  unfold V8 at h
  refine K1 hb ?_
  refine cl h (nu n _) fun v62 h=>?_
  refine cd h (fun hc h=>?_) fun hc h=>?_
  ·exact rt
  ·exact rt
end Go.Proofs.YtbgkcolebacbmaaGreatDoor
