import Derived.Test.YtoekkdodipnmpaaGreatDoorSWalk8
set_option linter.unusedVariables false
set_option linter.unusedSimpArgs false
set_option maxHeartbeats 2000000
set_option maxRecDepth 100000
namespace Go.Proofs.YtoekkdodipnmpaaGreatDoor
open Go Go.Am
theorem jJ(n:Nat)(a0:(List B6))(a1:Int)(r:Int)(h:O1 n a0 a1=some r):Pure Tryz.prog gl 107 [.sl false 7 104 (rows B6.cells a0),.int .i64 a1] (.int .i64 r):=by
 intro st
 unfold O1 at h
 have fx:=trivial
 refine fb 35 [.tmp 4] [0,1,4,5,6,18,29,31] Tryz.func107 fun hsc=>?_
 obtain⟨fx,h⟩:=ck fx h
 refine rn ?_
 refine I3 (body:=G6 a0) (kk:=aH) (n:=n) (s0:=((get a0 a1.toNat).index,(get a0 a1.toNat).up))
  (fun(gs0:Unit) (s0:Int×Int)=>[(0,.sl false 7 104 (rows B6.cells a0)),(5,.int .i64 s0.1),(6,.int .i64 s0.2)])
  (fun(gs0:Unit) (s0:Int×Int)=>st)
  (fun(gt0:Unit) (t0:Unit)=>[])
  (fun(gt0:Unit) (t0:Unit)=>st)
  () h (cT hsc)
  (fun gs0 s0 b0 h hx0=>?_) (fun gt0 t0 fr1 st1 h hb=>?_)
 ·unfold G6 at h
  refine cd h (fun hc h=>?_) fun hc h=>?_
  ·obtain⟨fx,h⟩:=ck fx h
   refine cd h (fun hc h=>?_) fun hc h=>?_
   ·refine cd h (fun hc h=>?_) fun hc h=>?_
    ·refine ra ?_
     cases h
     refine aA ?_;have h:=congrArg some (hx0 _ rfl)
     exact rt
    ·refine rn ?_
     cases h
     exact J2 () (cT hsc)
   ·refine rn ?_
    cases h
    exact J2 () (cT hsc)
  ·refine rn ?_
   cases h
   exact U0 () (cT hsc)
 ·try simp only[go_sem,fx]
  unfold aH at h
  refine R8 hb ?_
  exact rt
theorem mq(a0:u0)(a1:u0)(r:u0)(h:cD a0 a1=some r):Pure Tryz.prog gl 108 [.agg [.str a0.base,.sl false 2 40 (rows u0.cells a0.args)],.agg [.str a1.base,.sl false 2 40 (rows u0.cells a1.args)]] (.agg [.str r.base,.sl false 2 40 (rows u0.cells r.args)]):=by
 intro st
 unfold cD at h
 have fx:=trivial
 refine fb 9 [.cell 4 64] [0,1,2,3,4] Tryz.func108 fun hsc=>?_
 refine rr ?_
 exact fo (.agg [.str [],.sl false 2 40 (rows u0.cells [a0,a1])]) (.agg _ _ (.cons _ _ _ _ .s (.cons _ _ _ _ (.ref _ _ _ _ _ _ _ _ _ (nK.trans rfl) zE (by decide) (by simp[Imm,D.imm]) (by simp only[go_sem,rows,List.map_cons,List.map_nil])) .nil))) h hsc
theorem bN:∀(n:Nat) (a0:u0) (r:Bs) (h:E3 n a0=some r),Pure Tryz.prog gl 114 [.agg [.str a0.base,.sl false 2 40 (rows u0.cells a0.args)]] (.str r):=by
 intro n
 induction n with
 |zero=>intro a0 r h;cases h
 |succ n ih=>
  intro a0 r h st
  unfold E3 at h
  have fx:=trivial
  refine fb 22 [.tmp 2] [0,1,2,5] Tryz.func114 fun hsc=>?_
  refine cd h (fun hc h=>?_) fun hc h=>?_
  ·exact rt
  ·refine rn ?_
   obtain⟨fx,h⟩:=ck fx h
   refine dw [] 0 ?_
   obtain⟨v2,hv2,h⟩:=E7 h
   refine y9 (ih _ _ hv2) ?_
   obtain⟨fx,h⟩:=ck fx h
   obtain⟨fx,h⟩:=ck fx h
   obtain⟨fx,h⟩:=ck fx h
   try simp only[go_sem,fx]
   obtain⟨v6,hv6,h⟩:=E7 h
   refine y9 (ih _ _ hv6) ?_
   obtain⟨fx,h⟩:=ck fx h
   obtain⟨fx,h⟩:=ck fx h
   try simp only[go_sem,fx]
   exact rt
theorem iE(n:Nat)(a0:u0)(a1:u0)(r:Bool)(h:Q9 n a0 a1=some r):Pure Tryz.prog gl 109 [.agg [.str a0.base,.sl false 2 40 (rows u0.cells a0.args)],.agg [.str a1.base,.sl false 2 40 (rows u0.cells a1.args)]] (.bool r):=by
 intro st
 unfold Q9 at h
 have fx:=trivial
 refine fb 10 [.tmp 4] [0,1,2,3,4] Tryz.func109 fun hsc=>?_
 refine rn ?_
 refine dw [] 0 ?_
 obtain⟨v1,hv1,h⟩:=E7 h
 refine y9 (bN n _ _ hv1) ?_
 try simp only[go_sem,fx]
 obtain⟨v2,hv2,h⟩:=E7 h
 refine y9 (bN n _ _ hv2) ?_
 try simp only[go_sem,fx]
 exact rt
theorem jK(n:Nat)(a0:w6)(r:u0×Bool)(h:T3 n a0=some r):Pure Tryz.prog gl 101 [.agg [.int .i64 a0.kind,.str a0.name,.int .i64 a0.index,.str a0.type.base,.sl false 2 40 (rows u0.cells a0.type.args),.sl false 6 96 (rows w6.cells a0.args)]] (.tup [.agg [.str r.1.base,.sl false 2 40 (rows u0.cells r.1.args)],.bool r.2]):=by
 intro st
 unfold T3 at h
 have fx:=trivial
 refine fb 107 [.cell 2 64,.tmp 3] [0,1,2,3,4,5,6,7,8,9,19,27,28,35,47,62,82,83,84,85,88,89,90,91,92,93,94,95] Tryz.func101 fun hsc=>?_
 obtain⟨v1,hv1,h⟩:=E7 h
 refine r0 ?_
 (repeat apply sq_)
 refine nJ 7 104 ?_
 try simp only[List.append_assoc,List.cons_append,List.nil_append]
 refine rn ?_
 refine((Hy n _ _ 0 _ hv1 _ (st.length+2) 0 [] rfl (U5.trans rfl)).up (.cons _ _ _ _ .s (.cons _ _ _ _ .s (.cons _ _ _ _ (.nref _ _ _ _ _ _ (nK.trans rfl)) .nil))) (by simp)).mono ?_
 rintro d1 st1 ⟨g2,E2,N2,rfl,rfl,Dq⟩
 try simp only[go_sem,fx,U1,Nat.zero_add]
 refine uw (fr':=[(1,.ptr st.length 0 0 0),(2,.ptr (st.length+1) 0 0 0),(3,.bool false),(4,.ref false (st.length+2) g2 0 v1.length)]) ⟨rfl,rfl,rfl,rfl,trivial⟩ ?_
 refine R8 (ET (F:=[(1,.ptr st.length 0 0 0),(2,.ptr (st.length+1) 0 0 0),(3,.bool false),(4,.sl false 7 104 (rows B6.cells v1))]) hsc (by simpa using Dq) (by simp) (fun _ _=>⟨.s,.s,.s,.s,trivial⟩) (fun _ _ u=>⟨.s,.s,.s,u,trivial⟩) (by simp) (by simp)) ?_
 obtain⟨fx,h⟩:=ck fx h
 refine r0 ?_
 (repeat apply sq_)
 refine R8 (F:=[(2,.ptr (st.length+1) 0 0 0),(4,.sl false 7 104 (rows B6.cells v1)),(5,.ref true (st.length+2) 0 0 v1.length)]) (T:=st++[some (.arr 0 6 0 [[.int .i64 a0.kind,.str a0.name,.int .i64 a0.index,.str a0.type.base,.sl false 2 40 (rows u0.cells a0.type.args),.sl false 6 96 (rows w6.cells a0.args)]]),some (.arr 0 2 0 [[.str [],.D3]]),some (.arr 0 2 40 (rows u0.cells (List.replicate v1.length (default:u0))))]) (yu hsc (.lv (.lv (.live _ _ _ _ (.arr _ _ _ _ _ (Jp (by rw[u0.D1];exact(.cons _ _ _ _ .s (.cons _ _ _ _ (.D3 _ _ _ (by decide)) .nil))))) (.nil _)))) (by simp) ⟨.s,.s,.s,trivial⟩ (by simp)) ?_
 refine rn ?_
 refine I3 (body:=J7 n v1) (kk:=T8) (n:=n) (s0:=((List.replicate v1.length (default:u0)),(wr .i64 ((↑v1.length:Int)-1))))
  (fun(gs0:Nat) (s0:(List u0)×Int)=>[(2,.ptr (st.length+1) 0 0 0),(4,.sl false 7 104 (rows B6.cells v1)),(5,.ref true (st.length+2) gs0 0 s0.1.length),(6,.int .i64 s0.2)])
  (fun(gs0:Nat) (s0:(List u0)×Int)=>st++[none,some (.arr 0 2 0 [[.str [],.D3]]),some (.arr gs0 2 40 (rows u0.cells s0.1))])
  (fun(gt0:Nat) (t0:(List u0))=>[(2,.ptr (st.length+1) 0 0 0),(5,.ref true (st.length+2) gt0 0 t0.length)])
  (fun(gt0:Nat) (t0:(List u0))=>st++[none,some (.arr 0 2 0 [[.str [],.D3]]),some (.arr gt0 2 40 (rows u0.cells t0))])
  0 h (bm hsc (hf:=⟨.s,.s,vZ (by first|(simp;done)|simp[Fr.get]),.s,trivial⟩))
  (fun gs0 s0 b0 h hx0=>?_) (fun gt0 t0 fr1 st1 h hb=>?_)
 ·unfold J7 at h
  refine cd h (fun hc h=>?_) fun hc h=>?_
  ·obtain⟨fx,h⟩:=ck fx h
   refine cd h (fun hc h=>?_) fun hc h=>?_
   ·obtain⟨fx,h⟩:=ck fx h
    have fy:=(show(rows u0.cells s0.1).getD s0.2.toNat []=u0.cells (get s0.1 s0.2.toNat)from jk (E:=u0.cells) (l:=s0.1) (k:=s0.2.toNat) (by first|omega|(simp;omega)))
    have fy:=fa fy (show s0.2.toNat<s0.1.length from by first|omega|(simp;omega))
    obtain⟨c54,Nj,h⟩:=lK h
    have fy:=fa fy (show(rows u0.cells s0.1).set s0.2.toNat [.str ((get v1 s0.2.toNat).typ.base),.sl false 2 40 (rows u0.cells ((get v1 s0.2.toNat).typ.args))]=rows u0.cells c54 from by rw[Nj];first|exact vY (E:=u0.cells) _ _ _|simp only[go_sem,rows,List.map_set])
    refine r1 ?_
    have e56:D.ref true (st.length+2) gs0 0 s0.1.length=D.ref true (st.length+2) gs0 0 c54.length:=by simp[Nj]
    simp only[e56]
    refine rn ?_
    cases h
    exact J2 gs0 (bm hsc)
   ·refine cd h (fun hc h=>?_) fun hc h=>?_
    ·refine cl h (jJ n _ _) fun v57 h=>?_
     obtain⟨fx,h⟩:=ck fx h
     obtain⟨fx,h⟩:=ck fx h
     have fy:=(show(rows u0.cells s0.1).getD s0.2.toNat []=u0.cells (get s0.1 s0.2.toNat)from jk (E:=u0.cells) (l:=s0.1) (k:=s0.2.toNat) (by first|omega|(simp;omega)))
     have fy:=fa fy (show s0.2.toNat<s0.1.length from by first|omega|(simp;omega))
     obtain⟨c63,Nk,h⟩:=lK h
     have fy:=fa fy (show(rows u0.cells s0.1).set s0.2.toNat [.str ((get v1 v57.toNat).typ.base),.sl false 2 40 (rows u0.cells ((get v1 v57.toNat).typ.args))]=rows u0.cells c63 from by rw[Nk];first|exact vY (E:=u0.cells) _ _ _|simp only[go_sem,rows,List.map_set])
     try simp only[go_sem,fx,fy]
     have e65:D.ref true (st.length+2) gs0 0 s0.1.length=D.ref true (st.length+2) gs0 0 c63.length:=by simp[Nk]
     simp only[e65]
     refine rn ?_
     cases h
     exact J2 gs0 (bm hsc)
    ·refine cd h (fun hc h=>?_) fun hc h=>?_
     ·refine rs ?_
      obtain⟨fx,h⟩:=ck fx h
      obtain⟨fx,h⟩:=ck fx h
      have fy:=(show(rows u0.cells s0.1).getD ((get ((get v1 s0.2.toNat).kids) 0).toNat) []=u0.cells (get s0.1 ((get ((get v1 s0.2.toNat).kids) 0).toNat))from jk (E:=u0.cells) (l:=s0.1) (k:=(get ((get v1 s0.2.toNat).kids) 0).toNat) (by first|omega|(simp;omega)))
      have fy:=fa fy (show(get ((get v1 s0.2.toNat).kids) 0).toNat<s0.1.length from by first|omega|(simp;omega))
      refine dwy [] 0 ?_
      obtain⟨v71,hv71,h⟩:=E7 h
      refine y9 (mq _ _ _ hv71) ?_
      obtain⟨fx,h⟩:=ck fx h
      have fy:=fa fy (show(rows u0.cells s0.1).getD s0.2.toNat []=u0.cells (get s0.1 s0.2.toNat)from jk (E:=u0.cells) (l:=s0.1) (k:=s0.2.toNat) (by first|omega|(simp;omega)))
      have fy:=fa fy (show s0.2.toNat<s0.1.length from by first|omega|(simp;omega))
      obtain⟨c75,Nl,h⟩:=lK h
      have fy:=fa fy (show(rows u0.cells s0.1).set s0.2.toNat [.str v71.base,.sl false 2 40 (rows u0.cells v71.args)]=rows u0.cells c75 from by rw[Nl];first|exact vY (E:=u0.cells) _ _ _|simp only[go_sem,rows,List.map_set])
      try simp only[go_sem,fx,fy]
      have e77:D.ref true (st.length+2) gs0 0 s0.1.length=D.ref true (st.length+2) gs0 0 c75.length:=by simp[Nl]
      simp only[e77]
      refine rn ?_
      cases h
      exact J2 gs0 (bm hsc)
     ·refine cd h (fun hc h=>?_) fun hc h=>?_
      ·refine rs ?_
       obtain⟨fx,h⟩:=ck fx h
       obtain⟨fx,h⟩:=ck fx h
       have fy:=(show(rows u0.cells s0.1).getD ((get ((get v1 s0.2.toNat).kids) 0).toNat) []=u0.cells (get s0.1 ((get ((get v1 s0.2.toNat).kids) 0).toNat))from jk (E:=u0.cells) (l:=s0.1) (k:=(get ((get v1 s0.2.toNat).kids) 0).toNat) (by first|omega|(simp;omega)))
       have fy:=fa fy (show(get ((get v1 s0.2.toNat).kids) 0).toNat<s0.1.length from by first|omega|(simp;omega))
       obtain⟨fx,h⟩:=ck fx h
       obtain⟨fx,h⟩:=ck fx h
       have fy:=fa fy (show(rows u0.cells s0.1).getD ((get ((get v1 s0.2.toNat).kids) 1).toNat) []=u0.cells (get s0.1 ((get ((get v1 s0.2.toNat).kids) 1).toNat))from jk (E:=u0.cells) (l:=s0.1) (k:=(get ((get v1 s0.2.toNat).kids) 1).toNat) (by first|omega|(simp;omega)))
       have fy:=fa fy (show(get ((get v1 s0.2.toNat).kids) 1).toNat<s0.1.length from by first|omega|(simp;omega))
       refine dwy [9,10,11,12,13,16] 2 ?_
       try refine⟨by(simp<;>omega),?_⟩
       refine rs ?_
       obtain⟨fx,h⟩:=ck fx h
       refine dw [] 0 ?_
       obtain⟨v90,hv90,h⟩:=E7 h
       refine dZ (fun hG=>(iE n _ _ _ (sM hv90 (by simpa using hG)))) ?_
       try simp only[go_sem,fx]
       refine cd h (fun hc h=>?_) fun hc h=>?_
       ·refine ra ?_
        cases h
        refine aA ?_;have h:=congrArg some (hx0 _ rfl)
        refine rr ?_
        exact fo (.tup [.agg [.str [],.sl false 2 40 (rows u0.cells [])],.bool false]) (.tup _ _ (.cons _ _ _ _ (.agg _ _ (.cons _ _ _ _ .s (.cons _ _ _ _ (.D3 _ _ _ (by decide)) .nil))) (.cons _ _ _ _ .s .nil)) rfl) h hsc
       ·refine r0 ?_
        obtain⟨fx,h⟩:=ck fx h
        obtain⟨fx,h⟩:=ck fx h
        have fy:=(show(rows u0.cells s0.1).getD s0.2.toNat []=u0.cells (get s0.1 s0.2.toNat)from jk (E:=u0.cells) (l:=s0.1) (k:=s0.2.toNat) (by first|omega|(simp;omega)))
        have fy:=fa fy (show s0.2.toNat<s0.1.length from by first|omega|(simp;omega))
        obtain⟨c95,Km,h⟩:=lK h
        have fy:=fa fy (show(rows u0.cells s0.1).set s0.2.toNat [.str ((get ((get s0.1 ((get ((get v1 s0.2.toNat).kids) 0).toNat)).args) 1).base),.sl false 2 40 (rows u0.cells ((get ((get s0.1 ((get ((get v1 s0.2.toNat).kids) 0).toNat)).args) 1).args))]=rows u0.cells c95 from by rw[Km];first|exact vY (E:=u0.cells) _ _ _|simp only[go_sem,rows,List.map_set])
        refine r1 ?_
        have e97:D.ref true (st.length+2) gs0 0 s0.1.length=D.ref true (st.length+2) gs0 0 c95.length:=by simp[Km]
        simp only[e97]
        refine rn ?_
        cases h
        exact J2 gs0 (bm hsc)
      ·refine rn ?_
       cases h
       exact J2 gs0 (bm hsc)
  ·refine rn ?_
   cases h
   exact U0 gs0 (bm hsc)
 ·try simp only[go_sem,fx]
  unfold T8 at h
  refine R8 hb ?_
  obtain⟨fx,h⟩:=ck fx h
  have fy:=(show(rows u0.cells t0).getD 0 []=u0.cells (get t0 0)from jk (E:=u0.cells) (l:=t0) (k:=0) (by first|omega|(simp;omega)))
  have fy:=fa fy (show 0<t0.length from by first|omega|(simp;omega))
  refine r1 ?_
  exact rt
theorem ij(n:Nat)(a0:w6)(r:w5)(h:O2 n a0=some r):Pure Tryz.prog gl 85 [.agg [.int .i64 a0.kind,.str a0.name,.int .i64 a0.index,.str a0.type.base,.sl false 2 40 (rows u0.cells a0.type.args),.sl false 6 96 (rows w6.cells a0.args)]] (.agg [.int .i64 r.code,.int .i64 r.index]):=by
 intro st
 unfold O2 at h
 have fx:=trivial
 refine fb 177 [.cell 2 39] [0,1,2,3,4,5,6,7,8,9,10,11,13,19,38,39,40,41,46,47,48,49,61,62,63,64,65,66,67,68,71,72,73,74,75,76,77,78,81,82,83,84,85,86,87,88,89,90,91,92,93,96,101,102,103,104,105,110,111,112,115,116,117,118,119,124,125,126,127,128,129,130,131,132,133,134,136,144,152,174] Tryz.func85 fun hsc=>?_
 refine rn ?_
 refine I3 (body:=C0 n) (kk:=R0 n a0) (n:=n) (s0:=([(w9.mk a0 1 0)],0,1))
  (fun(gs0:Nat) (s0:(List w9)×Int×Nat)=>[(1,.ptr st.length 0 0 0),(2,.ptr (st.length+1) 0 0 0),(3,.ref false (st.length+2) gs0 0 s0.2.2),(4,.int .i64 s0.2.1)])
  (fun(gs0:Nat) (s0:(List w9)×Int×Nat)=>st++[some (.arr 0 6 0 [[.int .i64 a0.kind,.str a0.name,.int .i64 a0.index,.str a0.type.base,.sl false 2 40 (rows u0.cells a0.type.args),.sl false 6 96 (rows w6.cells a0.args)]]),some (.arr 0 2 0 [[.int .i64 0,.int .i64 0]]),some (.arr gs0 8 112 (rows w9.cells s0.1))])
  (fun(gt0:Unit) (t0:Unit)=>[(1,.ptr st.length 0 0 0),(2,.ptr (st.length+1) 0 0 0)])
  (fun(gt0:Unit) (t0:Unit)=>st++[some (.arr 0 6 0 [[.int .i64 a0.kind,.str a0.name,.int .i64 a0.index,.str a0.type.base,.sl false 2 40 (rows u0.cells a0.type.args),.sl false 6 96 (rows w6.cells a0.args)]]),some (.arr 0 2 0 [[.int .i64 0,.int .i64 0]])])
  0 h (bm hsc)
  (fun gs0 s0 b0 h hx0=>?_) (fun gt0 t0 fr1 st1 h hb=>?_)
 ·unfold C0 at h
  refine cd h (fun hc h=>?_) fun hc h=>?_
  ·refine r0 ?_
   refine r0 ?_
   obtain⟨fx,h⟩:=ck fx h
   obtain⟨fx,h⟩:=ck fx h
   have fy:=(show(rows w9.cells s0.1).getD ((wr .i64 ((↑s0.2.2:Int)-1)).toNat) []=w9.cells (get s0.1 ((wr .i64 ((↑s0.2.2:Int)-1)).toNat))from jk (E:=w9.cells) (l:=s0.1) (k:=(wr .i64 ((↑s0.2.2:Int)-1)).toNat) (by first|omega|(simp;omega)))
   have fy:=fa fy (show(wr .i64 ((↑s0.2.2:Int)-1)).toNat<s0.1.length from by first|omega|(simp;omega))
   refine r1 ?_
   obtain⟨fx,h⟩:=ck fx h
   refine rn ?_
   refine eP (C5 n s0) b0 (fun(gj4:Unit) (j4:Int)=>[(1,.ptr st.length 0 0 0),(2,.ptr (st.length+1) 0 0 0),(3,.ref false (st.length+2) gs0 0 ((wr .i64 ((↑s0.2.2:Int)-1)).toNat)),(4,.int .i64 s0.2.1),(5,.ptr (st.length+3) 0 0 0),(6,.ptr (st.length+4) 0 0 0),(7,.int .i64 j4)]) (fun(gj4:Unit) (j4:Int)=>st++[some (.arr 0 6 0 [[.int .i64 a0.kind,.str a0.name,.int .i64 a0.index,.str a0.type.base,.sl false 2 40 (rows u0.cells a0.type.args),.sl false 6 96 (rows w6.cells a0.args)]]),some (.arr 0 2 0 [[.int .i64 0,.int .i64 0]]),some (.arr gs0 8 112 (rows w9.cells s0.1)),some (.arr 0 8 0 [[.int .i64 ((get s0.1 ((wr .i64 ((↑s0.2.2:Int)-1)).toNat)).t.kind),.str ((get s0.1 ((wr .i64 ((↑s0.2.2:Int)-1)).toNat)).t.name),.int .i64 ((get s0.1 ((wr .i64 ((↑s0.2.2:Int)-1)).toNat)).t.index),.str ((get s0.1 ((wr .i64 ((↑s0.2.2:Int)-1)).toNat)).t.type.base),.sl false 2 40 (rows u0.cells ((get s0.1 ((wr .i64 ((↑s0.2.2:Int)-1)).toNat)).t.type.args)),.sl false 6 96 (rows w6.cells ((get s0.1 ((wr .i64 ((↑s0.2.2:Int)-1)).toNat)).t.args)),.int .i64 ((get s0.1 ((wr .i64 ((↑s0.2.2:Int)-1)).toNat)).depth),.int .i64 ((get s0.1 ((wr .i64 ((↑s0.2.2:Int)-1)).toNat)).bound)]]),some (.arr 0 6 0 [[.int .i64 ((get s0.1 ((wr .i64 ((↑s0.2.2:Int)-1)).toNat)).t.kind),.str ((get s0.1 ((wr .i64 ((↑s0.2.2:Int)-1)).toNat)).t.name),.int .i64 ((get s0.1 ((wr .i64 ((↑s0.2.2:Int)-1)).toNat)).t.index),.str ((get s0.1 ((wr .i64 ((↑s0.2.2:Int)-1)).toNat)).t.type.base),.sl false 2 40 (rows u0.cells ((get s0.1 ((wr .i64 ((↑s0.2.2:Int)-1)).toNat)).t.type.args)),.sl false 6 96 (rows w6.cells ((get s0.1 ((wr .i64 ((↑s0.2.2:Int)-1)).toNat)).t.args))]])]) (fun gj4 j4 fr1 st1 h hb=>?_) (fun hj4=>?_)
   ·try simp only[go_sem,fx]
    unfold C5 at h
    refine R8 hb ?_
    refine cd h (fun hc h=>?_) fun hc h=>?_
    ·refine ra ?_
     cases h
     refine aA ?_;have h:=congrArg some (hx0 _ rfl)
     exact rt
    ·refine rn ?_
     refine eP (G5 n s0) b0 (fun(gj5:Unit) (j5:Int)=>[(1,.ptr st.length 0 0 0),(2,.ptr (st.length+1) 0 0 0),(3,.ref false (st.length+2) gs0 0 ((wr .i64 ((↑s0.2.2:Int)-1)).toNat)),(4,.int .i64 s0.2.1),(5,.ptr (st.length+3) 0 0 0),(6,.ptr (st.length+4) 0 0 0),(10,.int .i64 j5)]) (fun(gj5:Unit) (j5:Int)=>st++[some (.arr 0 6 0 [[.int .i64 a0.kind,.str a0.name,.int .i64 a0.index,.str a0.type.base,.sl false 2 40 (rows u0.cells a0.type.args),.sl false 6 96 (rows w6.cells a0.args)]]),some (.arr 0 2 0 [[.int .i64 0,.int .i64 0]]),some (.arr gs0 8 112 (rows w9.cells s0.1)),some (.arr 0 8 0 [[.int .i64 ((get s0.1 ((wr .i64 ((↑s0.2.2:Int)-1)).toNat)).t.kind),.str ((get s0.1 ((wr .i64 ((↑s0.2.2:Int)-1)).toNat)).t.name),.int .i64 ((get s0.1 ((wr .i64 ((↑s0.2.2:Int)-1)).toNat)).t.index),.str ((get s0.1 ((wr .i64 ((↑s0.2.2:Int)-1)).toNat)).t.type.base),.sl false 2 40 (rows u0.cells ((get s0.1 ((wr .i64 ((↑s0.2.2:Int)-1)).toNat)).t.type.args)),.sl false 6 96 (rows w6.cells ((get s0.1 ((wr .i64 ((↑s0.2.2:Int)-1)).toNat)).t.args)),.int .i64 ((get s0.1 ((wr .i64 ((↑s0.2.2:Int)-1)).toNat)).depth),.int .i64 ((get s0.1 ((wr .i64 ((↑s0.2.2:Int)-1)).toNat)).bound)]]),some (.arr 0 6 0 [[.int .i64 ((get s0.1 ((wr .i64 ((↑s0.2.2:Int)-1)).toNat)).t.kind),.str ((get s0.1 ((wr .i64 ((↑s0.2.2:Int)-1)).toNat)).t.name),.int .i64 ((get s0.1 ((wr .i64 ((↑s0.2.2:Int)-1)).toNat)).t.index),.str ((get s0.1 ((wr .i64 ((↑s0.2.2:Int)-1)).toNat)).t.type.base),.sl false 2 40 (rows u0.cells ((get s0.1 ((wr .i64 ((↑s0.2.2:Int)-1)).toNat)).t.type.args)),.sl false 6 96 (rows w6.cells ((get s0.1 ((wr .i64 ((↑s0.2.2:Int)-1)).toNat)).t.args))]])]) (fun gj5 j5 fr1 st1 h hb=>?_) (fun hj5=>?_)
     ·try simp only[go_sem,fx]
      unfold G5 at h
      refine R8 hb ?_
      refine rn ?_
      refine I3 (body:=Q7 s0 j5) (kk:=Q8 s0) (n:=n) (s0:=(s0.1,(wr .i64 ((↑(((get s0.1 ((wr .i64 ((↑s0.2.2:Int)-1)).toNat)).t.args).length):Int)-1)),(wr .i64 ((↑s0.2.2:Int)-1)).toNat))
       (fun(gs6:Nat) (s6:(List w9)×Int×Nat)=>[(1,.ptr st.length 0 0 0),(2,.ptr (st.length+1) 0 0 0),(3,.ref false (st.length+2) gs6 0 s6.2.2),(4,.int .i64 s0.2.1),(5,.ptr (st.length+3) 0 0 0),(6,.ptr (st.length+4) 0 0 0),(10,.int .i64 j5),(11,.int .i64 s6.2.1)])
       (fun(gs6:Nat) (s6:(List w9)×Int×Nat)=>st++[some (.arr 0 6 0 [[.int .i64 a0.kind,.str a0.name,.int .i64 a0.index,.str a0.type.base,.sl false 2 40 (rows u0.cells a0.type.args),.sl false 6 96 (rows w6.cells a0.args)]]),some (.arr 0 2 0 [[.int .i64 0,.int .i64 0]]),some (.arr gs6 8 112 (rows w9.cells s6.1)),some (.arr 0 8 0 [[.int .i64 ((get s0.1 ((wr .i64 ((↑s0.2.2:Int)-1)).toNat)).t.kind),.str ((get s0.1 ((wr .i64 ((↑s0.2.2:Int)-1)).toNat)).t.name),.int .i64 ((get s0.1 ((wr .i64 ((↑s0.2.2:Int)-1)).toNat)).t.index),.str ((get s0.1 ((wr .i64 ((↑s0.2.2:Int)-1)).toNat)).t.type.base),.sl false 2 40 (rows u0.cells ((get s0.1 ((wr .i64 ((↑s0.2.2:Int)-1)).toNat)).t.type.args)),.sl false 6 96 (rows w6.cells ((get s0.1 ((wr .i64 ((↑s0.2.2:Int)-1)).toNat)).t.args)),.int .i64 ((get s0.1 ((wr .i64 ((↑s0.2.2:Int)-1)).toNat)).depth),.int .i64 ((get s0.1 ((wr .i64 ((↑s0.2.2:Int)-1)).toNat)).bound)]]),some (.arr 0 6 0 [[.int .i64 ((get s0.1 ((wr .i64 ((↑s0.2.2:Int)-1)).toNat)).t.kind),.str ((get s0.1 ((wr .i64 ((↑s0.2.2:Int)-1)).toNat)).t.name),.int .i64 ((get s0.1 ((wr .i64 ((↑s0.2.2:Int)-1)).toNat)).t.index),.str ((get s0.1 ((wr .i64 ((↑s0.2.2:Int)-1)).toNat)).t.type.base),.sl false 2 40 (rows u0.cells ((get s0.1 ((wr .i64 ((↑s0.2.2:Int)-1)).toNat)).t.type.args)),.sl false 6 96 (rows w6.cells ((get s0.1 ((wr .i64 ((↑s0.2.2:Int)-1)).toNat)).t.args))]])])
       (fun(gt6:Nat) (t6:(List w9)×Nat)=>[(1,.ptr st.length 0 0 0),(2,.ptr (st.length+1) 0 0 0),(3,.ref false (st.length+2) gt6 0 t6.2),(4,.int .i64 s0.2.1)])
       (fun(gt6:Nat) (t6:(List w9)×Nat)=>st++[some (.arr 0 6 0 [[.int .i64 a0.kind,.str a0.name,.int .i64 a0.index,.str a0.type.base,.sl false 2 40 (rows u0.cells a0.type.args),.sl false 6 96 (rows w6.cells a0.args)]]),some (.arr 0 2 0 [[.int .i64 0,.int .i64 0]]),some (.arr gt6 8 112 (rows w9.cells t6.1))])
       gs0 h (bm hsc)
       (fun gs6 s6 b6 h hx6=>?_) (fun gt6 t6 fr1 st1 h hb=>?_)
      ·unfold Q7 at h
       refine cd h (fun hc h=>?_) fun hc h=>?_
       ·refine rn ?_
        obtain⟨fx,h⟩:=ck fx h
        obtain⟨fx,h⟩:=ck fx h
        obtain⟨c57,Nn,h⟩:=lK h
        have fy:=(show rows w9.cells (s6.1.take s6.2.2)++[[.int .i64 ((get ((get s0.1 ((wr .i64 ((↑s0.2.2:Int)-1)).toNat)).t.args) s6.2.1.toNat).kind),.str ((get ((get s0.1 ((wr .i64 ((↑s0.2.2:Int)-1)).toNat)).t.args) s6.2.1.toNat).name),.int .i64 ((get ((get s0.1 ((wr .i64 ((↑s0.2.2:Int)-1)).toNat)).t.args) s6.2.1.toNat).index),.str ((get ((get s0.1 ((wr .i64 ((↑s0.2.2:Int)-1)).toNat)).t.args) s6.2.1.toNat).type.base),.sl false 2 40 (rows u0.cells ((get ((get s0.1 ((wr .i64 ((↑s0.2.2:Int)-1)).toNat)).t.args) s6.2.1.toNat).type.args)),.sl false 6 96 (rows w6.cells ((get ((get s0.1 ((wr .i64 ((↑s0.2.2:Int)-1)).toNat)).t.args) s6.2.1.toNat).args)),.int .i64 (wr .i64 (((get s0.1 ((wr .i64 ((↑s0.2.2:Int)-1)).toNat)).depth)+1)),.int .i64 j5]]=rows w9.cells c57 from by rw[Nn];first|exact bA (E:=w9.cells) (s6.1.take s6.2.2) [(w9.mk (get ((get s0.1 ((wr .i64 ((↑s0.2.2:Int)-1)).toNat)).t.args) s6.2.1.toNat) (wr .i64 (((get s0.1 ((wr .i64 ((↑s0.2.2:Int)-1)).toNat)).depth)+1)) j5)]|simp only[go_sem,rows,List.map_append,List.map_cons,List.map_nil])
        have fy:=fa fy (show s6.2.2+1=c57.length from by rw[Nn];simp<;>omega)
        obtain⟨fx,h⟩:=ck fx h
        refine dwy [] 2 ?_
        refine rn ?_
        cases h
        exact J2 (gs6+1) (bm hsc)
       ·refine rn ?_
        cases h
        exact U0 gs6 (bm hsc)
      ·try simp only[go_sem,fx]
       unfold Q8 at h
       refine R8 hb ?_
       refine rn ?_
       cases h
       exact J2 gt6 (bm hsc)
     ·refine cd h (fun hc h=>?_) fun hc h=>?_
      ·refine r0 ?_
       refine hj5 () _ _ _ h ?_;exact(bm hsc)
      ·refine r0 ?_
       refine hj5 () _ _ _ h ?_;exact(bm hsc)
   ·refine cd h (fun hc h=>?_) fun hc h=>?_
    ·refine r0 ?_
     refine hj4 () _ _ _ h ?_;exact(bm hsc)
    ·refine cd h (fun hc h=>?_) fun hc h=>?_
     ·refine r0 ?_
      refine hj4 () _ _ _ h ?_;exact(bm hsc)
     ·obtain⟨fx,h⟩:=ck fx h
      have fy:=(show [[D.int .i64 0],[D.int .i64 0],[D.int .i64 0],[D.int .i64 1],[D.int .i64 2]].getD (((get s0.1 ((wr .i64 ((↑s0.2.2:Int)-1)).toNat)).t.kind).toNat) [D.int .i64 0]=[D.int .i64 (get [0,0,0,1,2] (((get s0.1 ((wr .i64 ((↑s0.2.2:Int)-1)).toNat)).t.kind).toNat))]from Gq [0,0,0,1,2] _)
      refine r1 ?_
      refine rn ?_
      obtain⟨v41,hv41,h⟩:=E7 h
      refine iZ (fun hG=>(jI _ _ (sM hv41 (by simpa using hG)))) ?_
      refine cd h (fun hc h=>?_) fun hc h=>?_
      ·refine r0 ?_
       refine hj4 () _ _ _ h ?_;exact(bm hsc)
      ·refine rn ?_
       obtain⟨v42,hv42,h⟩:=E7 h
       refine iZ (fun hG=>(kF n _ _ (sM hv42 (by simpa using hG)))) ?_
       refine cd h (fun hc h=>?_) fun hc h=>?_
       ·refine r0 ?_
        refine hj4 () _ _ _ h ?_;exact(bm hsc)
       ·refine rn ?_
        obtain⟨v43,hv43,h⟩:=E7 h
        refine iZ (fun hG=>(fV n _ _ (sM hv43 (by simpa using hG)))) ?_
        refine cd h (fun hc h=>?_) fun hc h=>?_
        ·refine r0 ?_
         refine hj4 () _ _ _ h ?_;exact(bm hsc)
        ·refine cd h (fun hc h=>?_) fun hc h=>?_
         ·refine r0 ?_
          refine hj4 () _ _ _ h ?_;exact(bm hsc)
         ·refine r0 ?_
          refine hj4 () _ _ _ h ?_;exact(bm hsc)
  ·refine rn ?_
   cases h
   exact U0 () (bm hsc)
 ·try simp only[go_sem,fx]
  unfold R0 at h
  refine R8 hb ?_
  refine cl h (jK n _) fun v62 h=>?_
  refine cd h (fun hc h=>?_) fun hc h=>?_
  ·exact rt
  ·exact rt
end Go.Proofs.YtoekkdodipnmpaaGreatDoor
