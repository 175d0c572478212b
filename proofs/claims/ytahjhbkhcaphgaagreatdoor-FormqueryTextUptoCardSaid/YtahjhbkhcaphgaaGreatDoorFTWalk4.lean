import Derived.Test.YtahjhbkhcaphgaaGreatDoorFTWalk3
set_option linter.unusedVariables false
set_option linter.unusedSimpArgs false
set_option maxHeartbeats 2000000
set_option maxRecDepth 100000
namespace Go.Proofs.YtahjhbkhcaphgaaGreatDoor
open Go Go.Am
theorem iu(n:Nat)(a0:w8)(a1:u6)(r:(List w7)×Bool)(h:dV n a0 a1=some r):Pure Tryz.prog gl 30 [.agg [.int .i64 a0.form.kind,.str a0.form.name,.sl false 1 16 (rows w9 a0.form.words),.sl false 4 72 (rows u6.cells a0.form.subs),.sl false 1 16 (rows w9 a0.words),.sl false 1 16 (rows w9 a0.B1),.sl false 1 16 (rows w9 a0.parts)],.agg [.int .i64 a1.kind,.str a1.name,.sl false 1 16 (rows w9 a1.words),.sl false 4 72 (rows u6.cells a1.subs)]] (.tup [.sl false 6 104 (rows w7.cells r.1),.bool r.2]):=by
 intro st
 unfold dV at h
 have fx:=trivial
 refine fb 83 [.tmp 4,.tmp 5] [0,1,2,3,4,5,6,7,8,9,11,13,14,24,27,28,29,30,47,48,49,50,61,62,63,64,65,72] Tryz.func30 fun hsc=>?_
 refine cl h (ly n _) fun v1 h=>?_
 refine rn ?_
 obtain⟨v2,hv2,h⟩:=M1 h
 refine(jZ n _ _ _ _ _ hv2 _ _ (by simp) (lC.trans rfl)).mono ?_
 rintro d1 st1 ⟨rfl,rfl⟩
 refine cd h (fun hc h=>?_) fun hc h=>?_
 ·refine rr ?_
  exact fo (.tup [.sl false 6 104 (rows w7.cells []),.bool false]) (.tup _ _ (.cons _ _ _ _ (.y5 _ _ _ (by decide)) (.cons _ _ _ _ .s .nil)) rfl) h hsc
 ·refine cl h (Z2 n _) fun v3 h=>?_
  try simp only[go_sem,fx]
  (repeat apply sq_)
  refine eJ 1 16 ?_
  try simp only[List.append_assoc,List.cons_append,List.nil_append]
  refine R6 (F:=[(6,.mp (st.length+2)),(7,.ptr (st.length+3) 0 0 0),(8,.y5),(9,.ref false (st.length+4) 0 0 0),(27,.sl false 1 16 (rows w9 v3)),(28,.int .i64 (↑v3.length:Int)),(29,.int .i64 0)]) (T:=st++[some (.arr 0 7 0 [[.int .i64 a0.form.kind,.str a0.form.name,.sl false 1 16 (rows w9 a0.form.words),.sl false 4 72 (rows u6.cells a0.form.subs),.sl false 1 16 (rows w9 a0.words),.sl false 1 16 (rows w9 a0.B1),.sl false 1 16 (rows w9 a0.parts)]]),some (.arr 0 4 0 [[.int .i64 a1.kind,.str a1.name,.sl false 1 16 (rows w9 a1.words),.sl false 4 72 (rows u6.cells a1.subs)]]),some (.mps true (mrw w7.cells v2.2)),some (.arr 0 7 0 [[.int .i64 v1.form.kind,.str v1.form.name,.sl false 1 16 (rows w9 v1.form.words),.sl false 4 72 (rows u6.cells v1.form.subs),.sl false 1 16 (rows w9 v1.words),.sl false 1 16 (rows w9 v1.B1),.sl false 1 16 (rows w9 v1.parts)]]),some (.arr 0 1 16 (rows w9 []))]) (xU hsc (.lv (.lv (.lv (.lv (.lv (.nil _)))))) (by simp) ⟨.s,.s,.s,.nref _ _ _ _ _ _ (qd.trans rfl),.s,.s,.s,trivial⟩ (by simp)) ?_
  refine aln 27 fun hl0=>?_
  refine rng (body:=dD v3 v2) (kk:=dH n v1 v2) (n:=v3.length) (s0:=[])
   (fun(gs0:Nat) (k0:Nat) (s0:(List Bs))=>[(6,.mp (st.length+2)),(7,.ptr (st.length+3) 0 0 0),(8,.y5),(9,.ref false (st.length+4) gs0 0 s0.length),(27,.sl false 1 16 (rows w9 v3)),(28,.int .i64 (↑v3.length:Int)),(29,.int .i64 (↑k0:Int))])
   (fun(gs0:Nat) (k0:Nat) (s0:(List Bs))=>st++[none,none,some (.mps true (mrw w7.cells v2.2)),some (.arr 0 7 0 [[.int .i64 v1.form.kind,.str v1.form.name,.sl false 1 16 (rows w9 v1.form.words),.sl false 4 72 (rows u6.cells v1.form.subs),.sl false 1 16 (rows w9 v1.words),.sl false 1 16 (rows w9 v1.B1),.sl false 1 16 (rows w9 v1.parts)]]),some (.arr gs0 1 16 (rows w9 s0))])
   (fun(gt0:Nat) (t0:(List Bs))=>[(6,.mp (st.length+2)),(7,.ptr (st.length+3) 0 0 0),(8,.y5),(9,.ref false (st.length+4) gt0 0 t0.length)])
   (fun(gt0:Nat) (t0:(List Bs))=>st++[none,none,some (.mps true (mrw w7.cells v2.2)),some (.arr 0 7 0 [[.int .i64 v1.form.kind,.str v1.form.name,.sl false 1 16 (rows w9 v1.form.words),.sl false 4 72 (rows u6.cells v1.form.subs),.sl false 1 16 (rows w9 v1.words),.sl false 1 16 (rows w9 v1.B1),.sl false 1 16 (rows w9 v1.parts)]]),some (.arr gt0 1 16 (rows w9 t0))])
   0 fx hl0 h (bm hsc)
   (fun gs0 k0 s0 b0 fx h hx0=>?_) (fun gs0 s0=>?_) (fun gt0 t0 fr1 st1 h hb=>?_)
  ·unfold dD at h
   refine ct ?_
   refine r0 ?_
   refine r0 ?_
   refine r0 ?_
   obtain⟨c11,DS,h⟩:=gG h
   have fy:=(show rows w9 s0++[[.str (((assoc (get v3 k0) v2.2).getD default).text)]]=rows w9 c11 from by rw[DS];first|exact F1 (E:=w9) s0 [((assoc (get v3 k0) v2.2).getD default).text]|simp only[go_sem,rows,List.map_append,List.map_cons,List.map_nil])
   have fy:=fa fy (show s0.length+1=c11.length from by rw[DS];simp)
   obtain⟨fx,h⟩:=ck fx h
   refine r1 ?_
   refine rn ?_
   cases h
   exact ig (gs0+1) (bm hsc)
  ·refine cf ?_
   refine gO ?_;simp only[go_sem,fx]
   exact⟨gs0,(bm hsc)⟩
  ·try simp only[go_sem,fx]
   unfold dH at h
   refine R6 hb ?_
   refine rs ?_
   refine dw [] 1 ?_
   obtain⟨v16,hv16,h⟩:=M1 h
   refine U8 (dh _ _ hv16) ?_
   try simp only[go_sem,fx]
   obtain⟨v17,hv17,h⟩:=M1 h
   refine U8 (Z2 n _ _ hv17) ?_
   try simp only[go_sem,fx]
   obtain⟨v19,hv19,h⟩:=M1 h
   refine U8 (qh _ _ hv19) ?_
   try simp only[go_sem,fx]
   (repeat apply sq_)
   refine eJ 6 104 ?_
   try simp only[List.append_assoc,List.cons_append,List.nil_append]
   refine R6 (F:=[(6,.mp (st.length+2)),(7,.ptr (st.length+3) 0 0 0),(8,.ref false (st.length+6) 0 0 0),(9,.ref false (st.length+4) gt0 0 t0.length),(47,.sl false 1 16 (rows w9 v19)),(48,.int .i64 (↑v19.length:Int)),(49,.int .i64 0)]) (T:=st++[none,none,some (.mps true (mrw w7.cells v2.2)),some (.arr 0 7 0 [[.int .i64 v1.form.kind,.str v1.form.name,.sl false 1 16 (rows w9 v1.form.words),.sl false 4 72 (rows u6.cells v1.form.subs),.sl false 1 16 (rows w9 v1.words),.sl false 1 16 (rows w9 v1.B1),.sl false 1 16 (rows w9 v1.parts)]]),some (.arr gt0 1 16 (rows w9 t0)),none,some (.arr 0 6 104 (rows w7.cells []))]) (xU hsc (.dead _ _ _ (.dead _ _ _ (.lv (.lv (.lv (.dead _ _ _ (.lv (.nil _)))))))) (by simp) ⟨.s,.s,.nref _ _ _ _ _ _ (qd.trans rfl),.s,.s,.s,.s,trivial⟩ (by simp)) ?_
   refine aln 47 fun hl1=>?_
   refine rng (body:=dF n v1 v19 v2 t0) (kk:=dG) (n:=v19.length) (s0:=[])
    (fun(gs1:Nat) (k1:Nat) (s1:(List w7))=>[(6,.mp (st.length+2)),(7,.ptr (st.length+3) 0 0 0),(8,.ref false (st.length+6) gs1 0 s1.length),(9,.ref false (st.length+4) gt0 0 t0.length),(47,.sl false 1 16 (rows w9 v19)),(48,.int .i64 (↑v19.length:Int)),(49,.int .i64 (↑k1:Int))])
    (fun(gs1:Nat) (k1:Nat) (s1:(List w7))=>st++[none,none,some (.mps true (mrw w7.cells v2.2)),some (.arr 0 7 0 [[.int .i64 v1.form.kind,.str v1.form.name,.sl false 1 16 (rows w9 v1.form.words),.sl false 4 72 (rows u6.cells v1.form.subs),.sl false 1 16 (rows w9 v1.words),.sl false 1 16 (rows w9 v1.B1),.sl false 1 16 (rows w9 v1.parts)]]),some (.arr gt0 1 16 (rows w9 t0)),none,some (.arr gs1 6 104 (rows w7.cells s1))])
    (fun(gt1:Nat) (t1:(List w7))=>[(8,.ref false (st.length+6) gt1 0 t1.length)])
    (fun(gt1:Nat) (t1:(List w7))=>st++[none,none,none,none,none,none,some (.arr gt1 6 104 (rows w7.cells t1))])
    0 fx hl1 h (bm hsc)
    (fun gs1 k1 s1 b1 fx h hx1=>?_) (fun gs1 s1=>?_) (fun gt1 t1 fr1 st1 h hb=>?_)
   ·unfold dF at h
    refine ct ?_
    refine cl h (y3 _ _) fun v38 h=>?_
    refine rn ?_
    obtain⟨v39,hv39,h⟩:=M1 h
    refine DE (fun hG=>(cP _ _ _ (pE hv39 (by simpa using hG)) _ _ gt0 (by simp) (lC.trans rfl))) (fun hF=>by obtain rfl:=LK hv39 (by simpa using hF);simp only[go_sem,fx]) ?_
    refine cd h (fun hc h=>?_) fun hc h=>?_
    ·refine ra ?_
     cases h
     refine X8 ?_;have h:=congrArg some (hx1 _ rfl)
     refine rr ?_
     exact fo (.tup [.sl false 6 104 (rows w7.cells []),.bool false]) (.tup _ _ (.cons _ _ _ _ (.y5 _ _ _ (by decide)) (.cons _ _ _ _ .s .nil)) rfl) h hsc
    ·obtain⟨fx,h⟩:=ck fx h
     refine cl h (y3 _ _) fun v42 h=>?_
     refine cd h (fun hc h=>?_) fun hc h=>?_
     ·refine cl h (oW n _) fun v43 h=>?_
      try simp only[go_sem,fx]
      obtain⟨c45,Md,h⟩:=gG h
      have fy:=(show rows w7.cells s1++[[.str ((get v19 k1).drop 1),.str (((assoc (get v19 k1) v2.2).getD default).text),.int .i64 v43.kind,.str v43.name,.sl false 1 16 (rows w9 v43.words),.sl false 4 72 (rows u6.cells v43.subs)]]=rows w7.cells c45 from by rw[Md];first|exact F1 (E:=w7.cells) s1 [(w7.mk ((get v19 k1).drop 1) (((assoc (get v19 k1) v2.2).getD default).text) v43)]|simp only[go_sem,rows,List.map_append,List.map_cons,List.map_nil])
      have fy:=fa fy (show s1.length+1=c45.length from by rw[Md];simp)
      obtain⟨fx,h⟩:=ck fx h
      refine r1 ?_
      refine rn ?_
      cases h
      exact ig (gs1+1) (bm hsc)
     ·refine r0 ?_
      obtain⟨c51,Ji,h⟩:=gG h
      have fy:=(show rows w7.cells s1++[[.str ((get v19 k1).drop 1),.str (((assoc (get v19 k1) v2.2).getD default).text),.int .i64 (((assoc (get v19 k1) v2.2).getD default).form.kind),.str (((assoc (get v19 k1) v2.2).getD default).form.name),.sl false 1 16 (rows w9 (((assoc (get v19 k1) v2.2).getD default).form.words)),.sl false 4 72 (rows u6.cells (((assoc (get v19 k1) v2.2).getD default).form.subs))]]=rows w7.cells c51 from by rw[Ji];first|exact F1 (E:=w7.cells) s1 [(w7.mk ((get v19 k1).drop 1) (((assoc (get v19 k1) v2.2).getD default).text) (((assoc (get v19 k1) v2.2).getD default).form))]|simp only[go_sem,rows,List.map_append,List.map_cons,List.map_nil])
      have fy:=fa fy (show s1.length+1=c51.length from by rw[Ji];simp)
      obtain⟨fx,h⟩:=ck fx h
      refine r1 ?_
      refine rn ?_
      cases h
      exact ig (gs1+1) (bm hsc)
   ·refine cf ?_
    refine gO ?_;simp only[go_sem,fx]
    exact⟨gs1,(bm hsc)⟩
   ·try simp only[go_sem,fx]
    unfold dG at h
    refine R6 hb ?_
    refine rr ?_
    exact fo (.tup [.sl false 6 104 (rows w7.cells t1),.bool true]) (.tup _ _ (.cons _ _ _ _ (.ref _ _ _ _ _ _ _ _ _ (qd.trans rfl) Bq (by decide) (ng _) (by simp only[go_sem])) (.cons _ _ _ _ .s .nil)) rfl) h hsc
theorem me(n:Nat)(a0:w8)(a1:u6)(r:(List w7)×Bool×x6)(h:fP n a0 a1=some r):Pure Tryz.prog gl 13 [.agg [.int .i64 a0.form.kind,.str a0.form.name,.sl false 1 16 (rows w9 a0.form.words),.sl false 4 72 (rows u6.cells a0.form.subs),.sl false 1 16 (rows w9 a0.words),.sl false 1 16 (rows w9 a0.B1),.sl false 1 16 (rows w9 a0.parts)],.agg [.int .i64 a1.kind,.str a1.name,.sl false 1 16 (rows w9 a1.words),.sl false 4 72 (rows u6.cells a1.subs)]] (.tup [.sl false 6 104 (rows w7.cells r.1),.bool r.2.1,.agg [.int .i64 r.2.2.code,.int .i64 r.2.2.index]]):=by
 intro st
 unfold fP at h
 have fx:=trivial
 refine fb 33 [.tmp 4,.tmp 5,.cell 6 30] [0,1,2,3,4,5,6,7,8,9,10,15,21] Tryz.func13 fun hsc=>?_
 refine cl h (X7 n _) fun v1 h=>?_
 refine cd h (fun hc h=>?_) fun hc h=>?_
 ·refine rs ?_
  refine dw [] 0 ?_
  refine rr ?_
  exact fo (.tup [.sl false 6 104 (rows w7.cells []),.bool false,.agg [.int .i64 v1.code,.int .i64 v1.index]]) (.tup _ _ (.cons _ _ _ _ (.y5 _ _ _ (by decide)) (.cons _ _ _ _ .s (.cons _ _ _ _ .s .nil))) rfl) h hsc
 ·refine cl h (bW n _) fun v2 h=>?_
  refine cd h (fun hc h=>?_) fun hc h=>?_
  ·refine rs ?_
   refine dw [] 0 ?_
   refine rr ?_
   exact fo (.tup [.sl false 6 104 (rows w7.cells []),.bool false,.agg [.int .i64 v2.code,.int .i64 v2.index]]) (.tup _ _ (.cons _ _ _ _ (.y5 _ _ _ (by decide)) (.cons _ _ _ _ .s (.cons _ _ _ _ .s .nil))) rfl) h hsc
  ·refine rn ?_
   refine dw [] 0 ?_
   obtain⟨v3,hv3,h⟩:=M1 h
   refine U8 (jc n _ _ hv3) ?_
   try simp only[go_sem,fx]
   obtain⟨v4,hv4,h⟩:=M1 h
   refine U8 (iu n _ _ _ hv4) ?_
   try simp only[go_sem,fx]
   exact rt
theorem mg:∀(n:Nat) (a0:u6) (B0:Int) (U0:Int) (rI:Bs) (rJ:(List Bs)) (rK:(List u6)) (rL:(List Bs)) (rM:(List Bs)) (rN:(List Bs)) (l3:(List A9)) (r:Int×(List A9)) (h:V6 n a0 B0 U0 rI rJ rK rL rM rN l3=some r),∀(st:St) (o0 o1 o2 o3 o4 q3:Nat) (hnd: [o0,o1,o2,o3,o4].Nodup) (R8:Am.look st o0=some (.arr 0 1 0 [[.int .i64 B0]])) (ny:Am.look st o1=some (.arr 0 7 0 [[.int .i64 U0,.str rI,.sl false 1 16 (rows w9 rJ),.sl false 4 72 (rows u6.cells rK),.sl false 1 16 (rows w9 rL),.sl false 1 16 (rows w9 rM),.sl false 1 16 (rows w9 rN)]])) (Bm:Am.look st o2=some (.arr 0 1 0 [[.ref false o3 q3 0 l3.length]])) (Lg:Am.look st o3=some (.arr q3 2 32 (rows A9.cells l3))) (Lh:Am.look st o4=some (.arr 0 1 0 [[.fn 32 [] [.ptr o0 0 0 0,.ptr o1 0 0 0,.ptr o2 0 0 0,.ptr o4 0 0 0]]])),Am.Spec Tryz.prog gl 32 [.agg [.int .i64 a0.kind,.str a0.name,.sl false 1 16 (rows w9 a0.words),.sl false 4 72 (rows u6.cells a0.subs)],.ptr o0 0 0 0,.ptr o1 0 0 0,.ptr o2 0 0 0,.ptr o4 0 0 0] st (fun d st'=>∃zo3:Nat,d= .tup []∧st'=puts st [(o0,(.arr 0 1 0 [[.int .i64 r.1]])),(o1,(.arr 0 7 0 [[.int .i64 U0,.str rI,.sl false 1 16 (rows w9 rJ),.sl false 4 72 (rows u6.cells rK),.sl false 1 16 (rows w9 rL),.sl false 1 16 (rows w9 rM),.sl false 1 16 (rows w9 rN)]])),(o2,(.arr 0 1 0 [[.ref false o3 zo3 0 r.2.length]])),(o3,(.arr zo3 2 32 (rows A9.cells r.2))),(o4,(.arr 0 1 0 [[.fn 32 [] [.ptr o0 0 0 0,.ptr o1 0 0 0,.ptr o2 0 0 0,.ptr o4 0 0 0]]]))]):=by
 intro n
 induction n with
 |zero=>intro a0 B0 U0 rI rJ rK rL rM rN l3 r h;cases h
 |succ n ih=>
  intro a0 B0 U0 rI rJ rK rL rM rN l3 r h st o0 o1 o2 o3 o4 q3 hnd R8 ny Bm Lg Lh
  unfold V6 at h
  have ho0:=F2 R8
  have ho1:=F2 ny
  have ho2:=F2 Bm
  have ho3:=F2 Lg
  have ho4:=F2 Lh
  have fx:=fa (fa (fa (fa (fa (idf ho0) (idf ho1)) (idf ho2)) (idf ho3)) (idf ho4)) (nd5 hnd)
  refine fb 38 [] [0,1,2,3,4,5,6,7,8,10,20,28,29,30,31] Tryz.func32 fun hsc=>?_
  refine aO (s':=(E8 st [(o0,(.arr 0 1 0 [[.int .i64 B0]])),(o1,(.arr 0 7 0 [[.int .i64 U0,.str rI,.sl false 1 16 (rows w9 rJ),.sl false 4 72 (rows u6.cells rK),.sl false 1 16 (rows w9 rL),.sl false 1 16 (rows w9 rM),.sl false 1 16 (rows w9 rN)]])),(o2,(.arr 0 1 0 [[.ref false o3 q3 0 l3.length]])),(o3,(.arr q3 2 32 (rows A9.cells l3))),(o4,(.arr 0 1 0 [[.fn 32 [] [.ptr o0 0 0 0,.ptr o1 0 0 0,.ptr o2 0 0 0,.ptr o4 0 0 0]]]))])) (C5 (by simp[R8,ny,Bm,Lg,Lh])) ?_
  refine cl h (iu n _ _) fun v1 h=>?_
  refine rn ?_
  refine aF (aL (V6 n) a0 U0 rI rJ rK rL rM rN B0) r (fun(gj0:Nat) (j0:(List A9))=>[(4,.ptr o4 0 0 0),(5,.ptr st.length 0 0 0)]) (fun(gj0:Nat) (j0:(List A9))=>(E8 st [(o0,(.arr 0 1 0 [[.int .i64 (wr .i64 (B0+1))]])),(o1,(.arr 0 7 0 [[.int .i64 U0,.str rI,.sl false 1 16 (rows w9 rJ),.sl false 4 72 (rows u6.cells rK),.sl false 1 16 (rows w9 rL),.sl false 1 16 (rows w9 rM),.sl false 1 16 (rows w9 rN)]])),(o2,(.arr 0 1 0 [[.ref false o3 gj0 0 j0.length]])),(o3,(.arr gj0 2 32 (rows A9.cells j0))),(o4,(.arr 0 1 0 [[.fn 32 [] [.ptr o0 0 0 0,.ptr o1 0 0 0,.ptr o2 0 0 0,.ptr o4 0 0 0]]]))])++[some (.arr 0 4 0 [[.int .i64 a0.kind,.str a0.name,.sl false 1 16 (rows w9 a0.words),.sl false 4 72 (rows u6.cells a0.subs)]])]) (fun gj0 j0 fr1 st1 h hb=>?_) (fun hj0=>?_)
  ·try simp only[go_sem,fx]
   unfold aL at h
   refine R6 hb ?_
   refine aln 28 fun hl1=>?_
   refine rng (body:=cN (V6 n) a0 U0 rI rJ rK rL rM rN) (kk:=cO) (n:=a0.subs.length) (s0:=((wr .i64 (B0+1)),j0))
    (fun(gs1:Nat) (k1:Nat) (s1:Int×(List A9))=>[(4,.ptr o4 0 0 0),(28,.sl false 4 72 (rows u6.cells a0.subs)),(29,.int .i64 (↑a0.subs.length:Int)),(30,.int .i64 (↑k1:Int))])
    (fun(gs1:Nat) (k1:Nat) (s1:Int×(List A9))=>(E8 st [(o0,(.arr 0 1 0 [[.int .i64 s1.1]])),(o1,(.arr 0 7 0 [[.int .i64 U0,.str rI,.sl false 1 16 (rows w9 rJ),.sl false 4 72 (rows u6.cells rK),.sl false 1 16 (rows w9 rL),.sl false 1 16 (rows w9 rM),.sl false 1 16 (rows w9 rN)]])),(o2,(.arr 0 1 0 [[.ref false o3 gs1 0 s1.2.length]])),(o3,(.arr gs1 2 32 (rows A9.cells s1.2))),(o4,(.arr 0 1 0 [[.fn 32 [] [.ptr o0 0 0 0,.ptr o1 0 0 0,.ptr o2 0 0 0,.ptr o4 0 0 0]]]))]))
    (fun(gt1:Nat) (t1:Int×(List A9))=>[])
    (fun(gt1:Nat) (t1:Int×(List A9))=>(E8 st [(o0,(.arr 0 1 0 [[.int .i64 t1.1]])),(o1,(.arr 0 7 0 [[.int .i64 U0,.str rI,.sl false 1 16 (rows w9 rJ),.sl false 4 72 (rows u6.cells rK),.sl false 1 16 (rows w9 rL),.sl false 1 16 (rows w9 rM),.sl false 1 16 (rows w9 rN)]])),(o2,(.arr 0 1 0 [[.ref false o3 gt1 0 t1.2.length]])),(o3,(.arr gt1 2 32 (rows A9.cells t1.2))),(o4,(.arr 0 1 0 [[.fn 32 [] [.ptr o0 0 0 0,.ptr o1 0 0 0,.ptr o2 0 0 0,.ptr o4 0 0 0]]]))]))
    gj0 fx hl1 h (bu0 hsc)
    (fun gs1 k1 s1 b1 fx h hx1=>?_) (fun gs1 s1=>?_) (fun gt1 t1 fr1 st1 h hb=>?_)
   ·unfold cN at h
    refine ct ?_
    refine rn ?_
    obtain⟨v10,hv10,h⟩:=M1 h
    refine(ih _ _ _ _ _ _ _ _ _ _ _ hv10 _ _ _ _ _ _ gs1 hnd (by simp only[go_sem,fx]) (by simp only[go_sem,fx]) (by simp only[go_sem,fx]) (by simp only[go_sem,fx]) (by simp only[go_sem,fx])).mono ?_
    rintro d1 st1 ⟨g11,rfl,rfl⟩
    refine rn ?_
    cases h
    exact ig g11 (bu0 hsc)
   ·refine cf ?_
    refine gO ?_;simp only[go_sem,fx]
    exact⟨gs1,(xw hsc)⟩
   ·try simp only[go_sem,fx]
    unfold cO at h
    refine vQ hb ?_
    refine rr ?_
    exact fus (.tup []) (.same _) h hsc (hr:=by rintro rfl;exact⟨gt1,rfl,rfl⟩)
  ·refine cd h (fun hc h=>?_) fun hc h=>?_
   ·obtain⟨c3,hc3,h⟩:=gG h
    have fy:=(show rows A9.cells l3++[[.int .i64 B0,.sl false 6 104 (rows w7.cells v1.1)]]=rows A9.cells c3 from by rw[hc3];first|exact F1 (E:=A9.cells) l3 [(A9.mk B0 v1.1)]|simp only[go_sem,rows,List.map_append,List.map_cons,List.map_nil])
    have fy:=fa fy (show l3.length+1=c3.length from by rw[hc3];simp)
    obtain⟨fx,h⟩:=ck fx h
    refine r1 ?_
    refine hj0 (q3+1) _ _ _ h ?_;exact(bu hsc)
   ·refine r0 ?_
    refine hj0 q3 _ _ _ h ?_;exact(bu hsc)
theorem mO(n:Nat)(a0:w8)(a1:u6)(r:(List A9)×x6)(h:gY n a0 a1=some r):Pure Tryz.prog gl 14 [.agg [.int .i64 a0.form.kind,.str a0.form.name,.sl false 1 16 (rows w9 a0.form.words),.sl false 4 72 (rows u6.cells a0.form.subs),.sl false 1 16 (rows w9 a0.words),.sl false 1 16 (rows w9 a0.B1),.sl false 1 16 (rows w9 a0.parts)],.agg [.int .i64 a1.kind,.str a1.name,.sl false 1 16 (rows w9 a1.words),.sl false 4 72 (rows u6.cells a1.subs)]] (.tup [.sl false 2 32 (rows A9.cells r.1),.agg [.int .i64 r.2.code,.int .i64 r.2.index]]):=by
 intro st
 unfold gY at h
 have fx:=trivial
 refine fb 30 [.tmp 4,.cell 5 30] [0,1,2,3,4,5,6,7,8,9,10,15,21] Tryz.func14 fun hsc=>?_
 refine cl h (X7 n _) fun v1 h=>?_
 refine cd h (fun hc h=>?_) fun hc h=>?_
 ·refine rs ?_
  refine dw [] 0 ?_
  refine rr ?_
  exact fo (.tup [.sl false 2 32 (rows A9.cells []),.agg [.int .i64 v1.code,.int .i64 v1.index]]) (.tup _ _ (.cons _ _ _ _ (.y5 _ _ _ (by decide)) (.cons _ _ _ _ .s .nil)) rfl) h hsc
 ·refine cl h (bW n _) fun v2 h=>?_
  refine cd h (fun hc h=>?_) fun hc h=>?_
  ·refine rs ?_
   refine dw [] 0 ?_
   refine rr ?_
   exact fo (.tup [.sl false 2 32 (rows A9.cells []),.agg [.int .i64 v2.code,.int .i64 v2.index]]) (.tup _ _ (.cons _ _ _ _ (.y5 _ _ _ (by decide)) (.cons _ _ _ _ .s .nil)) rfl) h hsc
  ·refine r0 ?_
   refine r0 ?_
   refine r0 ?_
   refine r0 ?_
   refine r0 ?_
   (repeat apply sq_)
   refine eJ 2 32 ?_
   try simp only[List.append_assoc,List.cons_append,List.nil_append]
   refine R6 (F:=[(3,.ptr (st.length+1) 0 0 0),(5,.ptr (st.length+2) 0 0 0),(8,.ptr (st.length+5) 0 0 0),(10,.ptr (st.length+7) 0 0 0)]) (T:=st++[some (.arr 0 7 0 [[.int .i64 a0.form.kind,.str a0.form.name,.sl false 1 16 (rows w9 a0.form.words),.sl false 4 72 (rows u6.cells a0.form.subs),.sl false 1 16 (rows w9 a0.words),.sl false 1 16 (rows w9 a0.B1),.sl false 1 16 (rows w9 a0.parts)]]),some (.arr 0 4 0 [[.int .i64 a1.kind,.str a1.name,.sl false 1 16 (rows w9 a1.words),.sl false 4 72 (rows u6.cells a1.subs)]]),some (.arr 0 2 0 [[.int .i64 0,.int .i64 0]]),some (.arr 0 2 0 [[.int .i64 v1.code,.int .i64 v1.index]]),some (.arr 0 2 0 [[.int .i64 v2.code,.int .i64 v2.index]]),some (.arr 0 1 0 [[.ref false (st.length+8) 0 0 0]]),some (.arr 0 1 0 [[.int .i64 0]]),some (.arr 0 1 0 [[.fn 32 [] [.ptr (st.length+6) 0 0 0,.ptr st.length 0 0 0,.ptr (st.length+5) 0 0 0,.ptr (st.length+7) 0 0 0]]]),some (.arr 0 2 32 (rows A9.cells []))]) (xU hsc (.lv (.lv (.lv (.lv (.lv (.live _ _ _ _ (.arr _ _ _ _ _ (.cons _ _ _ _ (.cons _ _ _ _ (.nref _ _ _ _ _ _ (qd.trans rfl)) .nil) (.same _))) (.lv (.lv (.lv (.nil _)))))))))) (by simp) ⟨.s,.s,.s,.s,trivial⟩ (by simp)) ?_
   refine rs ?_
   refine dwl [] 0 3 ?_
   obtain⟨v3,hv3,h⟩:=M1 h
   refine U8 (jc n _ _ hv3) ?_
   try simp only[go_sem,fx]
   obtain⟨v4,hv4,h⟩:=M1 h
   try simp only[go_sem,fx]
   refine(mg n _ _ _ _ _ _ _ _ _ _ _ hv4 _ _ _ _ _ _ 0 (by simp) (lC.trans rfl) (gi.trans rfl) (lC.trans rfl) (lC.trans rfl) (lC.trans rfl)).mono ?_
   rintro d1 st1 ⟨g5,rfl,rfl⟩
   try simp only[go_sem,fx]
   refine rr ?_
   exact fo (.tup [.sl false 2 32 (rows A9.cells v4.2),.agg [.int .i64 0,.int .i64 0]]) (.tup _ _ (.cons _ _ _ _ (.ref _ _ _ _ _ _ _ _ _ (qd.trans rfl) Bq (by decide) (ng _) (by simp only[go_sem])) (.cons _ _ _ _ .s .nil)) rfl) h hsc
theorem K3(n:Nat)(a0:(List Bs))(a1:(List Bs))(r:Bool)(h:D0 n a0 a1=some r):Pure Tryz.prog gl 9 [.sl false 1 16 (rows w9 a0),.sl false 1 16 (rows w9 a1)] (.bool r):=by
 intro st
 unfold D0 at h
 have fx:=trivial
 refine fb 26 [.tmp 4] [0,1,4,5,10,14,25] Tryz.func9 fun hsc=>?_
 refine cd h (fun hc h=>?_) fun hc h=>?_
 ·exact rt
 ·refine rn ?_
  refine D6 (body:=F5 a0 a1) (kk:=T3) (n:=n) (s0:=0)
   (fun(gs0:Unit) (s0:Int)=>[(0,.sl false 1 16 (rows w9 a0)),(1,.sl false 1 16 (rows w9 a1)),(5,.int .i64 s0)])
   (fun(gs0:Unit) (s0:Int)=>st)
   (fun(gt0:Unit) (t0:Unit)=>[])
   (fun(gt0:Unit) (t0:Unit)=>st)
   () h (jP hsc)
   (fun gs0 s0 b0 h hx0=>?_) (fun gt0 t0 fr1 st1 h hb=>?_)
  ·unfold F5 at h
   refine cd h (fun hc h=>?_) fun hc h=>?_
   ·refine rn ?_
    obtain⟨fx,h⟩:=ck fx h
    obtain⟨fx,h⟩:=ck fx h
    refine dw [] 0 ?_
    refine cd h (fun hc h=>?_) fun hc h=>?_
    ·refine ra ?_
     cases h
     refine bS ?_;have h:=congrArg some (hx0 _ rfl)
     exact rt
    ·refine rn ?_
     cases h
     exact I6 () (jP hsc)
   ·refine rn ?_
    cases h
    exact J9 () (jP hsc)
  ·try simp only[go_sem,fx]
   unfold T3 at h
   refine R6 hb ?_
   exact rt
theorem L2:∀(n:Nat) (a0:u6) (a1:u6) (r:Bool) (h:B9 n a0 a1=some r),Pure Tryz.prog gl 8 [.agg [.int .i64 a0.kind,.str a0.name,.sl false 1 16 (rows w9 a0.words),.sl false 4 72 (rows u6.cells a0.subs)],.agg [.int .i64 a1.kind,.str a1.name,.sl false 1 16 (rows w9 a1.words),.sl false 4 72 (rows u6.cells a1.subs)]] (.bool r):=by
 intro n
 induction n with
 |zero=>intro a0 a1 r h;cases h
 |succ n ih=>
  intro a0 a1 r h st
  unfold B9 at h
  have fx:=trivial
  refine fb 54 [.tmp 4] [0,1,2,3,4,5,12,13,14,15,16,19,20,21,22,23,24,27,28,29,30,31,32,33,34,39,53] Tryz.func8 fun hsc=>?_
  refine rn ?_
  obtain⟨v1,hv1,h⟩:=M1 h
  refine bp (fun hG=>(K3 n _ _ _ (pE hv1 (by simpa using hG)))) ?_
  refine cd h (fun hc h=>?_) fun hc h=>?_
  ·exact rt
  ·refine rn ?_
   refine D6 (body:=G4 (B9 n) a0 a1) (kk:=U1) (n:=n) (s0:=0)
    (fun(gs0:Unit) (s0:Int)=>[(2,.ptr st.length 0 0 0),(3,.ptr (st.length+1) 0 0 0),(5,.int .i64 s0)])
    (fun(gs0:Unit) (s0:Int)=>st++[some (.arr 0 4 0 [[.int .i64 a0.kind,.str a0.name,.sl false 1 16 (rows w9 a0.words),.sl false 4 72 (rows u6.cells a0.subs)]]),some (.arr 0 4 0 [[.int .i64 a1.kind,.str a1.name,.sl false 1 16 (rows w9 a1.words),.sl false 4 72 (rows u6.cells a1.subs)]])])
    (fun(gt0:Unit) (t0:Unit)=>[])
    (fun(gt0:Unit) (t0:Unit)=>st)
    () h (bm hsc)
    (fun gs0 s0 b0 h hx0=>?_) (fun gt0 t0 fr1 st1 h hb=>?_)
   ·unfold G4 at h
    refine cd h (fun hc h=>?_) fun hc h=>?_
    ·refine rn ?_
     obtain⟨fx,h⟩:=ck fx h
     obtain⟨fx,h⟩:=ck fx h
     refine dw [] 0 ?_
     obtain⟨v8,hv8,h⟩:=M1 h
     refine U8 (ih _ _ _ hv8) ?_
     try simp only[go_sem,fx]
     refine cd h (fun hc h=>?_) fun hc h=>?_
     ·refine ra ?_
      cases h
      refine bS ?_;have h:=congrArg some (hx0 _ rfl)
      exact rt
     ·refine rn ?_
      cases h
      exact I6 () (bm hsc)
    ·refine rn ?_
     cases h
     exact J9 () (bm0 hsc)
   ·try simp only[go_sem,fx]
    unfold U1 at h
    refine R6 hb ?_
    exact rt
end Go.Proofs.YtahjhbkhcaphgaaGreatDoor
