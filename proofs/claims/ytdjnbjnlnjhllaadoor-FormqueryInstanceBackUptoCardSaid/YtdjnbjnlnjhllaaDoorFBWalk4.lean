import Derived.Test.YtdjnbjnlnjhllaaDoorFBWalk3
set_option linter.unusedVariables false
set_option linter.unusedSimpArgs false
set_option maxHeartbeats 2000000
set_option maxRecDepth 100000
namespace Go.Proofs.YtdjnbjnlnjhllaaDoor
open Go Go.Am
theorem UM(n:Nat)(a0:Mb)(a1:LZ)(r:(List Ma)×Bool)(h:QD n a0 a1=some r):Pure Tryd.prog gl 31 [.agg [.int .i64 a0.form.kind,.str a0.form.name,.sl false 1 16 (rows Me a0.form.words),.sl false 4 72 (rows LZ.cells a0.form.subs),.sl false 1 16 (rows Me a0.words),.sl false 1 16 (rows Me a0.Mj),.sl false 1 16 (rows Me a0.parts)],.agg [.int .i64 a1.kind,.str a1.name,.sl false 1 16 (rows Me a1.words),.sl false 4 72 (rows LZ.cells a1.subs)]] (.tup [.sl false 6 104 (rows Ma.cells r.1),.bool r.2]):=by
 intro st
 unfold QD at h
 have fx:=trivial
 refine fb 83 [.tmp 4,.tmp 5] [0,1,2,3,4,5,6,7,8,9,11,13,14,24,27,28,29,30,47,48,49,50,61,62,63,64,65,72] Tryd.func31 fun hsc=>?_
 refine cl h (Xj n _) fun v1 h=>?_
 refine rn ?_
 obtain⟨v2,hv2,h⟩:=QJ h
 refine(Wu n _ _ _ _ _ hv2 _ _ (by simp) (Xv.trans rfl)).mono ?_
 rintro d1 st1 ⟨rfl,rfl⟩
 refine cd h (fun hc h=>?_) fun hc h=>?_
 ·refine rr ?_
  exact fo (.tup [.sl false 6 104 (rows Ma.cells []),.bool false]) (.tup _ _ (.cons _ _ _ _ (.Mk _ _ _ (by decide)) (.cons _ _ _ _ .s .nil)) rfl) h hsc
 ·refine cl h (Oo n _) fun v3 h=>?_
  try simp only[go_sem,fx]
  (repeat apply sq_)
  refine Te 1 16 ?_
  try simp only[List.append_assoc,List.cons_append,List.nil_append]
  refine Ql (F:=[(6,.mp (st.length+2)),(7,.ptr (st.length+3) 0 0 0),(8,.Mk),(9,.ref false (st.length+4) 0 0 0),(27,.sl false 1 16 (rows Me v3)),(28,.int .i64 (↑v3.length:Int)),(29,.int .i64 0)]) (T:=st++[some (.arr 0 7 0 [[.int .i64 a0.form.kind,.str a0.form.name,.sl false 1 16 (rows Me a0.form.words),.sl false 4 72 (rows LZ.cells a0.form.subs),.sl false 1 16 (rows Me a0.words),.sl false 1 16 (rows Me a0.Mj),.sl false 1 16 (rows Me a0.parts)]]),some (.arr 0 4 0 [[.int .i64 a1.kind,.str a1.name,.sl false 1 16 (rows Me a1.words),.sl false 4 72 (rows LZ.cells a1.subs)]]),some (.mps true (mrw Ma.cells v2.2)),some (.arr 0 7 0 [[.int .i64 v1.form.kind,.str v1.form.name,.sl false 1 16 (rows Me v1.form.words),.sl false 4 72 (rows LZ.cells v1.form.subs),.sl false 1 16 (rows Me v1.words),.sl false 1 16 (rows Me v1.Mj),.sl false 1 16 (rows Me v1.parts)]]),some (.arr 0 1 16 (rows Me []))]) (d7N hsc (.lv (.lv (.lv (.lv (.lv (.nil _)))))) (by simp) ⟨.s,.s,.s,.nref _ _ _ _ _ _ (d2t.trans rfl),.s,.s,.s,trivial⟩ (by simp)) ?_
  refine aln 27 fun hl0=>?_
  refine rng (body:=Rg v3 v2) (kk:=Rh n v1 v2) (n:=v3.length) (s0:=[])
   (fun(gs0:Nat) (k0:Nat) (s0:(List Bs))=>[(6,.mp (st.length+2)),(7,.ptr (st.length+3) 0 0 0),(8,.Mk),(9,.ref false (st.length+4) gs0 0 s0.length),(27,.sl false 1 16 (rows Me v3)),(28,.int .i64 (↑v3.length:Int)),(29,.int .i64 (↑k0:Int))])
   (fun(gs0:Nat) (k0:Nat) (s0:(List Bs))=>st++[none,none,some (.mps true (mrw Ma.cells v2.2)),some (.arr 0 7 0 [[.int .i64 v1.form.kind,.str v1.form.name,.sl false 1 16 (rows Me v1.form.words),.sl false 4 72 (rows LZ.cells v1.form.subs),.sl false 1 16 (rows Me v1.words),.sl false 1 16 (rows Me v1.Mj),.sl false 1 16 (rows Me v1.parts)]]),some (.arr gs0 1 16 (rows Me s0))])
   (fun(gt0:Nat) (t0:(List Bs))=>[(6,.mp (st.length+2)),(7,.ptr (st.length+3) 0 0 0),(8,.Mk),(9,.ref false (st.length+4) gt0 0 t0.length)])
   (fun(gt0:Nat) (t0:(List Bs))=>st++[none,none,some (.mps true (mrw Ma.cells v2.2)),some (.arr 0 7 0 [[.int .i64 v1.form.kind,.str v1.form.name,.sl false 1 16 (rows Me v1.form.words),.sl false 4 72 (rows LZ.cells v1.form.subs),.sl false 1 16 (rows Me v1.words),.sl false 1 16 (rows Me v1.Mj),.sl false 1 16 (rows Me v1.parts)]]),some (.arr gt0 1 16 (rows Me t0))])
   0 fx hl0 h (bm hsc)
   (fun gs0 k0 s0 b0 fx h hx0=>?_) (fun gs0 s0=>?_) (fun gt0 t0 fr1 st1 h hb=>?_)
  ·unfold Rg at h
   refine ct ?_
   refine r0 ?_
   refine r0 ?_
   refine r0 ?_
   obtain⟨c11,i3s,h⟩:=Yp h
   have fy:=(show rows Me s0++[[.str (((assoc (get v3 k0) v2.2).getD default).text)]]=rows Me c11 from by rw[i3s];first|exact ND (E:=Me) s0 [((assoc (get v3 k0) v2.2).getD default).text]|simp only[go_sem,rows,List.map_append,List.map_cons,List.map_nil])
   have fy:=fa fy (show s0.length+1=c11.length from by rw[i3s];simp)
   obtain⟨fx,h⟩:=ck fx h
   refine r1 ?_
   refine rn ?_
   cases h
   exact Um (gs0+1) (bm hsc)
  ·refine cf ?_
   refine Ud ?_;simp only[go_sem,fx]
   exact⟨gs0,(bm hsc)⟩
  ·try simp only[go_sem,fx]
   unfold Rh at h
   refine Ql hb ?_
   refine rs ?_
   refine dw [] 1 ?_
   obtain⟨v16,hv16,h⟩:=QJ h
   refine Pt (Qv _ _ hv16) ?_
   try simp only[go_sem,fx]
   obtain⟨v17,hv17,h⟩:=QJ h
   refine Pt (Oo n _ _ hv17) ?_
   try simp only[go_sem,fx]
   obtain⟨v19,hv19,h⟩:=QJ h
   refine Pt (XD _ _ hv19) ?_
   try simp only[go_sem,fx]
   (repeat apply sq_)
   refine Te 6 104 ?_
   try simp only[List.append_assoc,List.cons_append,List.nil_append]
   refine Ql (F:=[(6,.mp (st.length+2)),(7,.ptr (st.length+3) 0 0 0),(8,.ref false (st.length+6) 0 0 0),(9,.ref false (st.length+4) gt0 0 t0.length),(47,.sl false 1 16 (rows Me v19)),(48,.int .i64 (↑v19.length:Int)),(49,.int .i64 0)]) (T:=st++[none,none,some (.mps true (mrw Ma.cells v2.2)),some (.arr 0 7 0 [[.int .i64 v1.form.kind,.str v1.form.name,.sl false 1 16 (rows Me v1.form.words),.sl false 4 72 (rows LZ.cells v1.form.subs),.sl false 1 16 (rows Me v1.words),.sl false 1 16 (rows Me v1.Mj),.sl false 1 16 (rows Me v1.parts)]]),some (.arr gt0 1 16 (rows Me t0)),none,some (.arr 0 6 104 (rows Ma.cells []))]) (d7N hsc (.dead _ _ _ (.dead _ _ _ (.lv (.lv (.lv (.dead _ _ _ (.lv (.nil _)))))))) (by simp) ⟨.s,.s,.nref _ _ _ _ _ _ (d2t.trans rfl),.s,.s,.s,.s,trivial⟩ (by simp)) ?_
   refine aln 47 fun hl1=>?_
   refine rng (body:=Ri n v1 v19 v2 t0) (kk:=Rj) (n:=v19.length) (s0:=[])
    (fun(gs1:Nat) (k1:Nat) (s1:(List Ma))=>[(6,.mp (st.length+2)),(7,.ptr (st.length+3) 0 0 0),(8,.ref false (st.length+6) gs1 0 s1.length),(9,.ref false (st.length+4) gt0 0 t0.length),(47,.sl false 1 16 (rows Me v19)),(48,.int .i64 (↑v19.length:Int)),(49,.int .i64 (↑k1:Int))])
    (fun(gs1:Nat) (k1:Nat) (s1:(List Ma))=>st++[none,none,some (.mps true (mrw Ma.cells v2.2)),some (.arr 0 7 0 [[.int .i64 v1.form.kind,.str v1.form.name,.sl false 1 16 (rows Me v1.form.words),.sl false 4 72 (rows LZ.cells v1.form.subs),.sl false 1 16 (rows Me v1.words),.sl false 1 16 (rows Me v1.Mj),.sl false 1 16 (rows Me v1.parts)]]),some (.arr gt0 1 16 (rows Me t0)),none,some (.arr gs1 6 104 (rows Ma.cells s1))])
    (fun(gt1:Nat) (t1:(List Ma))=>[(8,.ref false (st.length+6) gt1 0 t1.length)])
    (fun(gt1:Nat) (t1:(List Ma))=>st++[none,none,none,none,none,none,some (.arr gt1 6 104 (rows Ma.cells t1))])
    0 fx hl1 h (bm hsc)
    (fun gs1 k1 s1 b1 fx h hx1=>?_) (fun gs1 s1=>?_) (fun gt1 t1 fr1 st1 h hb=>?_)
   ·unfold Ri at h
    refine ct ?_
    refine cl h (Mh _ _) fun v38 h=>?_
    refine rn ?_
    obtain⟨v39,hv39,h⟩:=QJ h
    refine i2B (fun hG=>(RT _ _ _ (d3Z hv39 (by simpa using hG)) _ _ gt0 (by simp) (Xv.trans rfl))) (fun hF=>by obtain rfl:=i6C hv39 (by simpa using hF);simp only[go_sem,fx]) ?_
    refine cd h (fun hc h=>?_) fun hc h=>?_
    ·refine ra ?_
     cases h
     refine OG ?_;have h:=congrArg some (hx1 _ rfl)
     refine rr ?_
     exact fo (.tup [.sl false 6 104 (rows Ma.cells []),.bool false]) (.tup _ _ (.cons _ _ _ _ (.Mk _ _ _ (by decide)) (.cons _ _ _ _ .s .nil)) rfl) h hsc
    ·obtain⟨fx,h⟩:=ck fx h
     refine cl h (Mh _ _) fun v42 h=>?_
     refine cd h (fun hc h=>?_) fun hc h=>?_
     ·refine cl h (ZA n _) fun v43 h=>?_
      try simp only[go_sem,fx]
      obtain⟨c45,i5Z,h⟩:=Yp h
      have fy:=(show rows Ma.cells s1++[[.str ((get v19 k1).drop 1),.str (((assoc (get v19 k1) v2.2).getD default).text),.int .i64 v43.kind,.str v43.name,.sl false 1 16 (rows Me v43.words),.sl false 4 72 (rows LZ.cells v43.subs)]]=rows Ma.cells c45 from by rw[i5Z];first|exact ND (E:=Ma.cells) s1 [(Ma.mk ((get v19 k1).drop 1) (((assoc (get v19 k1) v2.2).getD default).text) v43)]|simp only[go_sem,rows,List.map_append,List.map_cons,List.map_nil])
      have fy:=fa fy (show s1.length+1=c45.length from by rw[i5Z];simp)
      obtain⟨fx,h⟩:=ck fx h
      refine r1 ?_
      refine rn ?_
      cases h
      exact Um (gs1+1) (bm hsc)
     ·refine r0 ?_
      obtain⟨c51,i6a,h⟩:=Yp h
      have fy:=(show rows Ma.cells s1++[[.str ((get v19 k1).drop 1),.str (((assoc (get v19 k1) v2.2).getD default).text),.int .i64 (((assoc (get v19 k1) v2.2).getD default).form.kind),.str (((assoc (get v19 k1) v2.2).getD default).form.name),.sl false 1 16 (rows Me (((assoc (get v19 k1) v2.2).getD default).form.words)),.sl false 4 72 (rows LZ.cells (((assoc (get v19 k1) v2.2).getD default).form.subs))]]=rows Ma.cells c51 from by rw[i6a];first|exact ND (E:=Ma.cells) s1 [(Ma.mk ((get v19 k1).drop 1) (((assoc (get v19 k1) v2.2).getD default).text) (((assoc (get v19 k1) v2.2).getD default).form))]|simp only[go_sem,rows,List.map_append,List.map_cons,List.map_nil])
      have fy:=fa fy (show s1.length+1=c51.length from by rw[i6a];simp)
      obtain⟨fx,h⟩:=ck fx h
      refine r1 ?_
      refine rn ?_
      cases h
      exact Um (gs1+1) (bm hsc)
   ·refine cf ?_
    refine Ud ?_;simp only[go_sem,fx]
    exact⟨gs1,(bm hsc)⟩
   ·try simp only[go_sem,fx]
    unfold Rj at h
    refine Ql hb ?_
    refine rr ?_
    exact fo (.tup [.sl false 6 104 (rows Ma.cells t1),.bool true]) (.tup _ _ (.cons _ _ _ _ (.ref _ _ _ _ _ _ _ _ _ (d2t.trans rfl) d8B (by decide) (ZJ _) (by simp only[go_sem])) (.cons _ _ _ _ .s .nil)) rfl) h hsc
theorem Ul(n:Nat)(a0:Mb)(a1:LZ)(r:(List Ma)×Bool×Mi)(h:Qa n a0 a1=some r):Pure Tryd.prog gl 13 [.agg [.int .i64 a0.form.kind,.str a0.form.name,.sl false 1 16 (rows Me a0.form.words),.sl false 4 72 (rows LZ.cells a0.form.subs),.sl false 1 16 (rows Me a0.words),.sl false 1 16 (rows Me a0.Mj),.sl false 1 16 (rows Me a0.parts)],.agg [.int .i64 a1.kind,.str a1.name,.sl false 1 16 (rows Me a1.words),.sl false 4 72 (rows LZ.cells a1.subs)]] (.tup [.sl false 6 104 (rows Ma.cells r.1),.bool r.2.1,.agg [.int .i64 r.2.2.code,.int .i64 r.2.2.index]]):=by
 intro st
 unfold Qa at h
 have fx:=trivial
 refine fb 33 [.tmp 4,.tmp 5,.cell 6 30] [0,1,2,3,4,5,6,7,8,9,10,15,21] Tryd.func13 fun hsc=>?_
 refine cl h (QN n _) fun v1 h=>?_
 refine cd h (fun hc h=>?_) fun hc h=>?_
 ·refine rs ?_
  refine dw [] 0 ?_
  refine rr ?_
  exact fo (.tup [.sl false 6 104 (rows Ma.cells []),.bool false,.agg [.int .i64 v1.code,.int .i64 v1.index]]) (.tup _ _ (.cons _ _ _ _ (.Mk _ _ _ (by decide)) (.cons _ _ _ _ .s (.cons _ _ _ _ .s .nil))) rfl) h hsc
 ·refine cl h (OZ n _) fun v2 h=>?_
  refine cd h (fun hc h=>?_) fun hc h=>?_
  ·refine rs ?_
   refine dw [] 0 ?_
   refine rr ?_
   exact fo (.tup [.sl false 6 104 (rows Ma.cells []),.bool false,.agg [.int .i64 v2.code,.int .i64 v2.index]]) (.tup _ _ (.cons _ _ _ _ (.Mk _ _ _ (by decide)) (.cons _ _ _ _ .s (.cons _ _ _ _ .s .nil))) rfl) h hsc
  ·refine rn ?_
   refine dw [] 0 ?_
   obtain⟨v3,hv3,h⟩:=QJ h
   refine Pt (RF n _ _ hv3) ?_
   try simp only[go_sem,fx]
   obtain⟨v4,hv4,h⟩:=QJ h
   refine Pt (UM n _ _ _ hv4) ?_
   try simp only[go_sem,fx]
   exact rt
theorem XO:∀(n:Nat) (a0:LZ) (MB:Int) (MN:Int) (d1f:Bs) (d1g:(List Bs)) (d1h:(List LZ)) (d1i:(List Bs)) (d1j:(List Bs)) (d1k:(List Bs)) (l3:(List Ml)) (r:Int×(List Ml)) (h:Pc n a0 MB MN d1f d1g d1h d1i d1j d1k l3=some r),∀(st:St) (o0 o1 o2 o3 o4 q3:Nat) (hnd: [o0,o1,o2,o3,o4].Nodup) (QM:Am.look st o0=some (.arr 0 1 0 [[.int .i64 MB]])) (Xm:Am.look st o1=some (.arr 0 7 0 [[.int .i64 MN,.str d1f,.sl false 1 16 (rows Me d1g),.sl false 4 72 (rows LZ.cells d1h),.sl false 1 16 (rows Me d1i),.sl false 1 16 (rows Me d1j),.sl false 1 16 (rows Me d1k)]])) (d3A:Am.look st o2=some (.arr 0 1 0 [[.ref false o3 q3 0 l3.length]])) (i1d:Am.look st o3=some (.arr q3 2 32 (rows Ml.cells l3))) (i1e:Am.look st o4=some (.arr 0 1 0 [[.fn 30 [] [.ptr o0 0 0 0,.ptr o1 0 0 0,.ptr o2 0 0 0,.ptr o4 0 0 0]]])),Am.Spec Tryd.prog gl 30 [.agg [.int .i64 a0.kind,.str a0.name,.sl false 1 16 (rows Me a0.words),.sl false 4 72 (rows LZ.cells a0.subs)],.ptr o0 0 0 0,.ptr o1 0 0 0,.ptr o2 0 0 0,.ptr o4 0 0 0] st (fun d st'=>∃zo3:Nat,d= .tup []∧st'=puts st [(o0,(.arr 0 1 0 [[.int .i64 r.1]])),(o1,(.arr 0 7 0 [[.int .i64 MN,.str d1f,.sl false 1 16 (rows Me d1g),.sl false 4 72 (rows LZ.cells d1h),.sl false 1 16 (rows Me d1i),.sl false 1 16 (rows Me d1j),.sl false 1 16 (rows Me d1k)]])),(o2,(.arr 0 1 0 [[.ref false o3 zo3 0 r.2.length]])),(o3,(.arr zo3 2 32 (rows Ml.cells r.2))),(o4,(.arr 0 1 0 [[.fn 30 [] [.ptr o0 0 0 0,.ptr o1 0 0 0,.ptr o2 0 0 0,.ptr o4 0 0 0]]]))]):=by
 intro n
 induction n with
 |zero=>intro a0 MB MN d1f d1g d1h d1i d1j d1k l3 r h;cases h
 |succ n ih=>
  intro a0 MB MN d1f d1g d1h d1i d1j d1k l3 r h st o0 o1 o2 o3 o4 q3 hnd QM Xm d3A i1d i1e
  unfold Pc at h
  have ho0:=MZ QM
  have ho1:=MZ Xm
  have ho2:=MZ d3A
  have ho3:=MZ i1d
  have ho4:=MZ i1e
  have fx:=fa (fa (fa (fa (fa (idf ho0) (idf ho1)) (idf ho2)) (idf ho3)) (idf ho4)) (nd5 hnd)
  refine fb 38 [] [0,1,2,3,4,5,6,7,8,10,20,28,29,30,31] Tryd.func30 fun hsc=>?_
  refine Tf (s':=(Nf st [(o0,(.arr 0 1 0 [[.int .i64 MB]])),(o1,(.arr 0 7 0 [[.int .i64 MN,.str d1f,.sl false 1 16 (rows Me d1g),.sl false 4 72 (rows LZ.cells d1h),.sl false 1 16 (rows Me d1i),.sl false 1 16 (rows Me d1j),.sl false 1 16 (rows Me d1k)]])),(o2,(.arr 0 1 0 [[.ref false o3 q3 0 l3.length]])),(o3,(.arr q3 2 32 (rows Ml.cells l3))),(o4,(.arr 0 1 0 [[.fn 30 [] [.ptr o0 0 0 0,.ptr o1 0 0 0,.ptr o2 0 0 0,.ptr o4 0 0 0]]]))])) (MS (by simp[QM,Xm,d3A,i1d,i1e])) ?_
  refine cl h (UM n _ _) fun v1 h=>?_
  refine rn ?_
  refine Sw (QH (Pc n) a0 MN d1f d1g d1h d1i d1j d1k MB) r (fun(gj0:Nat) (j0:(List Ml))=>[(4,.ptr o4 0 0 0),(5,.ptr st.length 0 0 0)]) (fun(gj0:Nat) (j0:(List Ml))=>(Nf st [(o0,(.arr 0 1 0 [[.int .i64 (wr .i64 (MB+1))]])),(o1,(.arr 0 7 0 [[.int .i64 MN,.str d1f,.sl false 1 16 (rows Me d1g),.sl false 4 72 (rows LZ.cells d1h),.sl false 1 16 (rows Me d1i),.sl false 1 16 (rows Me d1j),.sl false 1 16 (rows Me d1k)]])),(o2,(.arr 0 1 0 [[.ref false o3 gj0 0 j0.length]])),(o3,(.arr gj0 2 32 (rows Ml.cells j0))),(o4,(.arr 0 1 0 [[.fn 30 [] [.ptr o0 0 0 0,.ptr o1 0 0 0,.ptr o2 0 0 0,.ptr o4 0 0 0]]]))])++[some (.arr 0 4 0 [[.int .i64 a0.kind,.str a0.name,.sl false 1 16 (rows Me a0.words),.sl false 4 72 (rows LZ.cells a0.subs)]])]) (fun gj0 j0 fr1 st1 h hb=>?_) (fun hj0=>?_)
  ·try simp only[go_sem,fx]
   unfold QH at h
   refine Ql hb ?_
   refine aln 28 fun hl1=>?_
   refine rng (body:=RR (Pc n) a0 MN d1f d1g d1h d1i d1j d1k) (kk:=RS) (n:=a0.subs.length) (s0:=((wr .i64 (MB+1)),j0))
    (fun(gs1:Nat) (k1:Nat) (s1:Int×(List Ml))=>[(4,.ptr o4 0 0 0),(28,.sl false 4 72 (rows LZ.cells a0.subs)),(29,.int .i64 (↑a0.subs.length:Int)),(30,.int .i64 (↑k1:Int))])
    (fun(gs1:Nat) (k1:Nat) (s1:Int×(List Ml))=>(Nf st [(o0,(.arr 0 1 0 [[.int .i64 s1.1]])),(o1,(.arr 0 7 0 [[.int .i64 MN,.str d1f,.sl false 1 16 (rows Me d1g),.sl false 4 72 (rows LZ.cells d1h),.sl false 1 16 (rows Me d1i),.sl false 1 16 (rows Me d1j),.sl false 1 16 (rows Me d1k)]])),(o2,(.arr 0 1 0 [[.ref false o3 gs1 0 s1.2.length]])),(o3,(.arr gs1 2 32 (rows Ml.cells s1.2))),(o4,(.arr 0 1 0 [[.fn 30 [] [.ptr o0 0 0 0,.ptr o1 0 0 0,.ptr o2 0 0 0,.ptr o4 0 0 0]]]))]))
    (fun(gt1:Nat) (t1:Int×(List Ml))=>[])
    (fun(gt1:Nat) (t1:Int×(List Ml))=>(Nf st [(o0,(.arr 0 1 0 [[.int .i64 t1.1]])),(o1,(.arr 0 7 0 [[.int .i64 MN,.str d1f,.sl false 1 16 (rows Me d1g),.sl false 4 72 (rows LZ.cells d1h),.sl false 1 16 (rows Me d1i),.sl false 1 16 (rows Me d1j),.sl false 1 16 (rows Me d1k)]])),(o2,(.arr 0 1 0 [[.ref false o3 gt1 0 t1.2.length]])),(o3,(.arr gt1 2 32 (rows Ml.cells t1.2))),(o4,(.arr 0 1 0 [[.fn 30 [] [.ptr o0 0 0 0,.ptr o1 0 0 0,.ptr o2 0 0 0,.ptr o4 0 0 0]]]))]))
    gj0 fx hl1 h (bu0 hsc)
    (fun gs1 k1 s1 b1 fx h hx1=>?_) (fun gs1 s1=>?_) (fun gt1 t1 fr1 st1 h hb=>?_)
   ·unfold RR at h
    refine ct ?_
    refine rn ?_
    obtain⟨v10,hv10,h⟩:=QJ h
    refine(ih _ _ _ _ _ _ _ _ _ _ _ hv10 _ _ _ _ _ _ gs1 hnd (by simp only[go_sem,fx]) (by simp only[go_sem,fx]) (by simp only[go_sem,fx]) (by simp only[go_sem,fx]) (by simp only[go_sem,fx])).mono ?_
    rintro d1 st1 ⟨g11,rfl,rfl⟩
    refine rn ?_
    cases h
    exact Um g11 (bu0 hsc)
   ·refine cf ?_
    refine Ud ?_;simp only[go_sem,fx]
    exact⟨gs1,(d7O hsc)⟩
   ·try simp only[go_sem,fx]
    unfold RS at h
    refine d4c hb ?_
    refine rr ?_
    exact fus (.tup []) (.same _) h hsc (hr:=by rintro rfl;exact⟨gt1,rfl,rfl⟩)
  ·refine cd h (fun hc h=>?_) fun hc h=>?_
   ·obtain⟨c3,hc3,h⟩:=Yp h
    have fy:=(show rows Ml.cells l3++[[.int .i64 MB,.sl false 6 104 (rows Ma.cells v1.1)]]=rows Ml.cells c3 from by rw[hc3];first|exact ND (E:=Ml.cells) l3 [(Ml.mk MB v1.1)]|simp only[go_sem,rows,List.map_append,List.map_cons,List.map_nil])
    have fy:=fa fy (show l3.length+1=c3.length from by rw[hc3];simp)
    obtain⟨fx,h⟩:=ck fx h
    refine r1 ?_
    refine hj0 (q3+1) _ _ _ h ?_;exact(bu hsc)
   ·refine r0 ?_
    refine hj0 q3 _ _ _ h ?_;exact(bu hsc)
theorem Yg(n:Nat)(a0:Mb)(a1:LZ)(r:(List Ml)×Mi)(h:UG n a0 a1=some r):Pure Tryd.prog gl 10 [.agg [.int .i64 a0.form.kind,.str a0.form.name,.sl false 1 16 (rows Me a0.form.words),.sl false 4 72 (rows LZ.cells a0.form.subs),.sl false 1 16 (rows Me a0.words),.sl false 1 16 (rows Me a0.Mj),.sl false 1 16 (rows Me a0.parts)],.agg [.int .i64 a1.kind,.str a1.name,.sl false 1 16 (rows Me a1.words),.sl false 4 72 (rows LZ.cells a1.subs)]] (.tup [.sl false 2 32 (rows Ml.cells r.1),.agg [.int .i64 r.2.code,.int .i64 r.2.index]]):=by
 intro st
 unfold UG at h
 have fx:=trivial
 refine fb 30 [.tmp 4,.cell 5 30] [0,1,2,3,4,5,6,7,8,9,10,15,21] Tryd.func10 fun hsc=>?_
 refine cl h (QN n _) fun v1 h=>?_
 refine cd h (fun hc h=>?_) fun hc h=>?_
 ·refine rs ?_
  refine dw [] 0 ?_
  refine rr ?_
  exact fo (.tup [.sl false 2 32 (rows Ml.cells []),.agg [.int .i64 v1.code,.int .i64 v1.index]]) (.tup _ _ (.cons _ _ _ _ (.Mk _ _ _ (by decide)) (.cons _ _ _ _ .s .nil)) rfl) h hsc
 ·refine cl h (OZ n _) fun v2 h=>?_
  refine cd h (fun hc h=>?_) fun hc h=>?_
  ·refine rs ?_
   refine dw [] 0 ?_
   refine rr ?_
   exact fo (.tup [.sl false 2 32 (rows Ml.cells []),.agg [.int .i64 v2.code,.int .i64 v2.index]]) (.tup _ _ (.cons _ _ _ _ (.Mk _ _ _ (by decide)) (.cons _ _ _ _ .s .nil)) rfl) h hsc
  ·refine r0 ?_
   refine r0 ?_
   refine r0 ?_
   refine r0 ?_
   refine r0 ?_
   (repeat apply sq_)
   refine Te 2 32 ?_
   try simp only[List.append_assoc,List.cons_append,List.nil_append]
   refine Ql (F:=[(3,.ptr (st.length+1) 0 0 0),(5,.ptr (st.length+2) 0 0 0),(8,.ptr (st.length+5) 0 0 0),(10,.ptr (st.length+7) 0 0 0)]) (T:=st++[some (.arr 0 7 0 [[.int .i64 a0.form.kind,.str a0.form.name,.sl false 1 16 (rows Me a0.form.words),.sl false 4 72 (rows LZ.cells a0.form.subs),.sl false 1 16 (rows Me a0.words),.sl false 1 16 (rows Me a0.Mj),.sl false 1 16 (rows Me a0.parts)]]),some (.arr 0 4 0 [[.int .i64 a1.kind,.str a1.name,.sl false 1 16 (rows Me a1.words),.sl false 4 72 (rows LZ.cells a1.subs)]]),some (.arr 0 2 0 [[.int .i64 0,.int .i64 0]]),some (.arr 0 2 0 [[.int .i64 v1.code,.int .i64 v1.index]]),some (.arr 0 2 0 [[.int .i64 v2.code,.int .i64 v2.index]]),some (.arr 0 1 0 [[.ref false (st.length+8) 0 0 0]]),some (.arr 0 1 0 [[.int .i64 0]]),some (.arr 0 1 0 [[.fn 30 [] [.ptr (st.length+6) 0 0 0,.ptr st.length 0 0 0,.ptr (st.length+5) 0 0 0,.ptr (st.length+7) 0 0 0]]]),some (.arr 0 2 32 (rows Ml.cells []))]) (d7N hsc (.lv (.lv (.lv (.lv (.lv (.live _ _ _ _ (.arr _ _ _ _ _ (.cons _ _ _ _ (.cons _ _ _ _ (.nref _ _ _ _ _ _ (d2t.trans rfl)) .nil) (.same _))) (.lv (.lv (.lv (.nil _)))))))))) (by simp) ⟨.s,.s,.s,.s,trivial⟩ (by simp)) ?_
   refine rs ?_
   refine dwl [] 0 3 ?_
   obtain⟨v3,hv3,h⟩:=QJ h
   refine Pt (RF n _ _ hv3) ?_
   try simp only[go_sem,fx]
   obtain⟨v4,hv4,h⟩:=QJ h
   try simp only[go_sem,fx]
   refine(XO n _ _ _ _ _ _ _ _ _ _ _ hv4 _ _ _ _ _ _ 0 (by simp) (Xv.trans rfl) (Ta.trans rfl) (Xv.trans rfl) (Xv.trans rfl) (Xv.trans rfl)).mono ?_
   rintro d1 st1 ⟨g5,rfl,rfl⟩
   try simp only[go_sem,fx]
   refine rr ?_
   exact fo (.tup [.sl false 2 32 (rows Ml.cells v4.2),.agg [.int .i64 0,.int .i64 0]]) (.tup _ _ (.cons _ _ _ _ (.ref _ _ _ _ _ _ _ _ _ (d2t.trans rfl) d8B (by decide) (ZJ _) (by simp only[go_sem])) (.cons _ _ _ _ .s .nil)) rfl) h hsc
theorem Ts(n:Nat)(a0:(List Bs))(a1:(List Bs))(r:Bool)(h:Np n a0 a1=some r):Pure Tryd.prog gl 40 [.sl false 1 16 (rows Me a0),.sl false 1 16 (rows Me a1)] (.bool r):=by
 intro st
 unfold Np at h
 have fx:=trivial
 refine fb 26 [.tmp 4] [0,1,4,5,10,14,25] Tryd.func40 fun hsc=>?_
 refine cd h (fun hc h=>?_) fun hc h=>?_
 ·exact rt
 ·refine rn ?_
  refine Vg (body:=MV a0 a1) (kk:=OC) (n:=n) (s0:=0)
   (fun(gs0:Unit) (s0:Int)=>[(0,.sl false 1 16 (rows Me a0)),(1,.sl false 1 16 (rows Me a1)),(5,.int .i64 s0)])
   (fun(gs0:Unit) (s0:Int)=>st)
   (fun(gt0:Unit) (t0:Unit)=>[])
   (fun(gt0:Unit) (t0:Unit)=>st)
   () h (Zf hsc)
   (fun gs0 s0 b0 h hx0=>?_) (fun gt0 t0 fr1 st1 h hb=>?_)
  ·unfold MV at h
   refine cd h (fun hc h=>?_) fun hc h=>?_
   ·refine rn ?_
    obtain⟨fx,h⟩:=ck fx h
    obtain⟨fx,h⟩:=ck fx h
    refine dw [] 0 ?_
    refine cd h (fun hc h=>?_) fun hc h=>?_
    ·refine ra ?_
     cases h
     refine d0K ?_;have h:=congrArg some (hx0 _ rfl)
     exact rt
    ·refine rn ?_
     cases h
     exact Zc () (Zf hsc)
   ·refine rn ?_
    cases h
    exact Zd () (Zf hsc)
  ·try simp only[go_sem,fx]
   unfold OC at h
   refine Ql hb ?_
   exact rt
theorem OJ:∀(n:Nat) (a0:LZ) (a1:LZ) (r:Bool) (h:Mt n a0 a1=some r),Pure Tryd.prog gl 15 [.agg [.int .i64 a0.kind,.str a0.name,.sl false 1 16 (rows Me a0.words),.sl false 4 72 (rows LZ.cells a0.subs)],.agg [.int .i64 a1.kind,.str a1.name,.sl false 1 16 (rows Me a1.words),.sl false 4 72 (rows LZ.cells a1.subs)]] (.bool r):=by
 intro n
 induction n with
 |zero=>intro a0 a1 r h;cases h
 |succ n ih=>
  intro a0 a1 r h st
  unfold Mt at h
  have fx:=trivial
  refine fb 54 [.tmp 4] [0,1,2,3,4,5,12,13,14,15,16,19,20,21,22,23,24,27,28,29,30,31,32,33,34,39,53] Tryd.func15 fun hsc=>?_
  refine rn ?_
  obtain⟨v1,hv1,h⟩:=QJ h
  refine SZ (fun hG=>(Ts n _ _ _ (d3Z hv1 (by simpa using hG)))) ?_
  refine cd h (fun hc h=>?_) fun hc h=>?_
  ·exact rt
  ·refine rn ?_
   refine Vg (body:=Ng (Mt n) a0 a1) (kk:=OI) (n:=n) (s0:=0)
    (fun(gs0:Unit) (s0:Int)=>[(2,.ptr st.length 0 0 0),(3,.ptr (st.length+1) 0 0 0),(5,.int .i64 s0)])
    (fun(gs0:Unit) (s0:Int)=>st++[some (.arr 0 4 0 [[.int .i64 a0.kind,.str a0.name,.sl false 1 16 (rows Me a0.words),.sl false 4 72 (rows LZ.cells a0.subs)]]),some (.arr 0 4 0 [[.int .i64 a1.kind,.str a1.name,.sl false 1 16 (rows Me a1.words),.sl false 4 72 (rows LZ.cells a1.subs)]])])
    (fun(gt0:Unit) (t0:Unit)=>[])
    (fun(gt0:Unit) (t0:Unit)=>st)
    () h (bm hsc)
    (fun gs0 s0 b0 h hx0=>?_) (fun gt0 t0 fr1 st1 h hb=>?_)
   ·unfold Ng at h
    refine cd h (fun hc h=>?_) fun hc h=>?_
    ·refine rn ?_
     obtain⟨fx,h⟩:=ck fx h
     obtain⟨fx,h⟩:=ck fx h
     refine dw [] 0 ?_
     obtain⟨v8,hv8,h⟩:=QJ h
     refine Pt (ih _ _ _ hv8) ?_
     try simp only[go_sem,fx]
     refine cd h (fun hc h=>?_) fun hc h=>?_
     ·refine ra ?_
      cases h
      refine d0K ?_;have h:=congrArg some (hx0 _ rfl)
      exact rt
     ·refine rn ?_
      cases h
      exact Zc () (bm hsc)
    ·refine rn ?_
     cases h
     exact Zd () (bm0 hsc)
   ·try simp only[go_sem,fx]
    unfold OI at h
    refine Ql hb ?_
    exact rt
end Go.Proofs.YtdjnbjnlnjhllaaDoor
