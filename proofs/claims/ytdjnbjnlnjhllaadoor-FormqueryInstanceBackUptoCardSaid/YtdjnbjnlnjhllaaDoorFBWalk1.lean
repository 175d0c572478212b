import Derived.Test.YtdjnbjnlnjhllaaDoorFBWalk0
set_option linter.unusedVariables false
set_option linter.unusedSimpArgs false
set_option maxHeartbeats 2000000
set_option maxRecDepth 100000
namespace Go.Proofs.YtdjnbjnlnjhllaaDoor
open Go Go.Am
theorem Tw{l r:(List Bs)}(h:Nk l=some r):r.length=l.length:=by
 unfold Nk at h
 obtain⟨_,h⟩:=i1t h
 obtain rfl:=Option.some.inj h
 exact(Uf _ _).length_eq
set_option maxRecDepth 100000 in
theorem TS(l0:(List Bs))(r:(List Bs))(h:Nk l0=some r):∀(st:St) (o0 q0:Nat) (hnd: [o0].Nodup) (QM:Am.look st o0=some (.arr q0 1 16 (rows Me l0))),Am.Spec Tryd.prog gl 43 [.ref false o0 q0 0 l0.length] st (fun d st'=>d= .tup []∧st'=puts st [(o0,(.arr q0 1 16 (rows Me r)))]):=by
 intro st o0 q0 hnd QM
 unfold Nk at h
 obtain⟨hl,h⟩:=i1t h
 obtain rfl:=Option.some.inj h
 rw[←d8K]
 exact d1U i0Y (by kernel_rfl) QM hl
set_option maxRecDepth 100000 in
theorem SI(l0:(List Bs))(r:(List Bs))(h:NR l0=some r):∀(st:St) (o0 q0:Nat) (hnd: [o0].Nodup) (QM:Am.look st o0=some (.arr q0 1 16 (rows Me l0))),Am.Spec Tryd.prog gl 44 [.ref false o0 q0 0 l0.length] st (fun d st'=>d= .ref false o0 q0 0 (Lib.compact l0).length∧st'=puts st [(o0,.arr q0 1 16 (rows Me (cpt l0)))]):=by
 intro st o0 q0 hnd QM
 unfold NR at h
 obtain⟨hl,h⟩:=i1t h
 exact Zg i0Z (by kernel_rfl) QM hl
theorem Tr(n:Nat)(a0:LZ)(r:(List Bs))(h:OO n a0=some r):Pure Tryd.prog gl 21 [.agg [.int .i64 a0.kind,.str a0.name,.sl false 1 16 (rows Me a0.words),.sl false 4 72 (rows LZ.cells a0.subs)]] (.sl false 1 16 (rows Me r)):=by
 intro st
 unfold OO at h
 have fx:=trivial
 refine fb 13 [.tmp 2] [0,1,2,3,4] Tryd.func21 fun hsc=>?_
 refine r0 ?_
 refine r0 ?_
 refine r0 ?_
 refine r0 ?_
 (repeat apply sq_)
 refine Te 1 16 ?_
 try simp only[List.append_assoc,List.cons_append,List.nil_append]
 refine Ql (F:=[(1,.ptr st.length 0 0 0),(3,.ptr (st.length+1) 0 0 0),(4,.ptr (st.length+2) 0 0 0)]) (T:=st++[some (.arr 0 4 0 [[.int .i64 a0.kind,.str a0.name,.sl false 1 16 (rows Me a0.words),.sl false 4 72 (rows LZ.cells a0.subs)]]),some (.arr 0 1 0 [[.ref false (st.length+3) 0 0 0]]),some (.arr 0 1 0 [[.fn 42 [] [.ptr (st.length+1) 0 0 0,.ptr (st.length+2) 0 0 0]]]),some (.arr 0 1 16 (rows Me []))]) (d7N hsc (.lv (.live _ _ _ _ (.arr _ _ _ _ _ (.cons _ _ _ _ (.cons _ _ _ _ (.nref _ _ _ _ _ _ (d2t.trans rfl)) .nil) (.same _))) (.lv (.lv (.nil _))))) (by simp) ⟨.s,.s,.s,trivial⟩ (by simp)) ?_
 refine rn ?_
 obtain⟨v1,hv1,h⟩:=QJ h
 refine((VP n _ _ _ _ hv1 _ _ _ _ 0 (by simp) (Xv.trans rfl) (Xv.trans rfl) (Xv.trans rfl)).up (.cons _ _ _ _ .s (.cons _ _ _ _ (.Mk _ _ _ (by decide)) (.cons _ _ _ _ .s (.cons _ _ _ _ .s .nil)))) (by simp<;>omega)).mono ?_
 rintro d1 st1 ⟨g2,rfl,rfl⟩
 refine rn ?_
 obtain⟨v3,hv3,h⟩:=QJ h
 refine(TS _ _ hv3 _ _ g2 (by simp) (Xv.trans rfl)).mono ?_
 rintro d1 st1 ⟨rfl,rfl⟩
 try simp only[go_sem,fx]
 have e4:D.ref false (st.length+3) g2 0 v1.length=D.ref false (st.length+3) g2 0 v3.length:=by rw[Tw hv3]
 try simp only[e4]
 refine rn ?_
 obtain⟨v5,hv5,h⟩:=QJ h
 refine(SI _ _ hv5 _ _ g2 (by simp) (Xv.trans rfl)).mono ?_
 rintro d1 st1 ⟨rfl,rfl⟩
 refine rr ?_
 exact fo (.sl false 1 16 (rows Me (Lib.compact v3))) (.ref _ _ _ _ _ _ _ _ _ (d2t.trans rfl) d8B (by decide) (ZJ _) (d8I _).symm) h hsc
theorem Ye:∀(n:Nat) (a0:LZ) (a1:Bs) (r:Bool×Bool) (h:NS n a0 a1=some r),Pure Tryd.prog gl 24 [.agg [.int .i64 a0.kind,.str a0.name,.sl false 1 16 (rows Me a0.words),.sl false 4 72 (rows LZ.cells a0.subs)],.str a1] (.tup [.bool r.1,.bool r.2]):=by
 intro n
 induction n with
 |zero=>intro a0 a1 r h;cases h
 |succ n ih=>
  intro a0 a1 r h st
  unfold NS at h
  have fx:=trivial
  refine fb 51 [.tmp 4,.tmp 5] [0,1,2,4,5,7,8,9,14,15,16,17,18,28,29,30,31,42,46] Tryd.func24 fun hsc=>?_
  refine rn ?_
  refine Sw (OP (NS n) a0 a1) r (fun(gj0:Unit) (j0:Bool×Bool)=>[(1,.str a1),(2,.ptr st.length 0 0 0),(4,.bool j0.1),(5,.bool j0.2)]) (fun(gj0:Unit) (j0:Bool×Bool)=>st++[some (.arr 0 4 0 [[.int .i64 a0.kind,.str a0.name,.sl false 1 16 (rows Me a0.words),.sl false 4 72 (rows LZ.cells a0.subs)]])]) (fun gj0 j0 fr1 st1 h hb=>?_) (fun hj0=>?_)
  ·try simp only[go_sem,fx]
   unfold OP at h
   refine Ql hb ?_
   refine aln 28 fun hl1=>?_
   refine rng (body:=Rc (NS n) a0 a1) (kk:=Rf) (n:=a0.subs.length) (s0:=(j0.1,j0.2))
    (fun(gs1:Unit) (k1:Nat) (s1:Bool×Bool)=>[(1,.str a1),(4,.bool s1.1),(5,.bool s1.2),(28,.sl false 4 72 (rows LZ.cells a0.subs)),(29,.int .i64 (↑a0.subs.length:Int)),(30,.int .i64 (↑k1:Int))])
    (fun(gs1:Unit) (k1:Nat) (s1:Bool×Bool)=>st)
    (fun(gt1:Unit) (t1:Bool×Bool)=>[(4,.bool t1.1),(5,.bool t1.2)])
    (fun(gt1:Unit) (t1:Bool×Bool)=>st)
    () fx hl1 h (bm0 hsc)
    (fun gs1 k1 s1 b1 fx h hx1=>?_) (fun gs1 s1=>?_) (fun gt1 t1 fr1 st1 h hb=>?_)
   ·unfold Rc at h
    refine ct ?_
    refine cl h (ih _ _) fun v2 h=>?_
    refine rn ?_
    cases h
    exact Um () (bm0 hsc)
   ·refine cf ?_
    refine Ud ?_;simp only[go_sem,fx]
    exact⟨(),(Zf hsc)⟩
   ·try simp only[go_sem,fx]
    unfold Rf at h
    refine Ql hb ?_
    exact rt
  ·refine cd h (fun hc h=>?_) fun hc h=>?_
   ·refine rs ?_
    refine dw [] 0 ?_
    refine hj0 () _ _ _ h ?_;exact(bm hsc)
   ·refine r0 ?_
    refine hj0 () _ _ _ h ?_;exact(bm hsc)
theorem Oo:∀(n:Nat) (a0:LZ) (r:(List Bs)) (h:Mp n a0=some r),Pure Tryd.prog gl 25 [.agg [.int .i64 a0.kind,.str a0.name,.sl false 1 16 (rows Me a0.words),.sl false 4 72 (rows LZ.cells a0.subs)]] (.sl false 1 16 (rows Me r)):=by
 intro n
 induction n with
 |zero=>intro a0 r h;cases h
 |succ n ih=>
  intro a0 r h st
  unfold Mp at h
  have fx:=trivial
  refine fb 26 [.tmp 2] [0,1,2,3,5,7,14,15,16,17] Tryd.func25 fun hsc=>?_
  refine cl h (Nh _) fun v1 h=>?_
  try simp only[go_sem,fx]
  (repeat apply sq_)
  refine Te 1 16 ?_
  try simp only[List.append_assoc,List.cons_append,List.nil_append]
  refine Ql (F:=[(1,.ptr st.length 0 0 0),(3,.ref false (st.length+1) 0 0 0),(7,.bool v1)]) (T:=st++[some (.arr 0 4 0 [[.int .i64 a0.kind,.str a0.name,.sl false 1 16 (rows Me a0.words),.sl false 4 72 (rows LZ.cells a0.subs)]]),some (.arr 0 1 16 (rows Me []))]) (d7N hsc (.lv (.lv (.nil _))) (by simp) ⟨.s,.nref _ _ _ _ _ _ (d2t.trans rfl),.s,trivial⟩ (by simp)) ?_
  (repeat apply sq_)
  refine Sw (Nc (Mp n) a0) r (fun(gj0:Nat) (j0:(List Bs))=>[(1,.ptr st.length 0 0 0),(3,.ref false (st.length+1) gj0 0 j0.length)]) (fun(gj0:Nat) (j0:(List Bs))=>st++[some (.arr 0 4 0 [[.int .i64 a0.kind,.str a0.name,.sl false 1 16 (rows Me a0.words),.sl false 4 72 (rows LZ.cells a0.subs)]]),some (.arr gj0 1 16 (rows Me j0))]) (fun gj0 j0 fr1 st1 h hb=>?_) (fun hj0=>?_)
  ·try simp only[go_sem,fx]
   unfold Nc at h
   refine Ql hb ?_
   refine aln 14 fun hl1=>?_
   refine rng (body:=Ol (Mp n) a0) (kk:=Om) (n:=a0.subs.length) (s0:=j0)
    (fun(gs1:Nat) (k1:Nat) (s1:(List Bs))=>[(3,.ref false (st.length+1) gs1 0 s1.length),(14,.sl false 4 72 (rows LZ.cells a0.subs)),(15,.int .i64 (↑a0.subs.length:Int)),(16,.int .i64 (↑k1:Int))])
    (fun(gs1:Nat) (k1:Nat) (s1:(List Bs))=>st++[none,some (.arr gs1 1 16 (rows Me s1))])
    (fun(gt1:Nat) (t1:(List Bs))=>[(3,.ref false (st.length+1) gt1 0 t1.length)])
    (fun(gt1:Nat) (t1:(List Bs))=>st++[none,some (.arr gt1 1 16 (rows Me t1))])
    gj0 fx hl1 h (bm hsc)
    (fun gs1 k1 s1 b1 fx h hx1=>?_) (fun gs1 s1=>?_) (fun gt1 t1 fr1 st1 h hb=>?_)
   ·unfold Ol at h
    refine ct ?_
    refine r0 ?_
    refine r0 ?_
    refine r0 ?_
    refine cl h (ih _) fun v14 h=>?_
    obtain⟨c15,i5U,h⟩:=Yp h
    have fy:=(show rows Me s1++rows Me v14=rows Me c15 from by rw[i5U];first|exact ND (E:=Me) s1 v14|simp only[go_sem,rows,List.map_append,List.map_cons,List.map_nil])
    have fy:=fa fy (show s1.length+v14.length=c15.length from by rw[i5U];simp)
    obtain⟨fx,h⟩:=ck fx h
    try simp only[go_sem,fx,fy]
    refine rn ?_
    cases h
    exact Um (gs1+1) (bm hsc)
   ·refine cf ?_
    refine Ud ?_;simp only[go_sem,fx]
    exact⟨gs1,(bm hsc)⟩
   ·try simp only[go_sem,fx]
    unfold Om at h
    refine Ql hb ?_
    refine rr ?_
    exact fo (.sl false 1 16 (rows Me t1)) (.ref _ _ _ _ _ _ _ _ _ (d2t.trans rfl) d8B (by decide) (ZJ _) (by simp only[go_sem])) h hsc
  ·refine cd h (fun hc h=>?_) fun hc h=>?_
   ·obtain⟨c3,hc3,h⟩:=Yp h
    obtain⟨fx,h⟩:=ck fx h
    refine r0 ?_
    have e6:D.ref false (st.length+1) 1 0 1=D.ref false (st.length+1) 1 0 c3.length:=by simp[hc3]
    have e7: [[.str a0.name]]=rows Me c3:=by rw[hc3];first|rfl|simp only[go_sem,rows,List.nil_append,List.map_append,List.map_cons,List.map_nil]
    try simp only[e6,e7]
    refine hj0 1 _ _ _ h ?_;exact(bm hsc)
   ·refine r0 ?_
    refine hj0 0 _ _ _ h ?_;exact(bm hsc)
theorem QN(n:Nat)(a0:Mb)(r:Mi)(h:NP n a0=some r):Pure Tryd.prog gl 8 [.agg [.int .i64 a0.form.kind,.str a0.form.name,.sl false 1 16 (rows Me a0.form.words),.sl false 4 72 (rows LZ.cells a0.form.subs),.sl false 1 16 (rows Me a0.words),.sl false 1 16 (rows Me a0.Mj),.sl false 1 16 (rows Me a0.parts)]] (.agg [.int .i64 r.code,.int .i64 r.index]):=by
 intro st
 unfold NP at h
 have fx:=trivial
 refine fb 119 [.cell 2 30] [0,1,2,3,4,5,6,7,8,9,10,11,12,18,24,29,30,31,32,38,45,55,64,67,80,81,82,85,89,98,99,100,101,111,112,113,114,115] Tryd.func8 fun hsc=>?_
 refine cl h (OZ n _) fun v1 h=>?_
 refine cd h (fun hc h=>?_) fun hc h=>?_
 ·exact rt
 ·refine cl h (Qv _) fun v2 h=>?_
  refine cd h (fun hc h=>?_) fun hc h=>?_
  ·refine cl h (Mv _ _) fun v3 h=>?_
   exact rt
  ·refine cl h (Tr n _) fun v4 h=>?_
   refine aln 4 fun hl0=>?_
   refine rng (body:=Pm n v2 a0 v4) (kk:=Pn n a0) (n:=v2.length) (s0:=())
    (fun(gs0:Unit) (k0:Nat) (s0:Unit)=>[(1,.ptr st.length 0 0 0),(2,.ptr (st.length+1) 0 0 0),(4,.sl false 1 16 (rows Me v2)),(5,.sl false 1 16 (rows Me v4)),(29,.sl false 1 16 (rows Me v2)),(30,.int .i64 (↑v2.length:Int)),(31,.int .i64 (↑k0:Int))])
    (fun(gs0:Unit) (k0:Nat) (s0:Unit)=>st++[some (.arr 0 7 0 [[.int .i64 a0.form.kind,.str a0.form.name,.sl false 1 16 (rows Me a0.form.words),.sl false 4 72 (rows LZ.cells a0.form.subs),.sl false 1 16 (rows Me a0.words),.sl false 1 16 (rows Me a0.Mj),.sl false 1 16 (rows Me a0.parts)]]),some (.arr 0 2 0 [[.int .i64 0,.int .i64 0]])])
    (fun(gt0:Unit) (t0:Unit)=>[(1,.ptr st.length 0 0 0),(2,.ptr (st.length+1) 0 0 0)])
    (fun(gt0:Unit) (t0:Unit)=>st++[some (.arr 0 7 0 [[.int .i64 a0.form.kind,.str a0.form.name,.sl false 1 16 (rows Me a0.form.words),.sl false 4 72 (rows LZ.cells a0.form.subs),.sl false 1 16 (rows Me a0.words),.sl false 1 16 (rows Me a0.Mj),.sl false 1 16 (rows Me a0.parts)]]),some (.arr 0 2 0 [[.int .i64 0,.int .i64 0]])])
    () fx hl0 h (bm hsc)
    (fun gs0 k0 s0 b0 fx h hx0=>?_) (fun gs0 s0=>?_) (fun gt0 t0 fr1 st1 h hb=>?_)
   ·unfold Pm at h
    refine ct ?_
    refine cl h (UH _) fun v17 h=>?_
    refine cd h (fun hc h=>?_) fun hc h=>?_
    ·refine cl h (Mv _ _) fun v18 h=>?_
     refine ra ?_
     cases h
     refine OG ?_;have h:=congrArg some (hx0 _ rfl)
     exact rt
    ·obtain⟨fx,h⟩:=ck fx h
     refine cl h (Mh _ _) fun v21 h=>?_
     refine cd h (fun hc h=>?_) fun hc h=>?_
     ·refine cl h (Mv _ _) fun v22 h=>?_
      refine ra ?_
      cases h
      refine OG ?_;have h:=congrArg some (hx0 _ rfl)
      exact rt
     ·refine cl h (Ye n _ _) fun v23 h=>?_
      refine cd h (fun hc h=>?_) fun hc h=>?_
      ·refine cl h (Mh _ _) fun v24 h=>?_
       refine cd h (fun hc h=>?_) fun hc h=>?_
       ·refine cl h (Mv _ _) fun v25 h=>?_
        refine ra ?_
        cases h
        refine OG ?_;have h:=congrArg some (hx0 _ rfl)
        exact rt
       ·refine rn ?_
        cases h
        exact Um () (bm hsc)
      ·refine cd h (fun hc h=>?_) fun hc h=>?_
       ·refine cd h (fun hc h=>?_) fun hc h=>?_
        ·refine cl h (Mv _ _) fun v26 h=>?_
         refine ra ?_
         cases h
         refine OG ?_;have h:=congrArg some (hx0 _ rfl)
         exact rt
        ·refine rn ?_
         cases h
         exact Um () (bm hsc)
       ·refine cd h (fun hc h=>?_) fun hc h=>?_
        ·refine cl h (Mv _ _) fun v27 h=>?_
         refine ra ?_
         cases h
         refine OG ?_;have h:=congrArg some (hx0 _ rfl)
         exact rt
        ·refine cd h (fun hc h=>?_) fun hc h=>?_
         ·refine cl h (Mv _ _) fun v28 h=>?_
          refine ra ?_
          cases h
          refine OG ?_;have h:=congrArg some (hx0 _ rfl)
          exact rt
         ·refine rn ?_
          cases h
          exact Um () (bm hsc)
   ·refine cf ?_
    refine Ud ?_;simp only[go_sem,fx]
    exact⟨(),(bm hsc)⟩
   ·try simp only[go_sem,fx]
    unfold Pn at h
    refine Ql hb ?_
    refine cl h (Oo n _) fun v29 h=>?_
    refine aln 10 fun hl1=>?_
    refine rng (body:=Po v29 a0) (kk:=Pp) (n:=v29.length) (s0:=())
     (fun(gs1:Unit) (k1:Nat) (s1:Unit)=>[(1,.ptr st.length 0 0 0),(2,.ptr (st.length+1) 0 0 0),(10,.sl false 1 16 (rows Me v29)),(98,.sl false 1 16 (rows Me v29)),(99,.int .i64 (↑v29.length:Int)),(100,.int .i64 (↑k1:Int))])
     (fun(gs1:Unit) (k1:Nat) (s1:Unit)=>st++[some (.arr 0 7 0 [[.int .i64 a0.form.kind,.str a0.form.name,.sl false 1 16 (rows Me a0.form.words),.sl false 4 72 (rows LZ.cells a0.form.subs),.sl false 1 16 (rows Me a0.words),.sl false 1 16 (rows Me a0.Mj),.sl false 1 16 (rows Me a0.parts)]]),some (.arr 0 2 0 [[.int .i64 0,.int .i64 0]])])
     (fun(gt1:Unit) (t1:Unit)=>[(2,.ptr (st.length+1) 0 0 0)])
     (fun(gt1:Unit) (t1:Unit)=>st++[none,some (.arr 0 2 0 [[.int .i64 0,.int .i64 0]])])
     () fx hl1 h (bm hsc)
     (fun gs1 k1 s1 b1 fx h hx1=>?_) (fun gs1 s1=>?_) (fun gt1 t1 fr1 st1 h hb=>?_)
    ·unfold Po at h
     refine ct ?_
     obtain⟨fx,h⟩:=ck fx h
     refine cl h (Mh _ _) fun v37 h=>?_
     refine rn ?_
     obtain⟨v38,hv38,h⟩:=QJ h
     refine SZ (fun hG=>(Mh _ _ _ (d3Z hv38 (by simpa using hG)))) ?_
     refine cd h (fun hc h=>?_) fun hc h=>?_
     ·refine cl h (Mv _ _) fun v39 h=>?_
      refine ra ?_
      cases h
      refine OG ?_;have h:=congrArg some (hx1 _ rfl)
      exact rt
     ·refine rn ?_
      cases h
      exact Um () (bm hsc)
    ·refine cf ?_
     refine Ud ?_;simp only[go_sem,fx]
     exact⟨(),(bm hsc)⟩
    ·try simp only[go_sem,fx]
     unfold Pp at h
     refine Ql hb ?_
     exact rt
theorem Yf(n:Nat)(MB:Int)(MN:(List Bs))(r:Bs×Int)(h:RB n MB MN=some r):∀(st:St) (o0 o1:Nat) (hnd: [o0,o1].Nodup) (QM:Am.look st o0=some (.arr 0 1 0 [[.int .i64 MB]])) (Xm:Am.look st o1=some (.arr 0 1 0 [[.sl false 1 16 (rows Me MN)]])),Am.Spec Tryd.prog gl 63 [.ptr o0 0 0 0,.ptr o1 0 0 0] st (fun d st'=>d= .str r.1∧st'=puts st [(o0,(.arr 0 1 0 [[.int .i64 r.2]])),(o1,(.arr 0 1 0 [[.sl false 1 16 (rows Me MN)]]))]):=by
 intro st o0 o1 hnd QM Xm
 unfold RB at h
 have ho0:=MZ QM
 have ho1:=MZ Xm
 have fx:=fa (fa (idf ho0) (idf ho1)) (nd2 hnd)
 refine fb 14 [.tmp 2] [0,1,2,3,12] Tryd.func63 fun hsc=>?_
 refine Tf (s':=(Nf st [(o0,(.arr 0 1 0 [[.int .i64 MB]])),(o1,(.arr 0 1 0 [[.sl false 1 16 (rows Me MN)]]))])) (MS (by simp[QM,Xm])) ?_
 refine rn ?_
 refine Vg (body:=PU MN) (kk:=Sr) (n:=n) (s0:=MB)
  (fun(gs0:Unit) (s0:Int)=>[(0,.ptr o0 0 0 0),(1,.ptr o1 0 0 0)])
  (fun(gs0:Unit) (s0:Int)=>(Nf st [(o0,(.arr 0 1 0 [[.int .i64 s0]])),(o1,(.arr 0 1 0 [[.sl false 1 16 (rows Me MN)]]))]))
  (fun(gt0:Unit) (t0:Unit)=>[])
  (fun(gt0:Unit) (t0:Unit)=>(Nf st [(o0,(.arr 0 1 0 [[.int .i64 MB]])),(o1,(.arr 0 1 0 [[.sl false 1 16 (rows Me MN)]]))]))
  () h (d7O hsc)
  (fun gs0 s0 b0 h hx0=>?_) (fun gt0 t0 fr1 st1 h hb=>?_)
 ·unfold PU at h
  refine cl h (i1c _) fun v4 h=>?_
  obtain⟨fx,h⟩:=ck fx h
  refine cl h (Mh _ _) fun v6 h=>?_
  refine cd h (fun hc h=>?_) fun hc h=>?_
  ·refine ra ?_
   cases h
   refine d0K ?_;have h:=congrArg some (hx0 _ rfl)
   refine rr ?_
   exact fus (.str (d1s [118] v4)) (.same _) h hsc
  ·refine rn ?_
   cases h
   exact Zc () (d7O hsc)
 ·try simp only[go_sem,fx]
  unfold Sr at h
  cases h
theorem XL:∀(n:Nat) (a0:LZ) (a1:(List Mg)) (MB:Int) (MN:(List Bs)) (r:LZ×Int) (h:Nt n a0 a1 MB MN=some r),∀(st:St) (o0 o1:Nat) (hnd: [o0,o1].Nodup) (QM:Am.look st o0=some (.arr 0 1 0 [[.int .i64 MB]])) (Xm:Am.look st o1=some (.arr 0 1 0 [[.sl false 1 16 (rows Me MN)]])),Am.Spec Tryd.prog gl 65 [.agg [.int .i64 a0.kind,.str a0.name,.sl false 1 16 (rows Me a0.words),.sl false 4 72 (rows LZ.cells a0.subs)],.sl false 2 32 (rows Mg.cells a1),.fn 63 [] [.ptr o0 0 0 0,.ptr o1 0 0 0]] st (fun d st'=>d= .agg [.int .i64 r.1.kind,.str r.1.name,.sl false 1 16 (rows Me r.1.words),.sl false 4 72 (rows LZ.cells r.1.subs)]∧st'=puts st [(o0,(.arr 0 1 0 [[.int .i64 r.2]])),(o1,(.arr 0 1 0 [[.sl false 1 16 (rows Me MN)]]))]):=by
 intro n
 induction n with
 |zero=>intro a0 a1 MB MN r h;cases h
 |succ n ih=>
  intro a0 a1 MB MN r h st o0 o1 hnd QM Xm
  unfold Nt at h
  have ho0:=MZ QM
  have ho1:=MZ Xm
  have fx:=fa (fa (idf ho0) (idf ho1)) (nd2 hnd)
  refine fb 87 [.cell 6 25] [0,1,2,3,6,7,9,10,12,19,20,21,22,29,38,52,70,71,72,73] Tryd.func65 fun hsc=>?_
  refine Tf (s':=(Nf st [(o0,(.arr 0 1 0 [[.int .i64 MB]])),(o1,(.arr 0 1 0 [[.sl false 1 16 (rows Me MN)]]))])) (MS (by simp[QM,Xm])) ?_
  refine r0 ?_
  refine r0 ?_
  refine r0 ?_
  (repeat apply sq_)
  refine Te 1 16 ?_
  try simp only[List.append_assoc,List.cons_append,List.nil_append]
  refine Ql (F:=[(1,.sl false 2 32 (rows Mg.cells a1)),(2,.fn 63 [] [.ptr o0 0 0 0,.ptr o1 0 0 0]),(3,.ptr st.length 0 0 0),(6,.ptr (st.length+1) 0 0 0),(7,.ptr (st.length+2) 0 0 0),(19,.sl false 1 16 (rows Me a0.words)),(20,.int .i64 (↑a0.words.length:Int)),(21,.int .i64 0)]) (T:=(Nf st [(o0,(.arr 0 1 0 [[.int .i64 MB]])),(o1,(.arr 0 1 0 [[.sl false 1 16 (rows Me MN)]]))])++[some (.arr 0 4 0 [[.int .i64 a0.kind,.str a0.name,.sl false 1 16 (rows Me a0.words),.sl false 4 72 (rows LZ.cells a0.subs)]]),some (.arr 0 4 0 [[.int .i64 0,.str [],.Mk,.Mk]]),some (.arr 0 4 0 [[.int .i64 a0.kind,.str a0.name,.ref false (st.length+3) 0 0 0,.Mk]]),some (.arr 0 1 16 (rows Me []))]) (Vh (by simp) (Qm hsc (by simp<;>omega)) (.lv (.lv (.live _ _ _ _ (.arr _ _ _ _ _ (.cons _ _ _ _ (.cons _ _ _ _ .s (.cons _ _ _ _ .s (.cons _ _ _ _ (.nref _ _ _ _ _ _ (Oh.trans rfl)) (.cons _ _ _ _ .s .nil)))) (.same _))) (.lv (.nil _))))) (by simp<;>omega) ⟨.s,.s,.s,.s,.s,.s,.s,.s,trivial⟩ (by simp<;>omega)) ?_
  refine aln 19 fun hl0=>?_
  refine rng (body:=Qx n a1 a0) (kk:=QB (Nt n) n a0 MB MN a1) (n:=a0.words.length) (s0:=[])
   (fun(gs0:Nat) (k0:Nat) (s0:(List Bs))=>[(1,.sl false 2 32 (rows Mg.cells a1)),(2,.fn 63 [] [.ptr o0 0 0 0,.ptr o1 0 0 0]),(3,.ptr st.length 0 0 0),(6,.ptr (st.length+1) 0 0 0),(7,.ptr (st.length+2) 0 0 0),(19,.sl false 1 16 (rows Me a0.words)),(20,.int .i64 (↑a0.words.length:Int)),(21,.int .i64 (↑k0:Int))])
   (fun(gs0:Nat) (k0:Nat) (s0:(List Bs))=>(Nf st [(o0,(.arr 0 1 0 [[.int .i64 MB]])),(o1,(.arr 0 1 0 [[.sl false 1 16 (rows Me MN)]]))])++[some (.arr 0 4 0 [[.int .i64 a0.kind,.str a0.name,.sl false 1 16 (rows Me a0.words),.sl false 4 72 (rows LZ.cells a0.subs)]]),some (.arr 0 4 0 [[.int .i64 0,.str [],.Mk,.Mk]]),some (.arr 0 4 0 [[.int .i64 a0.kind,.str a0.name,.ref false (st.length+3) gs0 0 s0.length,.Mk]]),some (.arr gs0 1 16 (rows Me s0))])
   (fun(gt0:Nat) (t0:(List Bs))=>[(1,.sl false 2 32 (rows Mg.cells a1)),(2,.fn 63 [] [.ptr o0 0 0 0,.ptr o1 0 0 0]),(3,.ptr st.length 0 0 0),(6,.ptr (st.length+1) 0 0 0),(7,.ptr (st.length+2) 0 0 0)])
   (fun(gt0:Nat) (t0:(List Bs))=>(Nf st [(o0,(.arr 0 1 0 [[.int .i64 MB]])),(o1,(.arr 0 1 0 [[.sl false 1 16 (rows Me MN)]]))])++[some (.arr 0 4 0 [[.int .i64 a0.kind,.str a0.name,.sl false 1 16 (rows Me a0.words),.sl false 4 72 (rows LZ.cells a0.subs)]]),some (.arr 0 4 0 [[.int .i64 0,.str [],.Mk,.Mk]]),some (.arr 0 4 0 [[.int .i64 a0.kind,.str a0.name,.ref false (st.length+3) gt0 0 t0.length,.Mk]]),some (.arr gt0 1 16 (rows Me t0))])
   0 fx hl0 h (bu hsc)
   (fun gs0 k0 s0 b0 fx h hx0=>?_) (fun gs0 s0=>?_) (fun gt0 t0 fr1 st1 h hb=>?_)
  ·unfold Qx at h
   refine ct ?_
   refine rn ?_
   refine Vg (body:=Pv a1 a0 k0) (kk:=Qy s0) (n:=n) (s0:=(wr .i64 ((↑a1.length:Int)-1)))
    (fun(gs2:Unit) (s2:Int)=>[(1,.sl false 2 32 (rows Mg.cells a1)),(2,.fn 63 [] [.ptr o0 0 0 0,.ptr o1 0 0 0]),(3,.ptr st.length 0 0 0),(6,.ptr (st.length+1) 0 0 0),(7,.ptr (st.length+2) 0 0 0),(9,.str (get a0.words k0)),(10,.int .i64 s2),(19,.sl false 1 16 (rows Me a0.words)),(20,.int .i64 (↑a0.words.length:Int)),(21,.int .i64 (↑k0:Int))])
    (fun(gs2:Unit) (s2:Int)=>(Nf st [(o0,(.arr 0 1 0 [[.int .i64 MB]])),(o1,(.arr 0 1 0 [[.sl false 1 16 (rows Me MN)]]))])++[some (.arr 0 4 0 [[.int .i64 a0.kind,.str a0.name,.sl false 1 16 (rows Me a0.words),.sl false 4 72 (rows LZ.cells a0.subs)]]),some (.arr 0 4 0 [[.int .i64 0,.str [],.Mk,.Mk]]),some (.arr 0 4 0 [[.int .i64 a0.kind,.str a0.name,.ref false (st.length+3) gs0 0 s0.length,.Mk]]),some (.arr gs0 1 16 (rows Me s0))])
    (fun(gt2:Unit) (t2:Bs)=>[(1,.sl false 2 32 (rows Mg.cells a1)),(2,.fn 63 [] [.ptr o0 0 0 0,.ptr o1 0 0 0]),(3,.ptr st.length 0 0 0),(6,.ptr (st.length+1) 0 0 0),(7,.ptr (st.length+2) 0 0 0),(9,.str t2),(19,.sl false 1 16 (rows Me a0.words)),(20,.int .i64 (↑a0.words.length:Int)),(21,.int .i64 (↑k0:Int))])
    (fun(gt2:Unit) (t2:Bs)=>(Nf st [(o0,(.arr 0 1 0 [[.int .i64 MB]])),(o1,(.arr 0 1 0 [[.sl false 1 16 (rows Me MN)]]))])++[some (.arr 0 4 0 [[.int .i64 a0.kind,.str a0.name,.sl false 1 16 (rows Me a0.words),.sl false 4 72 (rows LZ.cells a0.subs)]]),some (.arr 0 4 0 [[.int .i64 0,.str [],.Mk,.Mk]]),some (.arr 0 4 0 [[.int .i64 a0.kind,.str a0.name,.ref false (st.length+3) gs0 0 s0.length,.Mk]]),some (.arr gs0 1 16 (rows Me s0))])
    () h (bu hsc)
    (fun gs2 s2 b2 h hx2=>?_) (fun gt2 t2 fr1 st1 h hb=>?_)
   ·unfold Pv at h
    refine cd h (fun hc h=>?_) fun hc h=>?_
    ·obtain⟨fx,h⟩:=ck fx h
     refine cd h (fun hc h=>?_) fun hc h=>?_
     ·refine rn ?_
      cases h
      exact Zd () (bu hsc)
     ·refine rn ?_
      cases h
      exact Zc () (bu hsc)
    ·refine rn ?_
     cases h
     exact Zd () (bu hsc)
   ·try simp only[go_sem,fx]
    unfold Qy at h
    refine Ql hb ?_
    obtain⟨c16,i5V,h⟩:=Yp h
    have fy:=(show rows Me s0++[[.str t2]]=rows Me c16 from by rw[i5V];first|exact ND (E:=Me) s0 [t2]|simp only[go_sem,rows,List.map_append,List.map_cons,List.map_nil])
    have fy:=fa fy (show s0.length+1=c16.length from by rw[i5V];simp)
    obtain⟨fx,h⟩:=ck fx h
    refine r1 ?_
    refine rn ?_
    cases h
    exact Um (gs0+1) (bu hsc)
  ·refine cf ?_
   refine Ud ?_;simp only[go_sem,fx]
   exact⟨gs0,(bu hsc)⟩
  ·try simp only[go_sem,fx]
   unfold QB at h
   refine Ql hb ?_
   refine cl h (Nh _) fun v21 h=>?_
   refine rn ?_
   refine Sw (Ou (Nt n) a0 MN t0) r (fun(gj3:Unit) (j3:Int×Bs×(List Mg))=>[(1,.sl false 2 32 (rows Mg.cells j3.2.2)),(2,.fn 63 [] [.ptr o0 0 0 0,.ptr o1 0 0 0]),(3,.ptr st.length 0 0 0),(6,.ptr (st.length+1) 0 0 0),(7,.ptr (st.length+2) 0 0 0)]) (fun(gj3:Unit) (j3:Int×Bs×(List Mg))=>(Nf st [(o0,(.arr 0 1 0 [[.int .i64 j3.1]])),(o1,(.arr 0 1 0 [[.sl false 1 16 (rows Me MN)]]))])++[some (.arr 0 4 0 [[.int .i64 a0.kind,.str a0.name,.sl false 1 16 (rows Me a0.words),.sl false 4 72 (rows LZ.cells a0.subs)]]),some (.arr 0 4 0 [[.int .i64 0,.str [],.Mk,.Mk]]),some (.arr 0 4 0 [[.int .i64 a0.kind,.str j3.2.1,.ref false (st.length+3) gt0 0 t0.length,.Mk]]),some (.arr gt0 1 16 (rows Me t0))]) (fun gj3 j3 fr1 st1 h hb=>?_) (fun hj3=>?_)
   ·try simp only[go_sem,fx]
    unfold Ou at h
    refine Ql hb ?_
    refine r0 ?_
    (repeat apply sq_)
    refine Te 4 72 ?_
    try simp only[List.append_assoc,List.cons_append,List.nil_append]
    refine Ql (F:=[(1,.sl false 2 32 (rows Mg.cells j3.2.2)),(2,.fn 63 [] [.ptr o0 0 0 0,.ptr o1 0 0 0]),(6,.ptr (st.length+1) 0 0 0),(7,.ptr (st.length+2) 0 0 0),(70,.sl false 4 72 (rows LZ.cells a0.subs)),(71,.int .i64 (↑a0.subs.length:Int)),(72,.int .i64 0)]) (T:=(Nf st [(o0,(.arr 0 1 0 [[.int .i64 j3.1]])),(o1,(.arr 0 1 0 [[.sl false 1 16 (rows Me MN)]]))])++[some (.arr 0 4 0 [[.int .i64 a0.kind,.str a0.name,.sl false 1 16 (rows Me a0.words),.sl false 4 72 (rows LZ.cells a0.subs)]]),some (.arr 0 4 0 [[.int .i64 0,.str [],.Mk,.Mk]]),some (.arr 0 4 0 [[.int .i64 a0.kind,.str j3.2.1,.ref false (st.length+3) gt0 0 t0.length,.ref false (st.length+4) 0 0 0]]),some (.arr gt0 1 16 (rows Me t0)),some (.arr 0 4 72 (rows LZ.cells []))]) (Vh (by simp) (Qm hsc (by simp<;>omega)) (.lv (.lv (.live _ _ _ _ (.arr _ _ _ _ _ (.cons _ _ _ _ (.cons _ _ _ _ .s (.cons _ _ _ _ .s (.cons _ _ _ _ .s (.cons _ _ _ _ (.nref _ _ _ _ _ _ (Oh.trans rfl)) .nil)))) (.same _))) (.lv (.lv (.nil _)))))) (by simp<;>omega) ⟨.s,.s,.s,.s,.s,.s,.s,trivial⟩ (by simp<;>omega)) ?_
    refine aln 70 fun hl4=>?_
    refine rng (body:=Qz (Nt n) a0 j3 MN) (kk:=QA a0 j3 t0) (n:=a0.subs.length) (s0:=(j3.1,[]))
     (fun(gs4:Nat) (k4:Nat) (s4:Int×(List LZ))=>[(1,.sl false 2 32 (rows Mg.cells j3.2.2)),(2,.fn 63 [] [.ptr o0 0 0 0,.ptr o1 0 0 0]),(6,.ptr (st.length+1) 0 0 0),(7,.ptr (st.length+2) 0 0 0),(70,.sl false 4 72 (rows LZ.cells a0.subs)),(71,.int .i64 (↑a0.subs.length:Int)),(72,.int .i64 (↑k4:Int))])
     (fun(gs4:Nat) (k4:Nat) (s4:Int×(List LZ))=>(Nf st [(o0,(.arr 0 1 0 [[.int .i64 s4.1]])),(o1,(.arr 0 1 0 [[.sl false 1 16 (rows Me MN)]]))])++[none,some (.arr 0 4 0 [[.int .i64 0,.str [],.Mk,.Mk]]),some (.arr 0 4 0 [[.int .i64 a0.kind,.str j3.2.1,.ref false (st.length+3) gt0 0 t0.length,.ref false (st.length+4) gs4 0 s4.2.length]]),some (.arr gt0 1 16 (rows Me t0)),some (.arr gs4 4 72 (rows LZ.cells s4.2))])
     (fun(gt4:Nat) (t4:Int×(List LZ))=>[(6,.ptr (st.length+1) 0 0 0),(7,.ptr (st.length+2) 0 0 0)])
     (fun(gt4:Nat) (t4:Int×(List LZ))=>(Nf st [(o0,(.arr 0 1 0 [[.int .i64 t4.1]])),(o1,(.arr 0 1 0 [[.sl false 1 16 (rows Me MN)]]))])++[none,some (.arr 0 4 0 [[.int .i64 0,.str [],.Mk,.Mk]]),some (.arr 0 4 0 [[.int .i64 a0.kind,.str j3.2.1,.ref false (st.length+3) gt0 0 t0.length,.ref false (st.length+4) gt4 0 t4.2.length]]),some (.arr gt0 1 16 (rows Me t0)),some (.arr gt4 4 72 (rows LZ.cells t4.2))])
     0 fx hl4 h (bu hsc)
     (fun gs4 k4 s4 b4 fx h hx4=>?_) (fun gs4 s4=>?_) (fun gt4 t4 fr1 st1 h hb=>?_)
    ·unfold Qz at h
     refine ct ?_
     refine rn ?_
     refine dw [1,5] 2 ?_
     obtain⟨v38,hv38,h⟩:=QJ h
     refine d0f [o0,o1] (fun st2 h2=>(ih _ _ _ _ _ hv38 st2 _ _ hnd ((h2 _ (by simp)).trans (by simp only[go_sem,fx])) ((h2 _ (by simp)).trans (by simp only[go_sem,fx])))) (by simp) (by simp only[List.mem_cons,List.not_mem_nil,or_false,forall_eq_or_imp,forall_eq];exact⟨⟨by first|omega|(simp<;>omega),_,(by simp only[go_sem,fx]<;>rfl),Ob.noConfusion⟩,⟨by first|omega|(simp<;>omega),_,(by simp only[go_sem,fx]<;>rfl),Ob.noConfusion⟩⟩) (by simp) ?_
     obtain⟨c40,d9N,h⟩:=Yp h
     have fy:=(show rows LZ.cells s4.2++[[.int .i64 v38.1.kind,.str v38.1.name,.sl false 1 16 (rows Me v38.1.words),.sl false 4 72 (rows LZ.cells v38.1.subs)]]=rows LZ.cells c40 from by rw[d9N];first|exact ND (E:=LZ.cells) s4.2 [v38.1]|simp only[go_sem,rows,List.map_append,List.map_cons,List.map_nil])
     have fy:=fa fy (show s4.2.length+1=c40.length from by rw[d9N];simp)
     obtain⟨fx,h⟩:=ck fx h
     try simp only[go_sem,fx,fy]
     try refine⟨by first|omega|(simp<;>omega),?_⟩
     refine rn ?_
     cases h
     exact Um (gs4+1) (bu hsc)
    ·refine cf ?_
     refine Ud ?_;simp only[go_sem,fx]
     exact⟨gs4,(bu hsc)⟩
    ·try simp only[go_sem,fx]
     unfold QA at h
     refine Ql hb ?_
     refine rr ?_
     exact fuo (.agg [.int .i64 a0.kind,.str j3.2.1,.sl false 1 16 (rows Me t0),.sl false 4 72 (rows LZ.cells t4.2)]) (.agg _ _ (.cons _ _ _ _ .s (.cons _ _ _ _ .s (.cons _ _ _ _ (.ref _ _ _ _ _ _ _ _ _ (Oh.trans rfl) WT (by decide) (ZJ _) (by simp only[go_sem])) (.cons _ _ _ _ (.ref _ _ _ _ _ _ _ _ _ (Oh.trans rfl) WT (by decide) (ZJ _) (by simp only[go_sem])) .nil))))) h hsc
   ·refine cd h (fun hc h=>?_) fun hc h=>?_
    ·refine rn ?_
     obtain⟨v22,hv22,h⟩:=QJ h
     refine(Yf n _ _ _ hv22 _ _ _ hnd (by simp only[go_sem,fx]) (by simp only[go_sem,fx])).mono ?_
     rintro d1 st1 ⟨rfl,rfl⟩
     refine rn ?_
     obtain⟨fx,h⟩:=ck fx h
     obtain⟨c26,i3r,h⟩:=Yp h
     have fy:=(show rows Mg.cells a1++[[.str a0.name,.str v22.1]]=rows Mg.cells c26 from by rw[i3r];first|exact ND (E:=Mg.cells) a1 [(Mg.mk a0.name v22.1)]|simp only[go_sem,rows,List.map_append,List.map_cons,List.map_nil])
     have fy:=fa fy (show a1.length+1=c26.length from by rw[i3r];simp)
     obtain⟨fx,h⟩:=ck fx h
     refine dwy [] 2 ?_
     refine hj3 () _ _ _ h ?_;exact(bu hsc (hf:=⟨.ref _ _ _ _ _ _ _ _ _ (Oh.trans rfl) (SN (by first|decide|simp)) (by decide) (ZJ _) (by simp only[go_sem]),.s,.s,.s,.s,trivial⟩))
    ·refine r0 ?_
     refine hj3 () _ _ _ h ?_;exact(bu hsc)
end Go.Proofs.YtdjnbjnlnjhllaaDoor
