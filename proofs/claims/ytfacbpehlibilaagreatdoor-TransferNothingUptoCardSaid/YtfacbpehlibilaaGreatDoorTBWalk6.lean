import Derived.Test.YtfacbpehlibilaaGreatDoorTBWalk5
set_option linter.unusedVariables false
set_option linter.unusedSimpArgs false
set_option maxHeartbeats 2000000
set_option maxRecDepth 100000
namespace Go.Proofs.YtfacbpehlibilaaGreatDoor
open Go Go.Am
theorem d2f(n:Nat)(a0:OG)(a1:Ox)(r:(List OB)×Bool)(h:YK n a0 a1=some r):Pure Tryz.prog gl 89 [.agg [.int .i64 a0.form.kind,.str a0.form.name,.sl false 1 16 (rows OC a0.form.words),.sl false 4 72 (rows Ox.cells a0.form.subs),.sl false 1 16 (rows OC a0.words),.sl false 1 16 (rows OC a0.PA),.sl false 1 16 (rows OC a0.parts)],.agg [.int .i64 a1.kind,.str a1.name,.sl false 1 16 (rows OC a1.words),.sl false 4 72 (rows Ox.cells a1.subs)]] (.tup [.sl false 6 104 (rows OB.cells r.1),.bool r.2]):=by
 intro st
 unfold YK at h
 have fx:=trivial
 refine fb 83 [.tmp 4,.tmp 5] [0,1,2,3,4,5,6,7,8,9,11,13,14,24,27,28,29,30,47,48,49,50,61,62,63,64,65,72] Tryz.func89 fun hsc=>?_
 refine cl h (d0Y n _) fun v1 h=>?_
 refine rn ?_
 obtain⟨v2,hv2,h⟩:=Rs h
 refine(d1B n _ _ _ _ _ hv2 _ _ (by simp) (XV.trans rfl)).mono ?_
 rintro d1 st1 ⟨rfl,rfl⟩
 refine cd h (fun hc h=>?_) fun hc h=>?_
 ·refine rr ?_
  exact fo (.tup [.sl false 6 104 (rows OB.cells []),.bool false]) (.tup _ _ (.cons _ _ _ _ (.OI _ _ _ (by decide)) (.cons _ _ _ _ .s .nil)) rfl) h hsc
 ·refine cl h (PY n _) fun v3 h=>?_
  try simp only[go_sem,fx]
  (repeat apply sq_)
  refine RO 1 16 ?_
  try simp only[List.append_assoc,List.cons_append,List.nil_append]
  refine Rj (F:=[(6,.mp (st.length+2)),(7,.ptr (st.length+3) 0 0 0),(8,.OI),(9,.ref false (st.length+4) 0 0 0),(27,.sl false 1 16 (rows OC v3)),(28,.int .i64 (↑v3.length:Int)),(29,.int .i64 0)]) (T:=st++[some (.arr 0 7 0 [[.int .i64 a0.form.kind,.str a0.form.name,.sl false 1 16 (rows OC a0.form.words),.sl false 4 72 (rows Ox.cells a0.form.subs),.sl false 1 16 (rows OC a0.words),.sl false 1 16 (rows OC a0.PA),.sl false 1 16 (rows OC a0.parts)]]),some (.arr 0 4 0 [[.int .i64 a1.kind,.str a1.name,.sl false 1 16 (rows OC a1.words),.sl false 4 72 (rows Ox.cells a1.subs)]]),some (.mps true (mrw OB.cells v2.2)),some (.arr 0 7 0 [[.int .i64 v1.form.kind,.str v1.form.name,.sl false 1 16 (rows OC v1.form.words),.sl false 4 72 (rows Ox.cells v1.form.subs),.sl false 1 16 (rows OC v1.words),.sl false 1 16 (rows OC v1.PA),.sl false 1 16 (rows OC v1.parts)]]),some (.arr 0 1 16 (rows OC []))]) (d9q hsc (.lv (.lv (.lv (.lv (.lv (.nil _)))))) (by simp) ⟨.s,.s,.s,.nref _ _ _ _ _ _ (d1o.trans rfl),.s,.s,.s,trivial⟩ (by simp)) ?_
  refine aln 27 fun hl0=>?_
  refine rng (body:=WH v3 v2) (kk:=WK n v1 v2) (n:=v3.length) (s0:=[])
   (fun(gs0:Nat) (k0:Nat) (s0:(List Bs))=>[(6,.mp (st.length+2)),(7,.ptr (st.length+3) 0 0 0),(8,.OI),(9,.ref false (st.length+4) gs0 0 s0.length),(27,.sl false 1 16 (rows OC v3)),(28,.int .i64 (↑v3.length:Int)),(29,.int .i64 (↑k0:Int))])
   (fun(gs0:Nat) (k0:Nat) (s0:(List Bs))=>st++[none,none,some (.mps true (mrw OB.cells v2.2)),some (.arr 0 7 0 [[.int .i64 v1.form.kind,.str v1.form.name,.sl false 1 16 (rows OC v1.form.words),.sl false 4 72 (rows Ox.cells v1.form.subs),.sl false 1 16 (rows OC v1.words),.sl false 1 16 (rows OC v1.PA),.sl false 1 16 (rows OC v1.parts)]]),some (.arr gs0 1 16 (rows OC s0))])
   (fun(gt0:Nat) (t0:(List Bs))=>[(6,.mp (st.length+2)),(7,.ptr (st.length+3) 0 0 0),(8,.OI),(9,.ref false (st.length+4) gt0 0 t0.length)])
   (fun(gt0:Nat) (t0:(List Bs))=>st++[none,none,some (.mps true (mrw OB.cells v2.2)),some (.arr 0 7 0 [[.int .i64 v1.form.kind,.str v1.form.name,.sl false 1 16 (rows OC v1.form.words),.sl false 4 72 (rows Ox.cells v1.form.subs),.sl false 1 16 (rows OC v1.words),.sl false 1 16 (rows OC v1.PA),.sl false 1 16 (rows OC v1.parts)]]),some (.arr gt0 1 16 (rows OC t0))])
   0 fx hl0 h (bm hsc)
   (fun gs0 k0 s0 b0 fx h hx0=>?_) (fun gs0 s0=>?_) (fun gt0 t0 fr1 st1 h hb=>?_)
  ·unfold WH at h
   refine ct ?_
   refine r0 ?_
   refine r0 ?_
   refine r0 ?_
   obtain⟨c11,i8i,h⟩:=Xg h
   have fy:=(show rows OC s0++[[.str (((assoc (get v3 k0) v2.2).getD default).text)]]=rows OC c11 from by rw[i8i];first|exact Pp (E:=OC) s0 [((assoc (get v3 k0) v2.2).getD default).text]|simp only[go_sem,rows,List.map_append,List.map_cons,List.map_nil])
   have fy:=fa fy (show s0.length+1=c11.length from by rw[i8i];simp)
   obtain⟨fx,h⟩:=ck fx h
   refine r1 ?_
   refine rn ?_
   cases h
   exact Vh (gs0+1) (bm hsc)
  ·refine cf ?_
   refine VK ?_;simp only[go_sem,fx]
   exact⟨gs0,(bm hsc)⟩
  ·try simp only[go_sem,fx]
   unfold WK at h
   refine Rj hb ?_
   refine rs ?_
   refine dw [] 1 ?_
   obtain⟨v16,hv16,h⟩:=Rs h
   refine TF (Wv _ _ hv16) ?_
   try simp only[go_sem,fx]
   obtain⟨v17,hv17,h⟩:=Rs h
   refine TF (PY n _ _ hv17) ?_
   try simp only[go_sem,fx]
   obtain⟨v19,hv19,h⟩:=Rs h
   refine TF (d4y _ _ hv19) ?_
   try simp only[go_sem,fx]
   (repeat apply sq_)
   refine RO 6 104 ?_
   try simp only[List.append_assoc,List.cons_append,List.nil_append]
   refine Rj (F:=[(6,.mp (st.length+2)),(7,.ptr (st.length+3) 0 0 0),(8,.ref false (st.length+6) 0 0 0),(9,.ref false (st.length+4) gt0 0 t0.length),(47,.sl false 1 16 (rows OC v19)),(48,.int .i64 (↑v19.length:Int)),(49,.int .i64 0)]) (T:=st++[none,none,some (.mps true (mrw OB.cells v2.2)),some (.arr 0 7 0 [[.int .i64 v1.form.kind,.str v1.form.name,.sl false 1 16 (rows OC v1.form.words),.sl false 4 72 (rows Ox.cells v1.form.subs),.sl false 1 16 (rows OC v1.words),.sl false 1 16 (rows OC v1.PA),.sl false 1 16 (rows OC v1.parts)]]),some (.arr gt0 1 16 (rows OC t0)),none,some (.arr 0 6 104 (rows OB.cells []))]) (d9q hsc (.dead _ _ _ (.dead _ _ _ (.lv (.lv (.lv (.dead _ _ _ (.lv (.nil _)))))))) (by simp) ⟨.s,.s,.nref _ _ _ _ _ _ (d1o.trans rfl),.s,.s,.s,.s,trivial⟩ (by simp)) ?_
   refine aln 47 fun hl1=>?_
   refine rng (body:=WI n v1 v19 v2 t0) (kk:=WJ) (n:=v19.length) (s0:=[])
    (fun(gs1:Nat) (k1:Nat) (s1:(List OB))=>[(6,.mp (st.length+2)),(7,.ptr (st.length+3) 0 0 0),(8,.ref false (st.length+6) gs1 0 s1.length),(9,.ref false (st.length+4) gt0 0 t0.length),(47,.sl false 1 16 (rows OC v19)),(48,.int .i64 (↑v19.length:Int)),(49,.int .i64 (↑k1:Int))])
    (fun(gs1:Nat) (k1:Nat) (s1:(List OB))=>st++[none,none,some (.mps true (mrw OB.cells v2.2)),some (.arr 0 7 0 [[.int .i64 v1.form.kind,.str v1.form.name,.sl false 1 16 (rows OC v1.form.words),.sl false 4 72 (rows Ox.cells v1.form.subs),.sl false 1 16 (rows OC v1.words),.sl false 1 16 (rows OC v1.PA),.sl false 1 16 (rows OC v1.parts)]]),some (.arr gt0 1 16 (rows OC t0)),none,some (.arr gs1 6 104 (rows OB.cells s1))])
    (fun(gt1:Nat) (t1:(List OB))=>[(8,.ref false (st.length+6) gt1 0 t1.length)])
    (fun(gt1:Nat) (t1:(List OB))=>st++[none,none,none,none,none,none,some (.arr gt1 6 104 (rows OB.cells t1))])
    0 fx hl1 h (bm hsc)
    (fun gs1 k1 s1 b1 fx h hx1=>?_) (fun gs1 s1=>?_) (fun gt1 t1 fr1 st1 h hb=>?_)
   ·unfold WI at h
    refine ct ?_
    refine cl h (OH _ _) fun v38 h=>?_
    refine rn ?_
    obtain⟨v39,hv39,h⟩:=Rs h
    refine i7l (fun hG=>(Wi _ _ _ (d5D hv39 (by simpa using hG)) _ _ gt0 (by simp) (XV.trans rfl))) (fun hF=>by obtain rfl:=p1u hv39 (by simpa using hF);simp only[go_sem,fx]) ?_
    refine cd h (fun hc h=>?_) fun hc h=>?_
    ·refine ra ?_
     cases h
     refine Qh ?_;have h:=congrArg some (hx1 _ rfl)
     refine rr ?_
     exact fo (.tup [.sl false 6 104 (rows OB.cells []),.bool false]) (.tup _ _ (.cons _ _ _ _ (.OI _ _ _ (by decide)) (.cons _ _ _ _ .s .nil)) rfl) h hsc
    ·obtain⟨fx,h⟩:=ck fx h
     refine cl h (OH _ _) fun v42 h=>?_
     refine cd h (fun hc h=>?_) fun hc h=>?_
     ·refine cl h (d3H n _) fun v43 h=>?_
      try simp only[go_sem,fx]
      obtain⟨c45,p0O,h⟩:=Xg h
      have fy:=(show rows OB.cells s1++[[.str ((get v19 k1).drop 1),.str (((assoc (get v19 k1) v2.2).getD default).text),.int .i64 v43.kind,.str v43.name,.sl false 1 16 (rows OC v43.words),.sl false 4 72 (rows Ox.cells v43.subs)]]=rows OB.cells c45 from by rw[p0O];first|exact Pp (E:=OB.cells) s1 [(OB.mk ((get v19 k1).drop 1) (((assoc (get v19 k1) v2.2).getD default).text) v43)]|simp only[go_sem,rows,List.map_append,List.map_cons,List.map_nil])
      have fy:=fa fy (show s1.length+1=c45.length from by rw[p0O];simp)
      obtain⟨fx,h⟩:=ck fx h
      refine r1 ?_
      refine rn ?_
      cases h
      exact Vh (gs1+1) (bm hsc)
     ·refine r0 ?_
      obtain⟨c51,p0P,h⟩:=Xg h
      have fy:=(show rows OB.cells s1++[[.str ((get v19 k1).drop 1),.str (((assoc (get v19 k1) v2.2).getD default).text),.int .i64 (((assoc (get v19 k1) v2.2).getD default).form.kind),.str (((assoc (get v19 k1) v2.2).getD default).form.name),.sl false 1 16 (rows OC (((assoc (get v19 k1) v2.2).getD default).form.words)),.sl false 4 72 (rows Ox.cells (((assoc (get v19 k1) v2.2).getD default).form.subs))]]=rows OB.cells c51 from by rw[p0P];first|exact Pp (E:=OB.cells) s1 [(OB.mk ((get v19 k1).drop 1) (((assoc (get v19 k1) v2.2).getD default).text) (((assoc (get v19 k1) v2.2).getD default).form))]|simp only[go_sem,rows,List.map_append,List.map_cons,List.map_nil])
      have fy:=fa fy (show s1.length+1=c51.length from by rw[p0P];simp)
      obtain⟨fx,h⟩:=ck fx h
      refine r1 ?_
      refine rn ?_
      cases h
      exact Vh (gs1+1) (bm hsc)
   ·refine cf ?_
    refine VK ?_;simp only[go_sem,fx]
    exact⟨gs1,(bm hsc)⟩
   ·try simp only[go_sem,fx]
    unfold WJ at h
    refine Rj hb ?_
    refine rr ?_
    exact fo (.tup [.sl false 6 104 (rows OB.cells t1),.bool true]) (.tup _ _ (.cons _ _ _ _ (.ref _ _ _ _ _ _ _ _ _ (d1o.trans rfl) d9L (by decide) (YP _) (by simp only[go_sem])) (.cons _ _ _ _ .s .nil)) rfl) h hsc
theorem VJ(a0:(List OB))(a1:Bs)(r:Bs)(h:TH a0 a1=some r):Pure Tryz.prog gl 112 [.sl false 6 104 (rows OB.cells a0),.str a1] (.str r):=by
 intro st
 unfold TH at h
 have fx:=trivial
 refine fb 21 [.tmp 4] [0,1,4,6,7,8,9,10,16] Tryz.func112 fun hsc=>?_
 refine aln 7 fun hl0=>?_
 refine rng (body:=Vv a0 a1) (kk:=Vw a1) (n:=a0.length) (s0:=())
  (fun(gs0:Unit) (k0:Nat) (s0:Unit)=>[(1,.str a1),(7,.sl false 6 104 (rows OB.cells a0)),(8,.int .i64 (↑a0.length:Int)),(9,.int .i64 (↑k0:Int))])
  (fun(gs0:Unit) (k0:Nat) (s0:Unit)=>st)
  (fun(gt0:Unit) (t0:Unit)=>[(1,.str a1)])
  (fun(gt0:Unit) (t0:Unit)=>st)
  () fx hl0 h (d1N hsc)
  (fun gs0 k0 s0 b0 fx h hx0=>?_) (fun gs0 s0=>?_) (fun gt0 t0 fr1 st1 h hb=>?_)
 ·unfold Vv at h
  refine ct ?_
  refine cd h (fun hc h=>?_) fun hc h=>?_
  ·refine ra ?_
   cases h
   refine Qh ?_;have h:=congrArg some (hx0 _ rfl)
   exact rt
  ·refine rn ?_
   cases h
   exact Vh () (bm0 hsc)
 ·refine cf ?_
  refine VK ?_;simp only[go_sem,fx]
  exact⟨(),(d1N hsc)⟩
 ·try simp only[go_sem,fx]
  unfold Vw at h
  refine Rj hb ?_
  exact rt
theorem d1C:∀(n:Nat) (a0:Ox) (a1:Bs) (m1:(List (Bs×Bs))) (d5u:Int) (d5v:Bs) (d5w:(List Bs)) (d5x:(List Ox)) (d5y:(List Bs)) (d5z:(List Bs)) (d5A:(List Bs)) (r:(List (Bs×Bs))) (h:Sb n a0 a1 m1 d5u d5v d5w d5x d5y d5z d5A=some r),∀(st:St) (o0 o1 o2 o3:Nat) (hnd: [o0,o1,o2,o3].Nodup) (Qr:Am.look st o0=some (.arr 0 1 0 [[.mp o1]])) (Sd:Am.look st o1=some (.mps false (mrw OC m1))) (Tz:Am.look st o2=some (.arr 0 7 0 [[.int .i64 d5u,.str d5v,.sl false 1 16 (rows OC d5w),.sl false 4 72 (rows Ox.cells d5x),.sl false 1 16 (rows OC d5y),.sl false 1 16 (rows OC d5z),.sl false 1 16 (rows OC d5A)]])) (Yd:Am.look st o3=some (.arr 0 1 0 [[.fn 143 [] [.ptr o0 0 0 0,.ptr o2 0 0 0,.ptr o3 0 0 0]]])),Am.Spec Tryz.prog gl 143 [.agg [.int .i64 a0.kind,.str a0.name,.sl false 1 16 (rows OC a0.words),.sl false 4 72 (rows Ox.cells a0.subs)],.str a1,.ptr o0 0 0 0,.ptr o2 0 0 0,.ptr o3 0 0 0] st (fun d st'=>d= .tup []∧st'=puts st [(o0,(.arr 0 1 0 [[.mp o1]])),(o1,(.mps false (mrw OC r))),(o2,(.arr 0 7 0 [[.int .i64 d5u,.str d5v,.sl false 1 16 (rows OC d5w),.sl false 4 72 (rows Ox.cells d5x),.sl false 1 16 (rows OC d5y),.sl false 1 16 (rows OC d5z),.sl false 1 16 (rows OC d5A)]])),(o3,(.arr 0 1 0 [[.fn 143 [] [.ptr o0 0 0 0,.ptr o2 0 0 0,.ptr o3 0 0 0]]]))]):=by
 intro n
 induction n with
 |zero=>intro a0 a1 m1 d5u d5v d5w d5x d5y d5z d5A r h;cases h
 |succ n ih=>
  intro a0 a1 m1 d5u d5v d5w d5x d5y d5z d5A r h st o0 o1 o2 o3 hnd Qr Sd Tz Yd
  unfold Sb at h
  have ho0:=OM Qr
  have ho1:=OM Sd
  have ho2:=OM Tz
  have ho3:=OM Yd
  have fx:=fa (fa (fa (fa (idf ho0) (idf ho1)) (idf ho2)) (idf ho3)) (nd4 hnd)
  refine fb 45 [] [0,1,2,3,4,5,8,9,10,21,22,23,24,30,31,32,33] Tryz.func143 fun hsc=>?_
  refine SZ (s':=(OT st [(o0,(.arr 0 1 0 [[.mp o1]])),(o1,(.mps false (mrw OC m1))),(o2,(.arr 0 7 0 [[.int .i64 d5u,.str d5v,.sl false 1 16 (rows OC d5w),.sl false 4 72 (rows Ox.cells d5x),.sl false 1 16 (rows OC d5y),.sl false 1 16 (rows OC d5z),.sl false 1 16 (rows OC d5A)]])),(o3,(.arr 0 1 0 [[.fn 143 [] [.ptr o0 0 0 0,.ptr o2 0 0 0,.ptr o3 0 0 0]]]))])) (OW (by simp[Qr,Sd,Tz,Yd])) ?_
  refine rn ?_
  obtain⟨v1,hv1,h⟩:=Rs h
  refine TD (fun hG=>(Rb _ _ _ (d5D hv1 (by simpa using hG)))) ?_
  refine rn ?_
  refine VN (TS (Sb n) a1 a0 d5u d5v d5w d5x d5y d5z d5A) r (fun(gj0:Unit) (j0:(List (Bs×Bs)))=>[(1,.str a1),(4,.ptr o3 0 0 0),(5,.ptr st.length 0 0 0)]) (fun(gj0:Unit) (j0:(List (Bs×Bs)))=>(OT st [(o0,(.arr 0 1 0 [[.mp o1]])),(o1,(.mps false (mrw OC j0))),(o2,(.arr 0 7 0 [[.int .i64 d5u,.str d5v,.sl false 1 16 (rows OC d5w),.sl false 4 72 (rows Ox.cells d5x),.sl false 1 16 (rows OC d5y),.sl false 1 16 (rows OC d5z),.sl false 1 16 (rows OC d5A)]])),(o3,(.arr 0 1 0 [[.fn 143 [] [.ptr o0 0 0 0,.ptr o2 0 0 0,.ptr o3 0 0 0]]]))])++[some (.arr 0 4 0 [[.int .i64 a0.kind,.str a0.name,.sl false 1 16 (rows OC a0.words),.sl false 4 72 (rows Ox.cells a0.subs)]])]) (fun gj0 j0 fr1 st1 h hb=>?_) (fun hj0=>?_)
  ·try simp only[go_sem,fx]
   unfold TS at h
   refine Rj hb ?_
   refine aln 30 fun hl1=>?_
   refine rng (body:=Wa (Sb n) a1 a0 d5u d5v d5w d5x d5y d5z d5A) (kk:=Wb) (n:=a0.subs.length) (s0:=j0)
    (fun(gs1:Unit) (k1:Nat) (s1:(List (Bs×Bs)))=>[(1,.str a1),(4,.ptr o3 0 0 0),(30,.sl false 4 72 (rows Ox.cells a0.subs)),(31,.int .i64 (↑a0.subs.length:Int)),(32,.int .i64 (↑k1:Int))])
    (fun(gs1:Unit) (k1:Nat) (s1:(List (Bs×Bs)))=>(OT st [(o0,(.arr 0 1 0 [[.mp o1]])),(o1,(.mps false (mrw OC s1))),(o2,(.arr 0 7 0 [[.int .i64 d5u,.str d5v,.sl false 1 16 (rows OC d5w),.sl false 4 72 (rows Ox.cells d5x),.sl false 1 16 (rows OC d5y),.sl false 1 16 (rows OC d5z),.sl false 1 16 (rows OC d5A)]])),(o3,(.arr 0 1 0 [[.fn 143 [] [.ptr o0 0 0 0,.ptr o2 0 0 0,.ptr o3 0 0 0]]]))]))
    (fun(gt1:Unit) (t1:(List (Bs×Bs)))=>[])
    (fun(gt1:Unit) (t1:(List (Bs×Bs)))=>(OT st [(o0,(.arr 0 1 0 [[.mp o1]])),(o1,(.mps false (mrw OC t1))),(o2,(.arr 0 7 0 [[.int .i64 d5u,.str d5v,.sl false 1 16 (rows OC d5w),.sl false 4 72 (rows Ox.cells d5x),.sl false 1 16 (rows OC d5y),.sl false 1 16 (rows OC d5z),.sl false 1 16 (rows OC d5A)]])),(o3,(.arr 0 1 0 [[.fn 143 [] [.ptr o0 0 0 0,.ptr o2 0 0 0,.ptr o3 0 0 0]]]))]))
    () fx hl1 h (bu0 hsc)
    (fun gs1 k1 s1 b1 fx h hx1=>?_) (fun gs1 s1=>?_) (fun gt1 t1 fr1 st1 h hb=>?_)
   ·unfold Wa at h
    refine ct ?_
    refine rn ?_
    refine dw [6] 0 ?_
    obtain⟨v7,hv7,h⟩:=Rs h
    refine TF (d1z _ _ hv7) ?_
    obtain⟨fx,h⟩:=ck fx h
    try simp only[go_sem,fx]
    obtain⟨v9,hv9,h⟩:=Rs h
    refine WO [o0,o1,o2,o3] (fun st2 h2=>(ih _ _ _ _ _ _ _ _ _ _ _ hv9 st2 _ _ _ _ hnd ((h2 _ (by simp)).trans (by simp only[go_sem,fx])) ((h2 _ (by simp)).trans (by simp only[go_sem,fx])) ((h2 _ (by simp)).trans (by simp only[go_sem,fx])) ((h2 _ (by simp)).trans (by simp only[go_sem,fx])))) (by simp) (by simp only[List.mem_cons,List.not_mem_nil,or_false,forall_eq_or_imp,forall_eq];exact⟨⟨by first|omega|(simp<;>omega),_,(by simp only[go_sem,fx]<;>rfl),Ob.noConfusion⟩,⟨by first|omega|(simp<;>omega),_,(by simp only[go_sem,fx]<;>rfl),Ob.noConfusion⟩,⟨by first|omega|(simp<;>omega),_,(by simp only[go_sem,fx]<;>rfl),Ob.noConfusion⟩,⟨by first|omega|(simp<;>omega),_,(by simp only[go_sem,fx]<;>rfl),Ob.noConfusion⟩⟩) (by simp) ?_
    try simp only[go_sem,fx]
    try refine⟨by first|omega|(simp<;>omega),?_⟩
    refine rn ?_
    cases h
    exact Vh () (bu0 hsc)
   ·refine cf ?_
    refine VK ?_;simp only[go_sem,fx]
    exact⟨(),(i0V hsc)⟩
   ·try simp only[go_sem,fx]
    unfold Wb at h
    refine d2q hb ?_
    refine rr ?_
    exact fus (.tup []) (.same _) h hsc
  ·refine cd h (fun hc h=>?_) fun hc h=>?_
   ·obtain⟨c2,hc2,h⟩:=Xg h
    have fy:=(show OU a0.name [.str a1] (mrw OC m1)=mrw OC c2 from by rw[hc2];exact XY (κ:=Bs) (E:=OC) a0.name a1 m1)
    refine r1 ?_
    refine hj0 () _ _ _ h ?_;exact(bu hsc)
   ·refine r0 ?_
    refine hj0 () _ _ _ h ?_;exact(bu hsc)
theorem d2g(n:Nat)(a0:OG)(r:(List (Bs×Bs)))(h:YL n a0=some r):∀st:St,Am.Spec Tryz.prog gl 113 [.agg [.int .i64 a0.form.kind,.str a0.form.name,.sl false 1 16 (rows OC a0.form.words),.sl false 4 72 (rows Ox.cells a0.form.subs),.sl false 1 16 (rows OC a0.words),.sl false 1 16 (rows OC a0.PA),.sl false 1 16 (rows OC a0.parts)]] st (fun d st'=>d= .mp (st.length+1)∧st'=st++[none,some (.mps false (mrw OC r))]):=by
 intro st
 unfold YL at h
 have fx:=trivial
 refine fb 12 [.tmp 2] [0,1,2,3,4] Tryz.func113 fun hsc=>?_
 refine rn ?_
 obtain⟨v1,hv1,h⟩:=Rs h
 refine(d1C n _ _ _ _ _ _ _ _ _ _ _ hv1 _ _ _ _ _ (by simp) (XV.trans rfl) (XV.trans rfl) (Wq.trans rfl) (XV.trans rfl)).mono ?_
 rintro d1 st1 ⟨rfl,rfl⟩
 refine rr ?_
 exact fnw [none,some (.mps false (mrw OC v1))] (.mp (st.length+1)) (.same _) h hsc
theorem Zs(a0:(List OA))(r:Int×Int×Bool)(h:UU a0=some r):Pure Tryz.prog gl 91 [.sl false 6 88 (rows OA.cells a0)] (.tup [.int .i64 r.1,.int .i64 r.2.1,.bool r.2.2]):=by
 intro st
 unfold UU at h
 have fx:=trivial
 refine fb 33 [.tmp 2,.tmp 3,.tmp 4] [0,2,3,4,5,6,8,9,10,11,12,30,31] Tryz.func91 fun hsc=>?_
 refine aln 9 fun hl0=>?_
 refine rng (body:=Vp a0) (kk:=Vq) (n:=a0.length) (s0:=(1,0))
  (fun(gs0:Unit) (k0:Nat) (s0:Int×Int)=>[(5,.int .i64 s0.1),(6,.int .i64 s0.2),(9,.sl false 6 88 (rows OA.cells a0)),(10,.int .i64 (↑a0.length:Int)),(11,.int .i64 (↑k0:Int))])
  (fun(gs0:Unit) (k0:Nat) (s0:Int×Int)=>st)
  (fun(gt0:Unit) (t0:Int×Int)=>[(5,.int .i64 t0.1),(6,.int .i64 t0.2)])
  (fun(gt0:Unit) (t0:Int×Int)=>st)
  () fx hl0 h (d1N hsc)
  (fun gs0 k0 s0 b0 fx h hx0=>?_) (fun gs0 s0=>?_) (fun gt0 t0 fr1 st1 h hb=>?_)
 ·unfold Vp at h
  refine ct ?_
  refine rn ?_
  refine dw [] 0 ?_
  refine rn ?_
  cases h
  exact Vh () (bm0 hsc)
 ·refine cf ?_
  refine VK ?_;simp only[go_sem,fx]
  exact⟨(),(d1N hsc)⟩
 ·try simp only[go_sem,fx]
  unfold Vq at h
  refine Rj hb ?_
  exact rt
set_option maxHeartbeats 30000000 in
set_option maxRecDepth 100000 in
theorem d0Z(OO:(Ox)→(Bs)→((List Oz))→(Int)→((List (Bs×Int)))→((List Oy))→Option (OA×Bool×Int×(List Oy)))(TJ:∀(a1:Ox) (a2:Bs) (OQ:(List Oz)) (Ph:Int) (m1:(List (Bs×Int))) (l2:(List Oy)) (r:OA×Bool×Int×(List Oy)) (h:OO a1 a2 OQ Ph m1 l2=some r),∀(st:St) (o0 o1 o2 q2:Nat) (hnd: [o0,o1,o2].Nodup) (Qr:Am.look st o0=some (.arr 0 4 0 [[.sl false 11 216 (rows Oz.cells OQ),.mp o1,.ref false o2 (q2+l2.length) 0 l2.length,.int .i64 Ph]])) (Sd:Am.look st o1=some (.mps false (mrw Tw m1))) (Tz:Am.look st o2=some (.arr (q2+l2.length) 2 16 (rows Oy.cells l2))),Am.Spec Tryz.prog gl 65 [.ptr o0 0 0 0,.agg [.int .i64 a1.kind,.str a1.name,.sl false 1 16 (rows OC a1.words),.sl false 4 72 (rows Ox.cells a1.subs)],.str a2] st (fun d st'=>d= .tup [.agg [.int .i64 r.1.form.kind,.str r.1.form.name,.sl false 1 16 (rows OC r.1.form.words),.sl false 4 72 (rows Ox.cells r.1.form.subs),.int .i64 r.1.nodes,.int .i64 r.1.depth],.bool r.2.1]∧st'=puts st [(o0,(.arr 0 4 0 [[.sl false 11 216 (rows Oz.cells OQ),.mp o1,.ref false o2 (q2+r.2.2.2.length) 0 r.2.2.2.length,.int .i64 r.2.2.1]])),(o1,(.mps false (mrw Tw m1))),(o2,(.arr (q2+r.2.2.2.length) 2 16 (rows Oy.cells r.2.2.2)))])):∀(n:Nat) (a0:Ox) (a1:(List Bs)) (OQ:Int) (Qo:Bs) (Qp:(List Bs)) (Ph:(List Ox)) (Qi:(List Bs)) (Qn:(List Bs)) (Qq:(List Bs)) (Ub:Int) (Uc:Bs) (Ud:(List Bs)) (Qa:(List Ox)) (m2:(List (Bs×OA))) (RY:(List OB)) (RF:Int) (Sv:Int) (Yv:Int) (ZK:(List Oz)) (d2c:Int) (m9:(List (Bs×Int))) (l10:(List Oy)) (TT:Bs) (m13:(List (Bs×Bs))) (m15:(List (Bs×Bs))) (r:OA×Bool×Int×(List Oy)×(List (Bs×OA))) (h:RA OO n a0 a1 OQ Qo Qp Ph Qi Qn Qq Ub Uc Ud Qa m2 RY RF Sv Yv ZK d2c m9 l10 TT m13 m15=some r),∀(st:St) (o0 o1 o2 o3 o4 o5 o6 o7 o8 o9 o10 o11 o12 o13 o14 o15 o16 o17 q10:Nat) (hnd: [o0,o1,o2,o3,o4,o5,o6,o7,o8,o9,o10,o11,o12,o13,o14,o15,o16,o17].Nodup) (Qr:Am.look st o0=some (.arr 0 11 0 [[.int .i64 OQ,.str Qo,.sl false 1 16 (rows OC Qp),.sl false 4 72 (rows Ox.cells Ph),.sl false 1 16 (rows OC Qi),.sl false 1 16 (rows OC Qn),.sl false 1 16 (rows OC Qq),.int .i64 Ub,.str Uc,.sl false 1 16 (rows OC Ud),.sl false 4 72 (rows Ox.cells Qa)]])) (Sd:Am.look st o1=some (.arr 0 1 0 [[.mp o2]])) (Tz:Am.look st o2=some (.mps true (mrw OA.cells m2))) (Yd:Am.look st o3=some (.arr 0 1 0 [[.sl false 6 104 (rows OB.cells RY)]])) (d0W:Am.look st o4=some (.arr 0 1 0 [[.int .i64 RF]])) (d5C:Am.look st o5=some (.arr 0 1 0 [[.int .i64 Sv]])) (i9T:Am.look st o6=some (.arr 0 1 0 [[.int .i64 Yv]])) (i9U:Am.look st o7=some (.arr 0 1 0 [[.ptr o8 0 0 0]])) (i9V:Am.look st o8=some (.arr 0 4 0 [[.sl false 11 216 (rows Oz.cells ZK),.mp o9,.ref false o10 (q10+l10.length) 0 l10.length,.int .i64 d2c]])) (i9W:Am.look st o9=some (.mps false (mrw Tw m9))) (i5F:Am.look st o10=some (.arr (q10+l10.length) 2 16 (rows Oy.cells l10))) (i5G:Am.look st o11=some (.arr 0 1 0 [[.str TT]])) (i5H:Am.look st o12=some (.arr 0 1 0 [[.mp o13]])) (i5I:Am.look st o13=some (.mps false (mrw OC m13))) (i5J:Am.look st o14=some (.arr 0 1 0 [[.mp o15]])) (i5K:Am.look st o15=some (.mps false (mrw OC m15))) (i5L:Am.look st o16=some (.arr 0 1 0 [[.fn 112 [] []]])) (i5M:Am.look st o17=some (.arr 0 1 0 [[.fn 114 [] [.ptr o0 0 0 0,.ptr o1 0 0 0,.ptr o3 0 0 0,.ptr o4 0 0 0,.ptr o5 0 0 0,.ptr o6 0 0 0,.ptr o7 0 0 0,.ptr o11 0 0 0,.ptr o12 0 0 0,.ptr o14 0 0 0,.ptr o16 0 0 0,.ptr o17 0 0 0]]])),Am.Spec Tryz.prog gl 114 [.agg [.int .i64 a0.kind,.str a0.name,.sl false 1 16 (rows OC a0.words),.sl false 4 72 (rows Ox.cells a0.subs)],.sl false 1 16 (rows OC a1),.ptr o0 0 0 0,.ptr o1 0 0 0,.ptr o3 0 0 0,.ptr o4 0 0 0,.ptr o5 0 0 0,.ptr o6 0 0 0,.ptr o7 0 0 0,.ptr o11 0 0 0,.ptr o12 0 0 0,.ptr o14 0 0 0,.ptr o16 0 0 0,.ptr o17 0 0 0] st (fun d st'=>d= .tup [.agg [.int .i64 r.1.form.kind,.str r.1.form.name,.sl false 1 16 (rows OC r.1.form.words),.sl false 4 72 (rows Ox.cells r.1.form.subs),.int .i64 r.1.nodes,.int .i64 r.1.depth],.bool r.2.1]∧st'=puts st [(o0,(.arr 0 11 0 [[.int .i64 OQ,.str Qo,.sl false 1 16 (rows OC Qp),.sl false 4 72 (rows Ox.cells Ph),.sl false 1 16 (rows OC Qi),.sl false 1 16 (rows OC Qn),.sl false 1 16 (rows OC Qq),.int .i64 Ub,.str Uc,.sl false 1 16 (rows OC Ud),.sl false 4 72 (rows Ox.cells Qa)]])),(o1,(.arr 0 1 0 [[.mp o2]])),(o2,(.mps true (mrw OA.cells r.2.2.2.2))),(o3,(.arr 0 1 0 [[.sl false 6 104 (rows OB.cells RY)]])),(o4,(.arr 0 1 0 [[.int .i64 RF]])),(o5,(.arr 0 1 0 [[.int .i64 Sv]])),(o6,(.arr 0 1 0 [[.int .i64 Yv]])),(o7,(.arr 0 1 0 [[.ptr o8 0 0 0]])),(o8,(.arr 0 4 0 [[.sl false 11 216 (rows Oz.cells ZK),.mp o9,.ref false o10 (q10+r.2.2.2.1.length) 0 r.2.2.2.1.length,.int .i64 r.2.2.1]])),(o9,(.mps false (mrw Tw m9))),(o10,(.arr (q10+r.2.2.2.1.length) 2 16 (rows Oy.cells r.2.2.2.1))),(o11,(.arr 0 1 0 [[.str TT]])),(o12,(.arr 0 1 0 [[.mp o13]])),(o13,(.mps false (mrw OC m13))),(o14,(.arr 0 1 0 [[.mp o15]])),(o15,(.mps false (mrw OC m15))),(o16,(.arr 0 1 0 [[.fn 112 [] []]])),(o17,(.arr 0 1 0 [[.fn 114 [] [.ptr o0 0 0 0,.ptr o1 0 0 0,.ptr o3 0 0 0,.ptr o4 0 0 0,.ptr o5 0 0 0,.ptr o6 0 0 0,.ptr o7 0 0 0,.ptr o11 0 0 0,.ptr o12 0 0 0,.ptr o14 0 0 0,.ptr o16 0 0 0,.ptr o17 0 0 0]]]))]):=by
 intro n
 induction n with
 |zero=>intro a0 a1 OQ Qo Qp Ph Qi Qn Qq Ub Uc Ud Qa m2 RY RF Sv Yv ZK d2c m9 l10 TT m13 m15 r h;cases h
 |succ n ih=>
  intro a0 a1 OQ Qo Qp Ph Qi Qn Qq Ub Uc Ud Qa m2 RY RF Sv Yv ZK d2c m9 l10 TT m13 m15 r h st o0 o1 o2 o3 o4 o5 o6 o7 o8 o9 o10 o11 o12 o13 o14 o15 o16 o17 q10 hnd Qr Sd Tz Yd d0W d5C i9T i9U i9V i9W i5F i5G i5H i5I i5J i5K i5L i5M
  unfold RA at h
  have ho0:=OM Qr
  have ho1:=OM Sd
  have ho2:=OM Tz
  have ho3:=OM Yd
  have ho4:=OM d0W
  have ho5:=OM d5C
  have ho6:=OM i9T
  have ho7:=OM i9U
  have ho8:=OM i9V
  have ho9:=OM i9W
  have p2P:=OM i5F
  have p2Q:=OM i5G
  have p2R:=OM i5H
  have p2S:=OM i5I
  have p2T:=OM i5J
  have p2U:=OM i5K
  have p2V:=OM i5L
  have p2W:=OM i5M
  have fx:=fa (p1C hnd ho0 ho1 ho2 ho3 ho4 ho5 ho6 ho7 ho8 ho9 p2P p2Q p2R p2S p2T p2U p2V p2W) (nd3 (i7q hnd))
  refine fb 188 [.cell 16 102,.tmp 17] [0,1,2,3,4,5,6,7,8,9,10,11,12,13,14,16,17,18,19,21,22,24,25,27,28,29,30,34,42,53,54,55,56,63,91,92,93,94,99,119,134,148,149,150,151,162] Tryz.func114 fun hsc=>?_
  refine SZ (s':=(OT st [(o0,(.arr 0 11 0 [[.int .i64 OQ,.str Qo,.sl false 1 16 (rows OC Qp),.sl false 4 72 (rows Ox.cells Ph),.sl false 1 16 (rows OC Qi),.sl false 1 16 (rows OC Qn),.sl false 1 16 (rows OC Qq),.int .i64 Ub,.str Uc,.sl false 1 16 (rows OC Ud),.sl false 4 72 (rows Ox.cells Qa)]])),(o1,(.arr 0 1 0 [[.mp o2]])),(o2,(.mps true (mrw OA.cells m2))),(o3,(.arr 0 1 0 [[.sl false 6 104 (rows OB.cells RY)]])),(o4,(.arr 0 1 0 [[.int .i64 RF]])),(o5,(.arr 0 1 0 [[.int .i64 Sv]])),(o6,(.arr 0 1 0 [[.int .i64 Yv]])),(o7,(.arr 0 1 0 [[.ptr o8 0 0 0]])),(o8,(.arr 0 4 0 [[.sl false 11 216 (rows Oz.cells ZK),.mp o9,.ref false o10 (q10+l10.length) 0 l10.length,.int .i64 d2c]])),(o9,(.mps false (mrw Tw m9))),(o10,(.arr (q10+l10.length) 2 16 (rows Oy.cells l10))),(o11,(.arr 0 1 0 [[.str TT]])),(o12,(.arr 0 1 0 [[.mp o13]])),(o13,(.mps false (mrw OC m13))),(o14,(.arr 0 1 0 [[.mp o15]])),(o15,(.mps false (mrw OC m15))),(o16,(.arr 0 1 0 [[.fn 112 [] []]])),(o17,(.arr 0 1 0 [[.fn 114 [] [.ptr o0 0 0 0,.ptr o1 0 0 0,.ptr o3 0 0 0,.ptr o4 0 0 0,.ptr o5 0 0 0,.ptr o6 0 0 0,.ptr o7 0 0 0,.ptr o11 0 0 0,.ptr o12 0 0 0,.ptr o14 0 0 0,.ptr o16 0 0 0,.ptr o17 0 0 0]]]))])) (OW (by simp[Qr,Sd,Tz,Yd,d0W,d5C,i9T,i9U,i9V,i9W,i5F,i5G,i5H,i5I,i5J,i5K,i5L,i5M])) ?_
  refine cl h (Rb _ _) fun v1 h=>?_
  refine cd h (fun hc h=>?_) fun hc h=>?_
  ·refine cd h (fun hc h=>?_) fun hc h=>?_
   ·refine rr ?_
    exact fuo (.tup [.agg [.int .i64 (((assoc a0.name m2).getD default).form.kind),.str (((assoc a0.name m2).getD default).form.name),.sl false 1 16 (rows OC (((assoc a0.name m2).getD default).form.words)),.sl false 4 72 (rows Ox.cells (((assoc a0.name m2).getD default).form.subs)),.int .i64 (((assoc a0.name m2).getD default).nodes),.int .i64 (((assoc a0.name m2).getD default).depth)],.bool true]) (.same _) h hsc
   ·obtain⟨fx,h⟩:=ck fx h
    refine aln 53 fun hl0=>?_
    refine rng (body:=Vx OO RY RF Sv Yv a0 TT m13 ZK m9) (kk:=Vy a0 m2) (n:=((RY.drop ((wr .i64 (RF+Sv)).toNat)).take ((wr .i64 ((wr .i64 (RF+Sv))+Yv)).toNat-(wr .i64 (RF+Sv)).toNat)).length) (s0:=(d2c,((assoc a0.name m2).getD default).form.kind,((assoc a0.name m2).getD default).form.name,((assoc a0.name m2).getD default).form.words,((assoc a0.name m2).getD default).form.subs,((assoc a0.name m2).getD default).nodes,((assoc a0.name m2).getD default).depth,l10,(assoc a0.name m2).isSome))
     (fun(gs0:Unit) (k0:Nat) (s0:Int×Int×Bs×(List Bs)×(List Ox)×Int×Int×(List Oy)×Bool)=>[(3,.ptr o1 0 0 0),(8,.ptr o7 0 0 0),(9,.ptr o11 0 0 0),(10,.ptr o12 0 0 0),(14,.ptr st.length 0 0 0),(16,.ptr (st.length+1) 0 0 0),(18,.ptr (st.length+2) 0 0 0),(19,.bool s0.2.2.2.2.2.2.2.2),(53,.sl false 6 104 (rows OB.cells ((RY.drop ((wr .i64 (RF+Sv)).toNat)).take ((wr .i64 ((wr .i64 (RF+Sv))+Yv)).toNat-(wr .i64 (RF+Sv)).toNat)))),(54,.int .i64 (↑(((RY.drop ((wr .i64 (RF+Sv)).toNat)).take ((wr .i64 ((wr .i64 (RF+Sv))+Yv)).toNat-(wr .i64 (RF+Sv)).toNat)).length):Int)),(55,.int .i64 (↑k0:Int))])
     (fun(gs0:Unit) (k0:Nat) (s0:Int×Int×Bs×(List Bs)×(List Ox)×Int×Int×(List Oy)×Bool)=>(OT st [(o0,(.arr 0 11 0 [[.int .i64 OQ,.str Qo,.sl false 1 16 (rows OC Qp),.sl false 4 72 (rows Ox.cells Ph),.sl false 1 16 (rows OC Qi),.sl false 1 16 (rows OC Qn),.sl false 1 16 (rows OC Qq),.int .i64 Ub,.str Uc,.sl false 1 16 (rows OC Ud),.sl false 4 72 (rows Ox.cells Qa)]])),(o1,(.arr 0 1 0 [[.mp o2]])),(o2,(.mps true (mrw OA.cells m2))),(o3,(.arr 0 1 0 [[.sl false 6 104 (rows OB.cells RY)]])),(o4,(.arr 0 1 0 [[.int .i64 RF]])),(o5,(.arr 0 1 0 [[.int .i64 Sv]])),(o6,(.arr 0 1 0 [[.int .i64 Yv]])),(o7,(.arr 0 1 0 [[.ptr o8 0 0 0]])),(o8,(.arr 0 4 0 [[.sl false 11 216 (rows Oz.cells ZK),.mp o9,.ref false o10 (q10+s0.2.2.2.2.2.2.2.1.length) 0 s0.2.2.2.2.2.2.2.1.length,.int .i64 s0.1]])),(o9,(.mps false (mrw Tw m9))),(o10,(.arr (q10+s0.2.2.2.2.2.2.2.1.length) 2 16 (rows Oy.cells s0.2.2.2.2.2.2.2.1))),(o11,(.arr 0 1 0 [[.str TT]])),(o12,(.arr 0 1 0 [[.mp o13]])),(o13,(.mps false (mrw OC m13))),(o14,(.arr 0 1 0 [[.mp o15]])),(o15,(.mps false (mrw OC m15))),(o16,(.arr 0 1 0 [[.fn 112 [] []]])),(o17,(.arr 0 1 0 [[.fn 114 [] [.ptr o0 0 0 0,.ptr o1 0 0 0,.ptr o3 0 0 0,.ptr o4 0 0 0,.ptr o5 0 0 0,.ptr o6 0 0 0,.ptr o7 0 0 0,.ptr o11 0 0 0,.ptr o12 0 0 0,.ptr o14 0 0 0,.ptr o16 0 0 0,.ptr o17 0 0 0]]]))])++[some (.arr 0 4 0 [[.int .i64 a0.kind,.str a0.name,.sl false 1 16 (rows OC a0.words),.sl false 4 72 (rows Ox.cells a0.subs)]]),some (.arr 0 6 0 [[.int .i64 0,.str [],.OI,.OI,.int .i64 0,.int .i64 0]]),some (.arr 0 6 0 [[.int .i64 s0.2.1,.str s0.2.2.1,.sl false 1 16 (rows OC s0.2.2.2.1),.sl false 4 72 (rows Ox.cells s0.2.2.2.2.1),.int .i64 s0.2.2.2.2.2.1,.int .i64 s0.2.2.2.2.2.2.1]])])
     (fun(gt0:Unit) (t0:Int×Int×Bs×(List Bs)×(List Ox)×Int×Int×(List Oy)×Bool)=>[(3,.ptr o1 0 0 0),(14,.ptr st.length 0 0 0),(16,.ptr (st.length+1) 0 0 0),(18,.ptr (st.length+2) 0 0 0),(19,.bool t0.2.2.2.2.2.2.2.2)])
     (fun(gt0:Unit) (t0:Int×Int×Bs×(List Bs)×(List Ox)×Int×Int×(List Oy)×Bool)=>(OT st [(o0,(.arr 0 11 0 [[.int .i64 OQ,.str Qo,.sl false 1 16 (rows OC Qp),.sl false 4 72 (rows Ox.cells Ph),.sl false 1 16 (rows OC Qi),.sl false 1 16 (rows OC Qn),.sl false 1 16 (rows OC Qq),.int .i64 Ub,.str Uc,.sl false 1 16 (rows OC Ud),.sl false 4 72 (rows Ox.cells Qa)]])),(o1,(.arr 0 1 0 [[.mp o2]])),(o2,(.mps true (mrw OA.cells m2))),(o3,(.arr 0 1 0 [[.sl false 6 104 (rows OB.cells RY)]])),(o4,(.arr 0 1 0 [[.int .i64 RF]])),(o5,(.arr 0 1 0 [[.int .i64 Sv]])),(o6,(.arr 0 1 0 [[.int .i64 Yv]])),(o7,(.arr 0 1 0 [[.ptr o8 0 0 0]])),(o8,(.arr 0 4 0 [[.sl false 11 216 (rows Oz.cells ZK),.mp o9,.ref false o10 (q10+t0.2.2.2.2.2.2.2.1.length) 0 t0.2.2.2.2.2.2.2.1.length,.int .i64 t0.1]])),(o9,(.mps false (mrw Tw m9))),(o10,(.arr (q10+t0.2.2.2.2.2.2.2.1.length) 2 16 (rows Oy.cells t0.2.2.2.2.2.2.2.1))),(o11,(.arr 0 1 0 [[.str TT]])),(o12,(.arr 0 1 0 [[.mp o13]])),(o13,(.mps false (mrw OC m13))),(o14,(.arr 0 1 0 [[.mp o15]])),(o15,(.mps false (mrw OC m15))),(o16,(.arr 0 1 0 [[.fn 112 [] []]])),(o17,(.arr 0 1 0 [[.fn 114 [] [.ptr o0 0 0 0,.ptr o1 0 0 0,.ptr o3 0 0 0,.ptr o4 0 0 0,.ptr o5 0 0 0,.ptr o6 0 0 0,.ptr o7 0 0 0,.ptr o11 0 0 0,.ptr o12 0 0 0,.ptr o14 0 0 0,.ptr o16 0 0 0,.ptr o17 0 0 0]]]))])++[some (.arr 0 4 0 [[.int .i64 a0.kind,.str a0.name,.sl false 1 16 (rows OC a0.words),.sl false 4 72 (rows Ox.cells a0.subs)]]),some (.arr 0 6 0 [[.int .i64 0,.str [],.OI,.OI,.int .i64 0,.int .i64 0]]),some (.arr 0 6 0 [[.int .i64 t0.2.1,.str t0.2.2.1,.sl false 1 16 (rows OC t0.2.2.2.1),.sl false 4 72 (rows Ox.cells t0.2.2.2.2.1),.int .i64 t0.2.2.2.2.2.1,.int .i64 t0.2.2.2.2.2.2.1]])])
     () fx hl0 h (bu hsc)
     (fun gs0 k0 s0 b0 fx h hx0=>?_) (fun gs0 s0=>?_) (fun gt0 t0 fr1 st1 h hb=>?_)
    ·unfold Vx at h
     refine ct ?_
     refine cd h (fun hc h=>?_) fun hc h=>?_
     ·obtain⟨fx,h⟩:=ck fx h
      refine rn ?_
      obtain⟨v9,hv9,h⟩:=Rs h
      refine(TJ _ _ _ _ _ _ _ hv9 _ o8 o9 o10 q10 (by simp[fx]<;>omega) (by simp only[go_sem,fx]) (by simp only[go_sem,fx]) (by simp only[go_sem,fx])).mono ?_
      rintro d1 st1 ⟨rfl,rfl⟩
      refine rn ?_
      cases h
      exact Vh () (bu hsc)
     ·refine rn ?_
      cases h
      exact Vh () (bu hsc)
    ·refine cf ?_
     refine VK ?_;simp only[go_sem,fx]
     exact⟨(),(bu hsc)⟩
    ·try simp only[go_sem,fx]
     unfold Vy at h
     refine Rj hb ?_
     obtain⟨c10,i2f,h⟩:=Xg h
     have fy:=(show OU a0.name [.int .i64 t0.2.1,.str t0.2.2.1,.sl false 1 16 (rows OC t0.2.2.2.1),.sl false 4 72 (rows Ox.cells t0.2.2.2.2.1),.int .i64 t0.2.2.2.2.2.1,.int .i64 t0.2.2.2.2.2.2.1] (mrw OA.cells m2)=mrw OA.cells c10 from by rw[i2f];exact XY (κ:=Bs) (E:=OA.cells) a0.name (OA.mk (Ox.mk t0.2.1 t0.2.2.1 t0.2.2.2.1 t0.2.2.2.2.1) t0.2.2.2.2.2.1 t0.2.2.2.2.2.2.1) m2)
     refine r1 ?_
     refine rr ?_
     exact fuo (.tup [.agg [.int .i64 t0.2.1,.str t0.2.2.1,.sl false 1 16 (rows OC t0.2.2.2.1),.sl false 4 72 (rows Ox.cells t0.2.2.2.2.1),.int .i64 t0.2.2.2.2.2.1,.int .i64 t0.2.2.2.2.2.2.1],.bool t0.2.2.2.2.2.2.2.2]) (.same _) h hsc
  ·refine r0 ?_
   refine r0 ?_
   refine r0 ?_
   (repeat apply sq_)
   refine RO 1 16 ?_
   try simp only[List.append_assoc,List.cons_append,List.nil_append]
   refine Rj (F:=[(1,.sl false 1 16 (rows OC a1)),(4,.ptr o3 0 0 0),(5,.ptr o4 0 0 0),(6,.ptr o5 0 0 0),(11,.ptr o14 0 0 0),(12,.ptr o16 0 0 0),(13,.ptr o17 0 0 0),(14,.ptr st.length 0 0 0),(16,.ptr (st.length+1) 0 0 0),(22,.ptr (st.length+2) 0 0 0),(91,.sl false 1 16 (rows OC a0.words)),(92,.int .i64 (↑a0.words.length:Int)),(93,.int .i64 0)]) (T:=(OT st [(o0,(.arr 0 11 0 [[.int .i64 OQ,.str Qo,.sl false 1 16 (rows OC Qp),.sl false 4 72 (rows Ox.cells Ph),.sl false 1 16 (rows OC Qi),.sl false 1 16 (rows OC Qn),.sl false 1 16 (rows OC Qq),.int .i64 Ub,.str Uc,.sl false 1 16 (rows OC Ud),.sl false 4 72 (rows Ox.cells Qa)]])),(o1,(.arr 0 1 0 [[.mp o2]])),(o2,(.mps true (mrw OA.cells m2))),(o3,(.arr 0 1 0 [[.sl false 6 104 (rows OB.cells RY)]])),(o4,(.arr 0 1 0 [[.int .i64 RF]])),(o5,(.arr 0 1 0 [[.int .i64 Sv]])),(o6,(.arr 0 1 0 [[.int .i64 Yv]])),(o7,(.arr 0 1 0 [[.ptr o8 0 0 0]])),(o8,(.arr 0 4 0 [[.sl false 11 216 (rows Oz.cells ZK),.mp o9,.ref false o10 (q10+l10.length) 0 l10.length,.int .i64 d2c]])),(o9,(.mps false (mrw Tw m9))),(o10,(.arr (q10+l10.length) 2 16 (rows Oy.cells l10))),(o11,(.arr 0 1 0 [[.str TT]])),(o12,(.arr 0 1 0 [[.mp o13]])),(o13,(.mps false (mrw OC m13))),(o14,(.arr 0 1 0 [[.mp o15]])),(o15,(.mps false (mrw OC m15))),(o16,(.arr 0 1 0 [[.fn 112 [] []]])),(o17,(.arr 0 1 0 [[.fn 114 [] [.ptr o0 0 0 0,.ptr o1 0 0 0,.ptr o3 0 0 0,.ptr o4 0 0 0,.ptr o5 0 0 0,.ptr o6 0 0 0,.ptr o7 0 0 0,.ptr o11 0 0 0,.ptr o12 0 0 0,.ptr o14 0 0 0,.ptr o16 0 0 0,.ptr o17 0 0 0]]]))])++[some (.arr 0 4 0 [[.int .i64 a0.kind,.str a0.name,.sl false 1 16 (rows OC a0.words),.sl false 4 72 (rows Ox.cells a0.subs)]]),some (.arr 0 6 0 [[.int .i64 0,.str [],.OI,.OI,.int .i64 0,.int .i64 0]]),some (.arr 0 6 0 [[.int .i64 a0.kind,.str a0.name,.ref false (st.length+3) 0 0 0,.OI,.int .i64 0,.int .i64 0]]),some (.arr 0 1 16 (rows OC []))]) (Vi (by simp) (QX hsc (by simp<;>omega)) (.lv (.lv (.live _ _ _ _ (.arr _ _ _ _ _ (.cons _ _ _ _ (.cons _ _ _ _ .s (.cons _ _ _ _ .s (.cons _ _ _ _ (.nref _ _ _ _ _ _ (Pa.trans rfl)) (.cons _ _ _ _ .s (.cons _ _ _ _ .s (.cons _ _ _ _ .s .nil)))))) (.same _))) (.lv (.nil _))))) (by simp<;>omega) ⟨.s,.s,.s,.s,.s,.s,.s,.s,.s,.s,.s,.s,.s,trivial⟩ (by simp<;>omega)) ?_
   refine aln 91 fun hl1=>?_
   refine rng (body:=Vz a1 a0 m15 RF RY) (kk:=VD (RA OO n) a0 a1 OQ Qo Qp Ph Qi Qn Qq Ub Uc Ud Qa RY RF Sv Yv ZK m9 TT m13 m15 d2c l10 m2) (n:=a0.words.length) (s0:=[])
    (fun(gs1:Nat) (k1:Nat) (s1:(List Bs))=>[(1,.sl false 1 16 (rows OC a1)),(4,.ptr o3 0 0 0),(5,.ptr o4 0 0 0),(6,.ptr o5 0 0 0),(11,.ptr o14 0 0 0),(12,.ptr o16 0 0 0),(13,.ptr o17 0 0 0),(14,.ptr st.length 0 0 0),(16,.ptr (st.length+1) 0 0 0),(22,.ptr (st.length+2) 0 0 0),(91,.sl false 1 16 (rows OC a0.words)),(92,.int .i64 (↑a0.words.length:Int)),(93,.int .i64 (↑k1:Int))])
    (fun(gs1:Nat) (k1:Nat) (s1:(List Bs))=>(OT st [(o0,(.arr 0 11 0 [[.int .i64 OQ,.str Qo,.sl false 1 16 (rows OC Qp),.sl false 4 72 (rows Ox.cells Ph),.sl false 1 16 (rows OC Qi),.sl false 1 16 (rows OC Qn),.sl false 1 16 (rows OC Qq),.int .i64 Ub,.str Uc,.sl false 1 16 (rows OC Ud),.sl false 4 72 (rows Ox.cells Qa)]])),(o1,(.arr 0 1 0 [[.mp o2]])),(o2,(.mps true (mrw OA.cells m2))),(o3,(.arr 0 1 0 [[.sl false 6 104 (rows OB.cells RY)]])),(o4,(.arr 0 1 0 [[.int .i64 RF]])),(o5,(.arr 0 1 0 [[.int .i64 Sv]])),(o6,(.arr 0 1 0 [[.int .i64 Yv]])),(o7,(.arr 0 1 0 [[.ptr o8 0 0 0]])),(o8,(.arr 0 4 0 [[.sl false 11 216 (rows Oz.cells ZK),.mp o9,.ref false o10 (q10+l10.length) 0 l10.length,.int .i64 d2c]])),(o9,(.mps false (mrw Tw m9))),(o10,(.arr (q10+l10.length) 2 16 (rows Oy.cells l10))),(o11,(.arr 0 1 0 [[.str TT]])),(o12,(.arr 0 1 0 [[.mp o13]])),(o13,(.mps false (mrw OC m13))),(o14,(.arr 0 1 0 [[.mp o15]])),(o15,(.mps false (mrw OC m15))),(o16,(.arr 0 1 0 [[.fn 112 [] []]])),(o17,(.arr 0 1 0 [[.fn 114 [] [.ptr o0 0 0 0,.ptr o1 0 0 0,.ptr o3 0 0 0,.ptr o4 0 0 0,.ptr o5 0 0 0,.ptr o6 0 0 0,.ptr o7 0 0 0,.ptr o11 0 0 0,.ptr o12 0 0 0,.ptr o14 0 0 0,.ptr o16 0 0 0,.ptr o17 0 0 0]]]))])++[some (.arr 0 4 0 [[.int .i64 a0.kind,.str a0.name,.sl false 1 16 (rows OC a0.words),.sl false 4 72 (rows Ox.cells a0.subs)]]),some (.arr 0 6 0 [[.int .i64 0,.str [],.OI,.OI,.int .i64 0,.int .i64 0]]),some (.arr 0 6 0 [[.int .i64 a0.kind,.str a0.name,.ref false (st.length+3) gs1 0 s1.length,.OI,.int .i64 0,.int .i64 0]]),some (.arr gs1 1 16 (rows OC s1))])
    (fun(gt1:Nat) (t1:(List Bs))=>[(1,.sl false 1 16 (rows OC a1)),(4,.ptr o3 0 0 0),(5,.ptr o4 0 0 0),(6,.ptr o5 0 0 0),(11,.ptr o14 0 0 0),(12,.ptr o16 0 0 0),(13,.ptr o17 0 0 0),(14,.ptr st.length 0 0 0),(16,.ptr (st.length+1) 0 0 0),(22,.ptr (st.length+2) 0 0 0)])
    (fun(gt1:Nat) (t1:(List Bs))=>(OT st [(o0,(.arr 0 11 0 [[.int .i64 OQ,.str Qo,.sl false 1 16 (rows OC Qp),.sl false 4 72 (rows Ox.cells Ph),.sl false 1 16 (rows OC Qi),.sl false 1 16 (rows OC Qn),.sl false 1 16 (rows OC Qq),.int .i64 Ub,.str Uc,.sl false 1 16 (rows OC Ud),.sl false 4 72 (rows Ox.cells Qa)]])),(o1,(.arr 0 1 0 [[.mp o2]])),(o2,(.mps true (mrw OA.cells m2))),(o3,(.arr 0 1 0 [[.sl false 6 104 (rows OB.cells RY)]])),(o4,(.arr 0 1 0 [[.int .i64 RF]])),(o5,(.arr 0 1 0 [[.int .i64 Sv]])),(o6,(.arr 0 1 0 [[.int .i64 Yv]])),(o7,(.arr 0 1 0 [[.ptr o8 0 0 0]])),(o8,(.arr 0 4 0 [[.sl false 11 216 (rows Oz.cells ZK),.mp o9,.ref false o10 (q10+l10.length) 0 l10.length,.int .i64 d2c]])),(o9,(.mps false (mrw Tw m9))),(o10,(.arr (q10+l10.length) 2 16 (rows Oy.cells l10))),(o11,(.arr 0 1 0 [[.str TT]])),(o12,(.arr 0 1 0 [[.mp o13]])),(o13,(.mps false (mrw OC m13))),(o14,(.arr 0 1 0 [[.mp o15]])),(o15,(.mps false (mrw OC m15))),(o16,(.arr 0 1 0 [[.fn 112 [] []]])),(o17,(.arr 0 1 0 [[.fn 114 [] [.ptr o0 0 0 0,.ptr o1 0 0 0,.ptr o3 0 0 0,.ptr o4 0 0 0,.ptr o5 0 0 0,.ptr o6 0 0 0,.ptr o7 0 0 0,.ptr o11 0 0 0,.ptr o12 0 0 0,.ptr o14 0 0 0,.ptr o16 0 0 0,.ptr o17 0 0 0]]]))])++[some (.arr 0 4 0 [[.int .i64 a0.kind,.str a0.name,.sl false 1 16 (rows OC a0.words),.sl false 4 72 (rows Ox.cells a0.subs)]]),some (.arr 0 6 0 [[.int .i64 0,.str [],.OI,.OI,.int .i64 0,.int .i64 0]]),some (.arr 0 6 0 [[.int .i64 a0.kind,.str a0.name,.ref false (st.length+3) gt1 0 t1.length,.OI,.int .i64 0,.int .i64 0]]),some (.arr gt1 1 16 (rows OC t1))])
    0 fx hl1 h (bu hsc)
    (fun gs1 k1 s1 b1 fx h hx1=>?_) (fun gs1 s1=>?_) (fun gt1 t1 fr1 st1 h hb=>?_)
   ·unfold Vz at h
    refine ct ?_
    refine cl h (OH _ _) fun v28 h=>?_
    refine cd h (fun hc h=>?_) fun hc h=>?_
    ·refine r0 ?_
     obtain⟨c30,p0Q,h⟩:=Xg h
     have fy:=(show rows OC s1++[[.str ((assoc (get a0.words k1) m15).getD default)]]=rows OC c30 from by rw[p0Q];first|exact Pp (E:=OC) s1 [((assoc (get a0.words k1) m15).getD default)]|simp only[go_sem,rows,List.map_append,List.map_cons,List.map_nil])
     have fy:=fa fy (show s1.length+1=c30.length from by rw[p0Q];simp)
     obtain⟨fx,h⟩:=ck fx h
     refine r1 ?_
     refine rn ?_
     cases h
     exact Vh (gs1+1) (bu hsc)
    ·refine rs ?_
     obtain⟨fx,h⟩:=ck fx h
     refine dw [] 0 ?_
     obtain⟨v37,hv37,h⟩:=Rs h
     refine TF (VJ _ _ _ hv37) ?_
     try simp only[go_sem,fx]
     obtain⟨c39,i8f,h⟩:=Xg h
     have fy:=(show rows OC s1++[[.str v37]]=rows OC c39 from by rw[i8f];first|exact Pp (E:=OC) s1 [v37]|simp only[go_sem,rows,List.map_append,List.map_cons,List.map_nil])
     have fy:=fa fy (show s1.length+1=c39.length from by rw[i8f];simp)
     obtain⟨fx,h⟩:=ck fx h
     refine r1 ?_
     refine rn ?_
     cases h
     exact Vh (gs1+1) (bu hsc)
   ·refine cf ?_
    refine VK ?_;simp only[go_sem,fx]
    exact⟨gs1,(bu hsc)⟩
   ·try simp only[go_sem,fx]
    unfold VD at h
    refine Rj hb ?_
    refine cl h (Pj _) fun v44 h=>?_
    refine rn ?_
    refine VN (RX (RA OO n) a0 OQ Qo Qp Ph Qi Qn Qq Ub Uc Ud Qa RY RF Sv Yv ZK m9 TT m13 m15 d2c l10 m2 t1) r (fun(gj2:Unit) (j2:Bs×(List Bs))=>[(1,.sl false 1 16 (rows OC j2.2)),(13,.ptr o17 0 0 0),(14,.ptr st.length 0 0 0),(16,.ptr (st.length+1) 0 0 0),(22,.ptr (st.length+2) 0 0 0)]) (fun(gj2:Unit) (j2:Bs×(List Bs))=>(OT st [(o0,(.arr 0 11 0 [[.int .i64 OQ,.str Qo,.sl false 1 16 (rows OC Qp),.sl false 4 72 (rows Ox.cells Ph),.sl false 1 16 (rows OC Qi),.sl false 1 16 (rows OC Qn),.sl false 1 16 (rows OC Qq),.int .i64 Ub,.str Uc,.sl false 1 16 (rows OC Ud),.sl false 4 72 (rows Ox.cells Qa)]])),(o1,(.arr 0 1 0 [[.mp o2]])),(o2,(.mps true (mrw OA.cells m2))),(o3,(.arr 0 1 0 [[.sl false 6 104 (rows OB.cells RY)]])),(o4,(.arr 0 1 0 [[.int .i64 RF]])),(o5,(.arr 0 1 0 [[.int .i64 Sv]])),(o6,(.arr 0 1 0 [[.int .i64 Yv]])),(o7,(.arr 0 1 0 [[.ptr o8 0 0 0]])),(o8,(.arr 0 4 0 [[.sl false 11 216 (rows Oz.cells ZK),.mp o9,.ref false o10 (q10+l10.length) 0 l10.length,.int .i64 d2c]])),(o9,(.mps false (mrw Tw m9))),(o10,(.arr (q10+l10.length) 2 16 (rows Oy.cells l10))),(o11,(.arr 0 1 0 [[.str TT]])),(o12,(.arr 0 1 0 [[.mp o13]])),(o13,(.mps false (mrw OC m13))),(o14,(.arr 0 1 0 [[.mp o15]])),(o15,(.mps false (mrw OC m15))),(o16,(.arr 0 1 0 [[.fn 112 [] []]])),(o17,(.arr 0 1 0 [[.fn 114 [] [.ptr o0 0 0 0,.ptr o1 0 0 0,.ptr o3 0 0 0,.ptr o4 0 0 0,.ptr o5 0 0 0,.ptr o6 0 0 0,.ptr o7 0 0 0,.ptr o11 0 0 0,.ptr o12 0 0 0,.ptr o14 0 0 0,.ptr o16 0 0 0,.ptr o17 0 0 0]]]))])++[some (.arr 0 4 0 [[.int .i64 a0.kind,.str a0.name,.sl false 1 16 (rows OC a0.words),.sl false 4 72 (rows Ox.cells a0.subs)]]),some (.arr 0 6 0 [[.int .i64 0,.str [],.OI,.OI,.int .i64 0,.int .i64 0]]),some (.arr 0 6 0 [[.int .i64 a0.kind,.str j2.1,.ref false (st.length+3) gt1 0 t1.length,.OI,.int .i64 0,.int .i64 0]]),some (.arr gt1 1 16 (rows OC t1))]) (fun gj2 j2 fr1 st1 h hb=>?_) (fun hj2=>?_)
    ·try simp only[go_sem,fx]
     unfold RX at h
     refine Rj hb ?_
     refine r0 ?_
     refine r0 ?_
     (repeat apply sq_)
     refine RO 6 88 ?_
     refine RO 4 72 ?_
     try simp only[List.append_assoc,List.cons_append,List.nil_append]
     refine Rj (F:=[(1,.sl false 1 16 (rows OC j2.2)),(13,.ptr o17 0 0 0),(16,.ptr (st.length+1) 0 0 0),(22,.ptr (st.length+2) 0 0 0),(25,.ref false (st.length+4) 0 0 0),(148,.sl false 4 72 (rows Ox.cells a0.subs)),(149,.int .i64 (↑a0.subs.length:Int)),(150,.int .i64 0)]) (T:=(OT st [(o0,(.arr 0 11 0 [[.int .i64 OQ,.str Qo,.sl false 1 16 (rows OC Qp),.sl false 4 72 (rows Ox.cells Ph),.sl false 1 16 (rows OC Qi),.sl false 1 16 (rows OC Qn),.sl false 1 16 (rows OC Qq),.int .i64 Ub,.str Uc,.sl false 1 16 (rows OC Ud),.sl false 4 72 (rows Ox.cells Qa)]])),(o1,(.arr 0 1 0 [[.mp o2]])),(o2,(.mps true (mrw OA.cells m2))),(o3,(.arr 0 1 0 [[.sl false 6 104 (rows OB.cells RY)]])),(o4,(.arr 0 1 0 [[.int .i64 RF]])),(o5,(.arr 0 1 0 [[.int .i64 Sv]])),(o6,(.arr 0 1 0 [[.int .i64 Yv]])),(o7,(.arr 0 1 0 [[.ptr o8 0 0 0]])),(o8,(.arr 0 4 0 [[.sl false 11 216 (rows Oz.cells ZK),.mp o9,.ref false o10 (q10+l10.length) 0 l10.length,.int .i64 d2c]])),(o9,(.mps false (mrw Tw m9))),(o10,(.arr (q10+l10.length) 2 16 (rows Oy.cells l10))),(o11,(.arr 0 1 0 [[.str TT]])),(o12,(.arr 0 1 0 [[.mp o13]])),(o13,(.mps false (mrw OC m13))),(o14,(.arr 0 1 0 [[.mp o15]])),(o15,(.mps false (mrw OC m15))),(o16,(.arr 0 1 0 [[.fn 112 [] []]])),(o17,(.arr 0 1 0 [[.fn 114 [] [.ptr o0 0 0 0,.ptr o1 0 0 0,.ptr o3 0 0 0,.ptr o4 0 0 0,.ptr o5 0 0 0,.ptr o6 0 0 0,.ptr o7 0 0 0,.ptr o11 0 0 0,.ptr o12 0 0 0,.ptr o14 0 0 0,.ptr o16 0 0 0,.ptr o17 0 0 0]]]))])++[some (.arr 0 4 0 [[.int .i64 a0.kind,.str a0.name,.sl false 1 16 (rows OC a0.words),.sl false 4 72 (rows Ox.cells a0.subs)]]),some (.arr 0 6 0 [[.int .i64 0,.str [],.OI,.OI,.int .i64 0,.int .i64 0]]),some (.arr 0 6 0 [[.int .i64 a0.kind,.str j2.1,.ref false (st.length+3) gt1 0 t1.length,.ref false (st.length+5) 0 0 0,.int .i64 0,.int .i64 0]]),some (.arr gt1 1 16 (rows OC t1)),some (.arr 0 6 88 (rows OA.cells [])),some (.arr 0 4 72 (rows Ox.cells []))]) (Vi (by simp) (QX hsc (by simp<;>omega)) (.lv (.lv (.live _ _ _ _ (.arr _ _ _ _ _ (.cons _ _ _ _ (.cons _ _ _ _ .s (.cons _ _ _ _ .s (.cons _ _ _ _ .s (.cons _ _ _ _ (.nref _ _ _ _ _ _ (Pa.trans rfl)) (.cons _ _ _ _ .s (.cons _ _ _ _ .s .nil)))))) (.same _))) (.lv (.lv (.lv (.nil _))))))) (by simp<;>omega) ⟨.s,.s,.s,.s,.nref _ _ _ _ _ _ (Pa.trans rfl),.s,.s,.s,trivial⟩ (by simp<;>omega)) ?_
     refine aln 148 fun hl3=>?_
     refine rng (body:=VA (RA OO n) a0 j2 OQ Qo Qp Ph Qi Qn Qq Ub Uc Ud Qa RY RF Sv Yv ZK m9 TT m13 m15) (kk:=VB a0 j2 t1) (n:=a0.subs.length) (s0:=(d2c,l10,m2,[],[]))
      (fun(gs3:Nat×Nat) (k3:Nat) (s3:Int×(List Oy)×(List (Bs×OA))×(List OA)×(List Ox))=>[(1,.sl false 1 16 (rows OC j2.2)),(13,.ptr o17 0 0 0),(16,.ptr (st.length+1) 0 0 0),(22,.ptr (st.length+2) 0 0 0),(25,.ref false (st.length+4) gs3.1 0 s3.2.2.2.1.length),(148,.sl false 4 72 (rows Ox.cells a0.subs)),(149,.int .i64 (↑a0.subs.length:Int)),(150,.int .i64 (↑k3:Int))])
      (fun(gs3:Nat×Nat) (k3:Nat) (s3:Int×(List Oy)×(List (Bs×OA))×(List OA)×(List Ox))=>(OT st [(o0,(.arr 0 11 0 [[.int .i64 OQ,.str Qo,.sl false 1 16 (rows OC Qp),.sl false 4 72 (rows Ox.cells Ph),.sl false 1 16 (rows OC Qi),.sl false 1 16 (rows OC Qn),.sl false 1 16 (rows OC Qq),.int .i64 Ub,.str Uc,.sl false 1 16 (rows OC Ud),.sl false 4 72 (rows Ox.cells Qa)]])),(o1,(.arr 0 1 0 [[.mp o2]])),(o2,(.mps true (mrw OA.cells s3.2.2.1))),(o3,(.arr 0 1 0 [[.sl false 6 104 (rows OB.cells RY)]])),(o4,(.arr 0 1 0 [[.int .i64 RF]])),(o5,(.arr 0 1 0 [[.int .i64 Sv]])),(o6,(.arr 0 1 0 [[.int .i64 Yv]])),(o7,(.arr 0 1 0 [[.ptr o8 0 0 0]])),(o8,(.arr 0 4 0 [[.sl false 11 216 (rows Oz.cells ZK),.mp o9,.ref false o10 (q10+s3.2.1.length) 0 s3.2.1.length,.int .i64 s3.1]])),(o9,(.mps false (mrw Tw m9))),(o10,(.arr (q10+s3.2.1.length) 2 16 (rows Oy.cells s3.2.1))),(o11,(.arr 0 1 0 [[.str TT]])),(o12,(.arr 0 1 0 [[.mp o13]])),(o13,(.mps false (mrw OC m13))),(o14,(.arr 0 1 0 [[.mp o15]])),(o15,(.mps false (mrw OC m15))),(o16,(.arr 0 1 0 [[.fn 112 [] []]])),(o17,(.arr 0 1 0 [[.fn 114 [] [.ptr o0 0 0 0,.ptr o1 0 0 0,.ptr o3 0 0 0,.ptr o4 0 0 0,.ptr o5 0 0 0,.ptr o6 0 0 0,.ptr o7 0 0 0,.ptr o11 0 0 0,.ptr o12 0 0 0,.ptr o14 0 0 0,.ptr o16 0 0 0,.ptr o17 0 0 0]]]))])++[none,some (.arr 0 6 0 [[.int .i64 0,.str [],.OI,.OI,.int .i64 0,.int .i64 0]]),some (.arr 0 6 0 [[.int .i64 a0.kind,.str j2.1,.ref false (st.length+3) gt1 0 t1.length,.ref false (st.length+5) gs3.2 0 s3.2.2.2.2.length,.int .i64 0,.int .i64 0]]),some (.arr gt1 1 16 (rows OC t1)),some (.arr gs3.1 6 88 (rows OA.cells s3.2.2.2.1)),some (.arr gs3.2 4 72 (rows Ox.cells s3.2.2.2.2))])
      (fun(gt3:Nat×Nat) (t3:Int×(List Oy)×(List (Bs×OA))×(List OA)×(List Ox))=>[(16,.ptr (st.length+1) 0 0 0),(22,.ptr (st.length+2) 0 0 0),(25,.ref false (st.length+4) gt3.1 0 t3.2.2.2.1.length)])
      (fun(gt3:Nat×Nat) (t3:Int×(List Oy)×(List (Bs×OA))×(List OA)×(List Ox))=>(OT st [(o0,(.arr 0 11 0 [[.int .i64 OQ,.str Qo,.sl false 1 16 (rows OC Qp),.sl false 4 72 (rows Ox.cells Ph),.sl false 1 16 (rows OC Qi),.sl false 1 16 (rows OC Qn),.sl false 1 16 (rows OC Qq),.int .i64 Ub,.str Uc,.sl false 1 16 (rows OC Ud),.sl false 4 72 (rows Ox.cells Qa)]])),(o1,(.arr 0 1 0 [[.mp o2]])),(o2,(.mps true (mrw OA.cells t3.2.2.1))),(o3,(.arr 0 1 0 [[.sl false 6 104 (rows OB.cells RY)]])),(o4,(.arr 0 1 0 [[.int .i64 RF]])),(o5,(.arr 0 1 0 [[.int .i64 Sv]])),(o6,(.arr 0 1 0 [[.int .i64 Yv]])),(o7,(.arr 0 1 0 [[.ptr o8 0 0 0]])),(o8,(.arr 0 4 0 [[.sl false 11 216 (rows Oz.cells ZK),.mp o9,.ref false o10 (q10+t3.2.1.length) 0 t3.2.1.length,.int .i64 t3.1]])),(o9,(.mps false (mrw Tw m9))),(o10,(.arr (q10+t3.2.1.length) 2 16 (rows Oy.cells t3.2.1))),(o11,(.arr 0 1 0 [[.str TT]])),(o12,(.arr 0 1 0 [[.mp o13]])),(o13,(.mps false (mrw OC m13))),(o14,(.arr 0 1 0 [[.mp o15]])),(o15,(.mps false (mrw OC m15))),(o16,(.arr 0 1 0 [[.fn 112 [] []]])),(o17,(.arr 0 1 0 [[.fn 114 [] [.ptr o0 0 0 0,.ptr o1 0 0 0,.ptr o3 0 0 0,.ptr o4 0 0 0,.ptr o5 0 0 0,.ptr o6 0 0 0,.ptr o7 0 0 0,.ptr o11 0 0 0,.ptr o12 0 0 0,.ptr o14 0 0 0,.ptr o16 0 0 0,.ptr o17 0 0 0]]]))])++[none,some (.arr 0 6 0 [[.int .i64 0,.str [],.OI,.OI,.int .i64 0,.int .i64 0]]),some (.arr 0 6 0 [[.int .i64 a0.kind,.str j2.1,.ref false (st.length+3) gt1 0 t1.length,.ref false (st.length+5) gt3.2 0 t3.2.2.2.2.length,.int .i64 0,.int .i64 0]]),some (.arr gt1 1 16 (rows OC t1)),some (.arr gt3.1 6 88 (rows OA.cells t3.2.2.2.1)),some (.arr gt3.2 4 72 (rows Ox.cells t3.2.2.2.2))])
      (0,0) fx hl3 h (bu hsc)
      (fun gs3 k3 s3 b3 fx h hx3=>?_) (fun gs3 s3=>?_) (fun gt3 t3 fr1 st1 h hb=>?_)
     ·unfold VA at h
      refine ct ?_
      refine rn ?_
      obtain⟨v70,hv70,h⟩:=Rs h
      refine i1b (ih _ _ _ _ _ _ _ _ _ _ _ _ _ _ _ _ _ _ _ _ _ _ _ _ _ _ hv70 _ _ _ _ _ _ _ _ _ _ _ _ _ _ _ _ _ _ _ q10 hnd (by simp only[go_sem,fx]) (by simp only[go_sem,fx]) (by simp only[go_sem,fx]) (by simp only[go_sem,fx]) (by simp only[go_sem,fx]) (by simp only[go_sem,fx]) (by simp only[go_sem,fx]) (by simp only[go_sem,fx]) (by simp only[go_sem,fx]) (by simp only[go_sem,fx]) (by simp only[go_sem,fx]) (by simp only[go_sem,fx]) (by simp only[go_sem,fx]) (by simp only[go_sem,fx]) (by simp only[go_sem,fx]) (by simp only[go_sem,fx]) (by simp only[go_sem,fx]) (by simp only[go_sem,fx])) ?_
      refine cd h (fun hc h=>?_) fun hc h=>?_
      ·refine ra ?_
       cases h
       refine Qh ?_;have h:=congrArg some (hx3 _ rfl)
       refine rr ?_
       exact fuo (.tup [.agg [.int .i64 0,.str [],.sl false 1 16 (rows OC []),.sl false 4 72 (rows Ox.cells []),.int .i64 0,.int .i64 0],.bool false]) (.tup _ _ (.cons _ _ _ _ (.agg _ _ (.cons _ _ _ _ .s (.cons _ _ _ _ .s (.cons _ _ _ _ (.OI _ _ _ (by decide)) (.cons _ _ _ _ (.OI _ _ _ (by decide)) (.cons _ _ _ _ .s (.cons _ _ _ _ .s .nil))))))) (.cons _ _ _ _ .s .nil)) rfl) h hsc
      ·refine r0 ?_
       obtain⟨c72,p0R,h⟩:=Xg h
       have fy:=(show rows OA.cells s3.2.2.2.1++[[.int .i64 v70.1.form.kind,.str v70.1.form.name,.sl false 1 16 (rows OC v70.1.form.words),.sl false 4 72 (rows Ox.cells v70.1.form.subs),.int .i64 v70.1.nodes,.int .i64 v70.1.depth]]=rows OA.cells c72 from by rw[p0R];first|exact Pp (E:=OA.cells) s3.2.2.2.1 [v70.1]|simp only[go_sem,rows,List.map_append,List.map_cons,List.map_nil])
       have fy:=fa fy (show s3.2.2.2.1.length+1=c72.length from by rw[p0R];simp)
       obtain⟨fx,h⟩:=ck fx h
       refine r1 ?_
       obtain⟨c78,p0S,h⟩:=Xg h
       have fy:=(show rows Ox.cells s3.2.2.2.2++[[.int .i64 v70.1.form.kind,.str v70.1.form.name,.sl false 1 16 (rows OC v70.1.form.words),.sl false 4 72 (rows Ox.cells v70.1.form.subs)]]=rows Ox.cells c78 from by rw[p0S];first|exact Pp (E:=Ox.cells) s3.2.2.2.2 [v70.1.form]|simp only[go_sem,rows,List.map_append,List.map_cons,List.map_nil])
       have fy:=fa fy (show s3.2.2.2.2.length+1=c78.length from by rw[p0S];simp)
       obtain⟨fx,h⟩:=ck fx h
       refine r1 ?_
       refine rn ?_
       cases h
       exact Vh ((gs3.1+1),(gs3.2+1)) (bu hsc)
     ·refine cf ?_
      refine VK ?_;simp only[go_sem,fx]
      exact⟨(gs3.1,gs3.2),(bu hsc)⟩
     ·try simp only[go_sem,fx]
      unfold VB at h
      refine Rj hb ?_
      refine rn ?_
      obtain⟨v83,hv83,h⟩:=Rs h
      refine((Zs _ _ hv83).borrow (args:=[.ref false (st.length+4) gt3.1 0 t3.2.2.2.1.length]) (.cons _ _ _ _ (.ref _ _ _ _ _ _ _ _ _ (Pa.trans rfl) d6d (by decide) (YP _) (by simp only[go_sem])) .nil) (by simp) rfl ) ?_
      refine rr ?_
      exact fuo (.tup [.agg [.int .i64 a0.kind,.str j2.1,.sl false 1 16 (rows OC t1),.sl false 4 72 (rows Ox.cells t3.2.2.2.2),.int .i64 v83.1,.int .i64 v83.2.1],.bool v83.2.2]) (.tup _ _ (.cons _ _ _ _ (.agg _ _ (.cons _ _ _ _ .s (.cons _ _ _ _ .s (.cons _ _ _ _ (.ref _ _ _ _ _ _ _ _ _ (Pa.trans rfl) RP (by decide) (YP _) (by simp only[go_sem])) (.cons _ _ _ _ (.ref _ _ _ _ _ _ _ _ _ (Pa.trans rfl) RP (by decide) (YP _) (by simp only[go_sem])) (.cons _ _ _ _ .s (.cons _ _ _ _ .s .nil))))))) (.cons _ _ _ _ .s .nil)) rfl) h hsc
    ·refine cd h (fun hc h=>?_) fun hc h=>?_
     ·refine r0 ?_
      (repeat apply sq_)
      refine RO 1 16 ?_
      try simp only[List.append_assoc,List.cons_append,List.nil_append]
      refine Rj (F:=[(1,.sl false 1 16 (rows OC a1)),(13,.ptr o17 0 0 0),(14,.ptr st.length 0 0 0),(16,.ptr (st.length+1) 0 0 0),(22,.ptr (st.length+2) 0 0 0)]) (T:=(OT st [(o0,(.arr 0 11 0 [[.int .i64 OQ,.str Qo,.sl false 1 16 (rows OC Qp),.sl false 4 72 (rows Ox.cells Ph),.sl false 1 16 (rows OC Qi),.sl false 1 16 (rows OC Qn),.sl false 1 16 (rows OC Qq),.int .i64 Ub,.str Uc,.sl false 1 16 (rows OC Ud),.sl false 4 72 (rows Ox.cells Qa)]])),(o1,(.arr 0 1 0 [[.mp o2]])),(o2,(.mps true (mrw OA.cells m2))),(o3,(.arr 0 1 0 [[.sl false 6 104 (rows OB.cells RY)]])),(o4,(.arr 0 1 0 [[.int .i64 RF]])),(o5,(.arr 0 1 0 [[.int .i64 Sv]])),(o6,(.arr 0 1 0 [[.int .i64 Yv]])),(o7,(.arr 0 1 0 [[.ptr o8 0 0 0]])),(o8,(.arr 0 4 0 [[.sl false 11 216 (rows Oz.cells ZK),.mp o9,.ref false o10 (q10+l10.length) 0 l10.length,.int .i64 d2c]])),(o9,(.mps false (mrw Tw m9))),(o10,(.arr (q10+l10.length) 2 16 (rows Oy.cells l10))),(o11,(.arr 0 1 0 [[.str TT]])),(o12,(.arr 0 1 0 [[.mp o13]])),(o13,(.mps false (mrw OC m13))),(o14,(.arr 0 1 0 [[.mp o15]])),(o15,(.mps false (mrw OC m15))),(o16,(.arr 0 1 0 [[.fn 112 [] []]])),(o17,(.arr 0 1 0 [[.fn 114 [] [.ptr o0 0 0 0,.ptr o1 0 0 0,.ptr o3 0 0 0,.ptr o4 0 0 0,.ptr o5 0 0 0,.ptr o6 0 0 0,.ptr o7 0 0 0,.ptr o11 0 0 0,.ptr o12 0 0 0,.ptr o14 0 0 0,.ptr o16 0 0 0,.ptr o17 0 0 0]]]))])++[some (.arr 0 4 0 [[.int .i64 a0.kind,.str a0.name,.sl false 1 16 (rows OC a0.words),.sl false 4 72 (rows Ox.cells a0.subs)]]),some (.arr 0 6 0 [[.int .i64 0,.str [],.OI,.OI,.int .i64 0,.int .i64 0]]),some (.arr 0 6 0 [[.int .i64 a0.kind,.str ((assoc a0.name m15).getD default),.ref false (st.length+3) gt1 0 t1.length,.OI,.int .i64 0,.int .i64 0]]),some (.arr gt1 1 16 (rows OC t1)),some (.arr 0 1 16 (rows OC []))]) (Vi (by simp) (QX hsc (by simp<;>omega)) (.lv (.lv (.lv (.lv (.lv (.nil _)))))) (by simp<;>omega) ⟨.s,.s,.s,.s,.s,trivial⟩ (by simp<;>omega)) ?_
      refine rs ?_
      refine dw [1,3] 2 ?_
      obtain⟨v45,hv45,h⟩:=Rs h
      refine WO [(st.length+4)] (fun st2 h2=>(Qc _ _ _ hv45 st2 (st.length+4) 0 (by simp) ((h2 _ (by simp)).trans (OZ.trans rfl)))) (by simp) (by simp only[List.mem_cons,List.not_mem_nil,or_false,forall_eq_or_imp,forall_eq];exact⟨by first|omega|(simp<;>omega),_,(OZ.trans rfl),Ob.noConfusion⟩) (by simp) ?_
      obtain⟨c47,p0T,h⟩:=Xg h
      have fy:=(show rows OC v45++[[.str a0.name]]=rows OC c47 from by rw[p0T];first|exact Pp (E:=OC) v45 [a0.name]|simp only[go_sem,rows,List.map_append,List.map_cons,List.map_nil])
      have fy:=fa fy (show v45.length+1=c47.length from by rw[p0T];simp)
      obtain⟨fx,h⟩:=ck fx h
      try simp only[go_sem,fx,fy]
      try refine⟨by first|omega|(simp<;>omega),?_⟩
      refine hj2 () _ _ _ h ?_;exact(bu hsc (hf:=⟨.ref _ _ _ _ _ _ _ _ _ (Pa.trans rfl) (VU (by first|decide|simp)) (by decide) (YP _) (by simp only[go_sem]),.s,.s,.s,.s,trivial⟩))
     ·refine cd h (fun hc h=>?_) fun hc h=>?_
      ·refine rs ?_
       obtain⟨fx,h⟩:=ck fx h
       refine dw [] 0 ?_
       obtain⟨v56,hv56,h⟩:=Rs h
       refine TF (VJ _ _ _ hv56) ?_
       try simp only[go_sem,fx]
       refine hj2 () _ _ _ h ?_;exact(bu hsc)
      ·refine r0 ?_
       refine hj2 () _ _ _ h ?_;exact(bu hsc)
end Go.Proofs.YtfacbpehlibilaaGreatDoor
