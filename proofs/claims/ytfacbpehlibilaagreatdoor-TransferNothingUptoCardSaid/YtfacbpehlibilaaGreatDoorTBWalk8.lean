import Derived.Test.YtfacbpehlibilaaGreatDoorTBWalk7
set_option linter.unusedVariables false
set_option linter.unusedSimpArgs false
set_option maxHeartbeats 2000000
set_option maxRecDepth 100000
namespace Go.Proofs.YtfacbpehlibilaaGreatDoor
open Go Go.Am
theorem d1E:∀(n:Nat) (a0:Ox) (a1:(List OJ)) (OQ:Int) (RE:(List Bs)) (r:Ox×Int) (h:PD n a0 a1 OQ RE=some r),∀(st:St) (o0 o1:Nat) (hnd: [o0,o1].Nodup) (Qr:Am.look st o0=some (.arr 0 1 0 [[.int .i64 OQ]])) (Sd:Am.look st o1=some (.arr 0 1 0 [[.sl false 1 16 (rows OC RE)]])),Am.Spec Tryz.prog gl 104 [.agg [.int .i64 a0.kind,.str a0.name,.sl false 1 16 (rows OC a0.words),.sl false 4 72 (rows Ox.cells a0.subs)],.sl false 2 32 (rows OJ.cells a1),.fn 103 [] [.ptr o0 0 0 0,.ptr o1 0 0 0]] st (fun d st'=>d= .agg [.int .i64 r.1.kind,.str r.1.name,.sl false 1 16 (rows OC r.1.words),.sl false 4 72 (rows Ox.cells r.1.subs)]∧st'=puts st [(o0,(.arr 0 1 0 [[.int .i64 r.2]])),(o1,(.arr 0 1 0 [[.sl false 1 16 (rows OC RE)]]))]):=by
 intro n
 induction n with
 |zero=>intro a0 a1 OQ RE r h;cases h
 |succ n ih=>
  intro a0 a1 OQ RE r h st o0 o1 hnd Qr Sd
  unfold PD at h
  have ho0:=OM Qr
  have ho1:=OM Sd
  have fx:=fa (fa (idf ho0) (idf ho1)) (nd2 hnd)
  refine fb 87 [.cell 6 31] [0,1,2,3,6,7,9,10,12,19,20,21,22,29,38,52,70,71,72,73] Tryz.func104 fun hsc=>?_
  refine SZ (s':=(OT st [(o0,(.arr 0 1 0 [[.int .i64 OQ]])),(o1,(.arr 0 1 0 [[.sl false 1 16 (rows OC RE)]]))])) (OW (by simp[Qr,Sd])) ?_
  refine r0 ?_
  refine r0 ?_
  refine r0 ?_
  (repeat apply sq_)
  refine RO 1 16 ?_
  try simp only[List.append_assoc,List.cons_append,List.nil_append]
  refine Rj (F:=[(1,.sl false 2 32 (rows OJ.cells a1)),(2,.fn 103 [] [.ptr o0 0 0 0,.ptr o1 0 0 0]),(3,.ptr st.length 0 0 0),(6,.ptr (st.length+1) 0 0 0),(7,.ptr (st.length+2) 0 0 0),(19,.sl false 1 16 (rows OC a0.words)),(20,.int .i64 (↑a0.words.length:Int)),(21,.int .i64 0)]) (T:=(OT st [(o0,(.arr 0 1 0 [[.int .i64 OQ]])),(o1,(.arr 0 1 0 [[.sl false 1 16 (rows OC RE)]]))])++[some (.arr 0 4 0 [[.int .i64 a0.kind,.str a0.name,.sl false 1 16 (rows OC a0.words),.sl false 4 72 (rows Ox.cells a0.subs)]]),some (.arr 0 4 0 [[.int .i64 0,.str [],.OI,.OI]]),some (.arr 0 4 0 [[.int .i64 a0.kind,.str a0.name,.ref false (st.length+3) 0 0 0,.OI]]),some (.arr 0 1 16 (rows OC []))]) (Vi (by simp) (QX hsc (by simp<;>omega)) (.lv (.lv (.live _ _ _ _ (.arr _ _ _ _ _ (.cons _ _ _ _ (.cons _ _ _ _ .s (.cons _ _ _ _ .s (.cons _ _ _ _ (.nref _ _ _ _ _ _ (Pa.trans rfl)) (.cons _ _ _ _ .s .nil)))) (.same _))) (.lv (.nil _))))) (by simp<;>omega) ⟨.s,.s,.s,.s,.s,.s,.s,.s,trivial⟩ (by simp<;>omega)) ?_
  refine aln 19 fun hl0=>?_
  refine rng (body:=Sh n a1 a0) (kk:=Sl (PD n) n a0 OQ RE a1) (n:=a0.words.length) (s0:=[])
   (fun(gs0:Nat) (k0:Nat) (s0:(List Bs))=>[(1,.sl false 2 32 (rows OJ.cells a1)),(2,.fn 103 [] [.ptr o0 0 0 0,.ptr o1 0 0 0]),(3,.ptr st.length 0 0 0),(6,.ptr (st.length+1) 0 0 0),(7,.ptr (st.length+2) 0 0 0),(19,.sl false 1 16 (rows OC a0.words)),(20,.int .i64 (↑a0.words.length:Int)),(21,.int .i64 (↑k0:Int))])
   (fun(gs0:Nat) (k0:Nat) (s0:(List Bs))=>(OT st [(o0,(.arr 0 1 0 [[.int .i64 OQ]])),(o1,(.arr 0 1 0 [[.sl false 1 16 (rows OC RE)]]))])++[some (.arr 0 4 0 [[.int .i64 a0.kind,.str a0.name,.sl false 1 16 (rows OC a0.words),.sl false 4 72 (rows Ox.cells a0.subs)]]),some (.arr 0 4 0 [[.int .i64 0,.str [],.OI,.OI]]),some (.arr 0 4 0 [[.int .i64 a0.kind,.str a0.name,.ref false (st.length+3) gs0 0 s0.length,.OI]]),some (.arr gs0 1 16 (rows OC s0))])
   (fun(gt0:Nat) (t0:(List Bs))=>[(1,.sl false 2 32 (rows OJ.cells a1)),(2,.fn 103 [] [.ptr o0 0 0 0,.ptr o1 0 0 0]),(3,.ptr st.length 0 0 0),(6,.ptr (st.length+1) 0 0 0),(7,.ptr (st.length+2) 0 0 0)])
   (fun(gt0:Nat) (t0:(List Bs))=>(OT st [(o0,(.arr 0 1 0 [[.int .i64 OQ]])),(o1,(.arr 0 1 0 [[.sl false 1 16 (rows OC RE)]]))])++[some (.arr 0 4 0 [[.int .i64 a0.kind,.str a0.name,.sl false 1 16 (rows OC a0.words),.sl false 4 72 (rows Ox.cells a0.subs)]]),some (.arr 0 4 0 [[.int .i64 0,.str [],.OI,.OI]]),some (.arr 0 4 0 [[.int .i64 a0.kind,.str a0.name,.ref false (st.length+3) gt0 0 t0.length,.OI]]),some (.arr gt0 1 16 (rows OC t0))])
   0 fx hl0 h (bu hsc)
   (fun gs0 k0 s0 b0 fx h hx0=>?_) (fun gs0 s0=>?_) (fun gt0 t0 fr1 st1 h hb=>?_)
  ·unfold Sh at h
   refine ct ?_
   refine rn ?_
   refine Yo (body:=QM a1 a0 k0) (kk:=Si s0) (n:=n) (s0:=(wr .i64 ((↑a1.length:Int)-1)))
    (fun(gs2:Unit) (s2:Int)=>[(1,.sl false 2 32 (rows OJ.cells a1)),(2,.fn 103 [] [.ptr o0 0 0 0,.ptr o1 0 0 0]),(3,.ptr st.length 0 0 0),(6,.ptr (st.length+1) 0 0 0),(7,.ptr (st.length+2) 0 0 0),(9,.str (get a0.words k0)),(10,.int .i64 s2),(19,.sl false 1 16 (rows OC a0.words)),(20,.int .i64 (↑a0.words.length:Int)),(21,.int .i64 (↑k0:Int))])
    (fun(gs2:Unit) (s2:Int)=>(OT st [(o0,(.arr 0 1 0 [[.int .i64 OQ]])),(o1,(.arr 0 1 0 [[.sl false 1 16 (rows OC RE)]]))])++[some (.arr 0 4 0 [[.int .i64 a0.kind,.str a0.name,.sl false 1 16 (rows OC a0.words),.sl false 4 72 (rows Ox.cells a0.subs)]]),some (.arr 0 4 0 [[.int .i64 0,.str [],.OI,.OI]]),some (.arr 0 4 0 [[.int .i64 a0.kind,.str a0.name,.ref false (st.length+3) gs0 0 s0.length,.OI]]),some (.arr gs0 1 16 (rows OC s0))])
    (fun(gt2:Unit) (t2:Bs)=>[(1,.sl false 2 32 (rows OJ.cells a1)),(2,.fn 103 [] [.ptr o0 0 0 0,.ptr o1 0 0 0]),(3,.ptr st.length 0 0 0),(6,.ptr (st.length+1) 0 0 0),(7,.ptr (st.length+2) 0 0 0),(9,.str t2),(19,.sl false 1 16 (rows OC a0.words)),(20,.int .i64 (↑a0.words.length:Int)),(21,.int .i64 (↑k0:Int))])
    (fun(gt2:Unit) (t2:Bs)=>(OT st [(o0,(.arr 0 1 0 [[.int .i64 OQ]])),(o1,(.arr 0 1 0 [[.sl false 1 16 (rows OC RE)]]))])++[some (.arr 0 4 0 [[.int .i64 a0.kind,.str a0.name,.sl false 1 16 (rows OC a0.words),.sl false 4 72 (rows Ox.cells a0.subs)]]),some (.arr 0 4 0 [[.int .i64 0,.str [],.OI,.OI]]),some (.arr 0 4 0 [[.int .i64 a0.kind,.str a0.name,.ref false (st.length+3) gs0 0 s0.length,.OI]]),some (.arr gs0 1 16 (rows OC s0))])
    () h (bu hsc)
    (fun gs2 s2 b2 h hx2=>?_) (fun gt2 t2 fr1 st1 h hb=>?_)
   ·unfold QM at h
    refine cd h (fun hc h=>?_) fun hc h=>?_
    ·obtain⟨fx,h⟩:=ck fx h
     refine cd h (fun hc h=>?_) fun hc h=>?_
     ·refine rn ?_
      cases h
      exact d1q () (bu hsc)
     ·refine rn ?_
      cases h
      exact d1p () (bu hsc)
    ·refine rn ?_
     cases h
     exact d1q () (bu hsc)
   ·try simp only[go_sem,fx]
    unfold Si at h
    refine Rj hb ?_
    obtain⟨c16,p0U,h⟩:=Xg h
    have fy:=(show rows OC s0++[[.str t2]]=rows OC c16 from by rw[p0U];first|exact Pp (E:=OC) s0 [t2]|simp only[go_sem,rows,List.map_append,List.map_cons,List.map_nil])
    have fy:=fa fy (show s0.length+1=c16.length from by rw[p0U];simp)
    obtain⟨fx,h⟩:=ck fx h
    refine r1 ?_
    refine rn ?_
    cases h
    exact Vh (gs0+1) (bu hsc)
  ·refine cf ?_
   refine VK ?_;simp only[go_sem,fx]
   exact⟨gs0,(bu hsc)⟩
  ·try simp only[go_sem,fx]
   unfold Sl at h
   refine Rj hb ?_
   refine cl h (Pj _) fun v21 h=>?_
   refine rn ?_
   refine VN (Qj (PD n) a0 RE t0) r (fun(gj3:Unit) (j3:Int×Bs×(List OJ))=>[(1,.sl false 2 32 (rows OJ.cells j3.2.2)),(2,.fn 103 [] [.ptr o0 0 0 0,.ptr o1 0 0 0]),(3,.ptr st.length 0 0 0),(6,.ptr (st.length+1) 0 0 0),(7,.ptr (st.length+2) 0 0 0)]) (fun(gj3:Unit) (j3:Int×Bs×(List OJ))=>(OT st [(o0,(.arr 0 1 0 [[.int .i64 j3.1]])),(o1,(.arr 0 1 0 [[.sl false 1 16 (rows OC RE)]]))])++[some (.arr 0 4 0 [[.int .i64 a0.kind,.str a0.name,.sl false 1 16 (rows OC a0.words),.sl false 4 72 (rows Ox.cells a0.subs)]]),some (.arr 0 4 0 [[.int .i64 0,.str [],.OI,.OI]]),some (.arr 0 4 0 [[.int .i64 a0.kind,.str j3.2.1,.ref false (st.length+3) gt0 0 t0.length,.OI]]),some (.arr gt0 1 16 (rows OC t0))]) (fun gj3 j3 fr1 st1 h hb=>?_) (fun hj3=>?_)
   ·try simp only[go_sem,fx]
    unfold Qj at h
    refine Rj hb ?_
    refine r0 ?_
    (repeat apply sq_)
    refine RO 4 72 ?_
    try simp only[List.append_assoc,List.cons_append,List.nil_append]
    refine Rj (F:=[(1,.sl false 2 32 (rows OJ.cells j3.2.2)),(2,.fn 103 [] [.ptr o0 0 0 0,.ptr o1 0 0 0]),(6,.ptr (st.length+1) 0 0 0),(7,.ptr (st.length+2) 0 0 0),(70,.sl false 4 72 (rows Ox.cells a0.subs)),(71,.int .i64 (↑a0.subs.length:Int)),(72,.int .i64 0)]) (T:=(OT st [(o0,(.arr 0 1 0 [[.int .i64 j3.1]])),(o1,(.arr 0 1 0 [[.sl false 1 16 (rows OC RE)]]))])++[some (.arr 0 4 0 [[.int .i64 a0.kind,.str a0.name,.sl false 1 16 (rows OC a0.words),.sl false 4 72 (rows Ox.cells a0.subs)]]),some (.arr 0 4 0 [[.int .i64 0,.str [],.OI,.OI]]),some (.arr 0 4 0 [[.int .i64 a0.kind,.str j3.2.1,.ref false (st.length+3) gt0 0 t0.length,.ref false (st.length+4) 0 0 0]]),some (.arr gt0 1 16 (rows OC t0)),some (.arr 0 4 72 (rows Ox.cells []))]) (Vi (by simp) (QX hsc (by simp<;>omega)) (.lv (.lv (.live _ _ _ _ (.arr _ _ _ _ _ (.cons _ _ _ _ (.cons _ _ _ _ .s (.cons _ _ _ _ .s (.cons _ _ _ _ .s (.cons _ _ _ _ (.nref _ _ _ _ _ _ (Pa.trans rfl)) .nil)))) (.same _))) (.lv (.lv (.nil _)))))) (by simp<;>omega) ⟨.s,.s,.s,.s,.s,.s,.s,trivial⟩ (by simp<;>omega)) ?_
    refine aln 70 fun hl4=>?_
    refine rng (body:=Sj (PD n) a0 j3 RE) (kk:=Sk a0 j3 t0) (n:=a0.subs.length) (s0:=(j3.1,[]))
     (fun(gs4:Nat) (k4:Nat) (s4:Int×(List Ox))=>[(1,.sl false 2 32 (rows OJ.cells j3.2.2)),(2,.fn 103 [] [.ptr o0 0 0 0,.ptr o1 0 0 0]),(6,.ptr (st.length+1) 0 0 0),(7,.ptr (st.length+2) 0 0 0),(70,.sl false 4 72 (rows Ox.cells a0.subs)),(71,.int .i64 (↑a0.subs.length:Int)),(72,.int .i64 (↑k4:Int))])
     (fun(gs4:Nat) (k4:Nat) (s4:Int×(List Ox))=>(OT st [(o0,(.arr 0 1 0 [[.int .i64 s4.1]])),(o1,(.arr 0 1 0 [[.sl false 1 16 (rows OC RE)]]))])++[none,some (.arr 0 4 0 [[.int .i64 0,.str [],.OI,.OI]]),some (.arr 0 4 0 [[.int .i64 a0.kind,.str j3.2.1,.ref false (st.length+3) gt0 0 t0.length,.ref false (st.length+4) gs4 0 s4.2.length]]),some (.arr gt0 1 16 (rows OC t0)),some (.arr gs4 4 72 (rows Ox.cells s4.2))])
     (fun(gt4:Nat) (t4:Int×(List Ox))=>[(6,.ptr (st.length+1) 0 0 0),(7,.ptr (st.length+2) 0 0 0)])
     (fun(gt4:Nat) (t4:Int×(List Ox))=>(OT st [(o0,(.arr 0 1 0 [[.int .i64 t4.1]])),(o1,(.arr 0 1 0 [[.sl false 1 16 (rows OC RE)]]))])++[none,some (.arr 0 4 0 [[.int .i64 0,.str [],.OI,.OI]]),some (.arr 0 4 0 [[.int .i64 a0.kind,.str j3.2.1,.ref false (st.length+3) gt0 0 t0.length,.ref false (st.length+4) gt4 0 t4.2.length]]),some (.arr gt0 1 16 (rows OC t0)),some (.arr gt4 4 72 (rows Ox.cells t4.2))])
     0 fx hl4 h (bu hsc)
     (fun gs4 k4 s4 b4 fx h hx4=>?_) (fun gs4 s4=>?_) (fun gt4 t4 fr1 st1 h hb=>?_)
    ·unfold Sj at h
     refine ct ?_
     refine rn ?_
     refine dw [1,5] 2 ?_
     obtain⟨v38,hv38,h⟩:=Rs h
     refine WO [o0,o1] (fun st2 h2=>(ih _ _ _ _ _ hv38 st2 _ _ hnd ((h2 _ (by simp)).trans (by simp only[go_sem,fx])) ((h2 _ (by simp)).trans (by simp only[go_sem,fx])))) (by simp) (by simp only[List.mem_cons,List.not_mem_nil,or_false,forall_eq_or_imp,forall_eq];exact⟨⟨by first|omega|(simp<;>omega),_,(by simp only[go_sem,fx]<;>rfl),Ob.noConfusion⟩,⟨by first|omega|(simp<;>omega),_,(by simp only[go_sem,fx]<;>rfl),Ob.noConfusion⟩⟩) (by simp) ?_
     obtain⟨c40,i8h,h⟩:=Xg h
     have fy:=(show rows Ox.cells s4.2++[[.int .i64 v38.1.kind,.str v38.1.name,.sl false 1 16 (rows OC v38.1.words),.sl false 4 72 (rows Ox.cells v38.1.subs)]]=rows Ox.cells c40 from by rw[i8h];first|exact Pp (E:=Ox.cells) s4.2 [v38.1]|simp only[go_sem,rows,List.map_append,List.map_cons,List.map_nil])
     have fy:=fa fy (show s4.2.length+1=c40.length from by rw[i8h];simp)
     obtain⟨fx,h⟩:=ck fx h
     try simp only[go_sem,fx,fy]
     try refine⟨by first|omega|(simp<;>omega),?_⟩
     refine rn ?_
     cases h
     exact Vh (gs4+1) (bu hsc)
    ·refine cf ?_
     refine VK ?_;simp only[go_sem,fx]
     exact⟨gs4,(bu hsc)⟩
    ·try simp only[go_sem,fx]
     unfold Sk at h
     refine Rj hb ?_
     refine rr ?_
     exact fuo (.agg [.int .i64 a0.kind,.str j3.2.1,.sl false 1 16 (rows OC t0),.sl false 4 72 (rows Ox.cells t4.2)]) (.agg _ _ (.cons _ _ _ _ .s (.cons _ _ _ _ .s (.cons _ _ _ _ (.ref _ _ _ _ _ _ _ _ _ (Pa.trans rfl) RP (by decide) (YP _) (by simp only[go_sem])) (.cons _ _ _ _ (.ref _ _ _ _ _ _ _ _ _ (Pa.trans rfl) RP (by decide) (YP _) (by simp only[go_sem])) .nil))))) h hsc
   ·refine cd h (fun hc h=>?_) fun hc h=>?_
    ·refine rn ?_
     obtain⟨v22,hv22,h⟩:=Rs h
     refine(d2h n _ _ _ hv22 _ _ _ hnd (by simp only[go_sem,fx]) (by simp only[go_sem,fx])).mono ?_
     rintro d1 st1 ⟨rfl,rfl⟩
     refine rn ?_
     obtain⟨fx,h⟩:=ck fx h
     obtain⟨c26,i8g,h⟩:=Xg h
     have fy:=(show rows OJ.cells a1++[[.str a0.name,.str v22.1]]=rows OJ.cells c26 from by rw[i8g];first|exact Pp (E:=OJ.cells) a1 [(OJ.mk a0.name v22.1)]|simp only[go_sem,rows,List.map_append,List.map_cons,List.map_nil])
     have fy:=fa fy (show a1.length+1=c26.length from by rw[i8g];simp)
     obtain⟨fx,h⟩:=ck fx h
     refine dwy [] 2 ?_
     refine hj3 () _ _ _ h ?_;exact(bu hsc (hf:=⟨.ref _ _ _ _ _ _ _ _ _ (Pa.trans rfl) (VU (by first|decide|simp)) (by decide) (YP _) (by simp only[go_sem]),.s,.s,.s,.s,trivial⟩))
    ·refine r0 ?_
     refine hj3 () _ _ _ h ?_;exact(bu hsc)
theorem d1F(n:Nat)(a0:Ox)(a1:(List OJ))(r:Ox)(h:Ug n a0 a1=some r):Pure Tryz.prog gl 75 [.agg [.int .i64 a0.kind,.str a0.name,.sl false 1 16 (rows OC a0.words),.sl false 4 72 (rows Ox.cells a0.subs)],.sl false 2 32 (rows OJ.cells a1)] (.agg [.int .i64 r.kind,.str r.name,.sl false 1 16 (rows OC r.words),.sl false 4 72 (rows Ox.cells r.subs)]):=by
 intro st
 unfold Ug at h
 have fx:=trivial
 refine fb 43 [.cell 4 31] [0,1,2,4,5,7,8,9,10,11,14,15,16,17,20,21,22,23,30] Tryz.func75 fun hsc=>?_
 refine cl h (Xq n _) fun v1 h=>?_
 refine aln 1 fun hl0=>?_
 refine rng (body:=Wh v1 a1) (kk:=Sm n a0 a1 v1) (n:=a1.length) (s0:=())
  (fun(gs0:Unit) (k0:Nat) (s0:Unit)=>[(1,.sl false 2 32 (rows OJ.cells a1)),(2,.ptr st.length 0 0 0),(4,.ptr (st.length+1) 0 0 0),(5,.ptr (st.length+2) 0 0 0),(14,.sl false 2 32 (rows OJ.cells a1)),(15,.int .i64 (↑a1.length:Int)),(16,.int .i64 (↑k0:Int))])
  (fun(gs0:Unit) (k0:Nat) (s0:Unit)=>st++[some (.arr 0 4 0 [[.int .i64 a0.kind,.str a0.name,.sl false 1 16 (rows OC a0.words),.sl false 4 72 (rows Ox.cells a0.subs)]]),some (.arr 0 4 0 [[.int .i64 0,.str [],.OI,.OI]]),some (.arr 0 1 0 [[.sl false 1 16 (rows OC v1)]])])
  (fun(gt0:Unit) (t0:Unit)=>[(1,.sl false 2 32 (rows OJ.cells a1)),(2,.ptr st.length 0 0 0),(4,.ptr (st.length+1) 0 0 0),(5,.ptr (st.length+2) 0 0 0)])
  (fun(gt0:Unit) (t0:Unit)=>st++[some (.arr 0 4 0 [[.int .i64 a0.kind,.str a0.name,.sl false 1 16 (rows OC a0.words),.sl false 4 72 (rows Ox.cells a0.subs)]]),some (.arr 0 4 0 [[.int .i64 0,.str [],.OI,.OI]]),some (.arr 0 1 0 [[.sl false 1 16 (rows OC v1)]])])
  () fx hl0 h (bm hsc)
  (fun gs0 k0 s0 b0 fx h hx0=>?_) (fun gs0 s0=>?_) (fun gt0 t0 fr1 st1 h hb=>?_)
 ·unfold Wh at h
  refine ct ?_
  refine aln 20 fun hl1=>?_
  refine rng (body:=Wf v1 a1 k0) (kk:=Wg) (n:=v1.length) (s0:=())
   (fun(gs1:Unit) (k1:Nat) (s1:Unit)=>[(1,.sl false 2 32 (rows OJ.cells a1)),(2,.ptr st.length 0 0 0),(4,.ptr (st.length+1) 0 0 0),(5,.ptr (st.length+2) 0 0 0),(7,.ptr (st.length+3) 0 0 0),(14,.sl false 2 32 (rows OJ.cells a1)),(15,.int .i64 (↑a1.length:Int)),(16,.int .i64 (↑k0:Int)),(20,.sl false 1 16 (rows OC v1)),(21,.int .i64 (↑v1.length:Int)),(22,.int .i64 (↑k1:Int))])
   (fun(gs1:Unit) (k1:Nat) (s1:Unit)=>st++[some (.arr 0 4 0 [[.int .i64 a0.kind,.str a0.name,.sl false 1 16 (rows OC a0.words),.sl false 4 72 (rows Ox.cells a0.subs)]]),some (.arr 0 4 0 [[.int .i64 0,.str [],.OI,.OI]]),some (.arr 0 1 0 [[.sl false 1 16 (rows OC v1)]]),some (.arr 0 2 0 [[.str ((get a1 k0).from_),.str ((get a1 k0).to_)]])])
   (fun(gt1:Unit) (t1:Unit)=>[(1,.sl false 2 32 (rows OJ.cells a1)),(2,.ptr st.length 0 0 0),(4,.ptr (st.length+1) 0 0 0),(5,.ptr (st.length+2) 0 0 0),(14,.sl false 2 32 (rows OJ.cells a1)),(15,.int .i64 (↑a1.length:Int)),(16,.int .i64 (↑k0:Int))])
   (fun(gt1:Unit) (t1:Unit)=>st++[some (.arr 0 4 0 [[.int .i64 a0.kind,.str a0.name,.sl false 1 16 (rows OC a0.words),.sl false 4 72 (rows Ox.cells a0.subs)]]),some (.arr 0 4 0 [[.int .i64 0,.str [],.OI,.OI]]),some (.arr 0 1 0 [[.sl false 1 16 (rows OC v1)]])])
   () fx hl1 h (bm hsc)
   (fun gs1 k1 s1 b1 fx h hx1=>?_) (fun gs1 s1=>?_) (fun gt1 t1 fr1 st1 h hb=>?_)
  ·unfold Wf at h
   refine ct ?_
   refine cd h (fun hc h=>?_) fun hc h=>?_
   ·cases h
   ·refine rn ?_
    cases h
    exact Vh () (bm hsc)
  ·refine cf ?_
   refine VK ?_;simp only[go_sem,fx]
   exact⟨(),(bm hsc)⟩
  ·try simp only[go_sem,fx]
   unfold Wg at h
   refine Rj hb ?_
   refine rn ?_
   cases h
   exact Vh () (bm hsc)
 ·refine cf ?_
  refine VK ?_;simp only[go_sem,fx]
  exact⟨(),(bm hsc)⟩
 ·try simp only[go_sem,fx]
  unfold Sm at h
  refine Rj hb ?_
  refine rn ?_
  obtain⟨v2,hv2,h⟩:=Rs h
  refine(d1E n _ _ _ _ _ hv2 _ _ _ (by simp) (XV.trans rfl) (XV.trans rfl)).mono ?_
  rintro d1 st1 ⟨rfl,rfl⟩
  exact rt
theorem Zt(n:Nat)(a0:Ox)(r:Ox)(h:Sy n a0=some r):Pure Tryz.prog gl 47 [.agg [.int .i64 a0.kind,.str a0.name,.sl false 1 16 (rows OC a0.words),.sl false 4 72 (rows Ox.cells a0.subs)]] (.agg [.int .i64 r.kind,.str r.name,.sl false 1 16 (rows OC r.words),.sl false 4 72 (rows Ox.cells r.subs)]):=by
 intro st
 unfold Sy at h
 have fx:=trivial
 refine fb 5 [.cell 2 31] [0,1,2] Tryz.func47 fun hsc=>?_
 refine cl h (up (d1F n _ _) (fun _=>(.cons _ _ _ _ .s (.cons _ _ _ _ (.OI _ _ _ (by decide)) .nil)))) fun v1 h=>?_
 exact rt
theorem d0a(n:Nat)(a0:(List Oz))(a1:Ox)(r:Ox×(List Oy)×Bool)(h:VX n a0 a1=some r):Pure Tryz.prog gl 39 [.sl false 11 216 (rows Oz.cells a0),.agg [.int .i64 a1.kind,.str a1.name,.sl false 1 16 (rows OC a1.words),.sl false 4 72 (rows Ox.cells a1.subs)]] (.tup [.agg [.int .i64 r.1.kind,.str r.1.name,.sl false 1 16 (rows OC r.1.words),.sl false 4 72 (rows Ox.cells r.1.subs)],.sl false 2 16 (rows Oy.cells r.2.1),.bool r.2.2]):=by
 intro st
 unfold VX at h
 have fx:=trivial
 refine fb 42 [.cell 4 31,.tmp 5,.tmp 6] [0,1,3,4,5,6,7,8,9,10,28] Tryz.func39 fun hsc=>?_
 refine r0 ?_
 refine r0 ?_
 (repeat apply sq_)
 refine RO 2 16 ?_
 try simp only[List.append_assoc,List.cons_append,List.nil_append]
 refine Rj (F:=[(3,.ptr st.length 0 0 0),(4,.ptr (st.length+1) 0 0 0),(7,.ptr (st.length+3) 0 0 0)]) (T:=st++[some (.arr 0 4 0 [[.int .i64 a1.kind,.str a1.name,.sl false 1 16 (rows OC a1.words),.sl false 4 72 (rows Ox.cells a1.subs)]]),some (.arr 0 4 0 [[.int .i64 0,.str [],.OI,.OI]]),some (.mps false (mrw Tw [])),some (.arr 0 4 0 [[.sl false 11 216 (rows Oz.cells a0),.mp (st.length+2),.ref false (st.length+4) 0 0 0,.int .i64 0]]),some (.arr 0 2 16 (rows Oy.cells []))]) (d9q hsc (.lv (.lv (.lv (.live _ _ _ _ (.arr _ _ _ _ _ (.cons _ _ _ _ (.cons _ _ _ _ .s (.cons _ _ _ _ .s (.cons _ _ _ _ (.nref _ _ _ _ _ _ (d1o.trans rfl)) (.cons _ _ _ _ .s .nil)))) (.same _))) (.lv (.nil _)))))) (by simp) ⟨.s,.s,.s,trivial⟩ (by simp)) ?_
 refine rn ?_
 obtain⟨v1,hv1,h⟩:=Rs h
 refine(d0m n _ _ _ _ _ _ hv1 _ _ _ _ 0 (by simp) (XV.trans rfl) (XV.trans rfl) (XV.trans rfl)).mono ?_
 rintro d1 st1 ⟨rfl,rfl⟩
 refine rn ?_
 obtain⟨v2,hv2,h⟩:=Rs h
 refine(ZO n _ _ _ _ _ _ _ hv2 _ _ _ _ 0 (by simp) (XV.trans rfl) (XV.trans rfl) (XV.trans rfl)).mono ?_
 rintro d1 st1 ⟨rfl,rfl⟩
 refine rn ?_
 obtain⟨v3,hv3,h⟩:=Rs h
 refine(d0o n _ _ _ _ _ _ _ hv3 _ _ _ _ 0 (by simp) (XV.trans rfl) (XV.trans rfl) (XV.trans rfl)).mono ?_
 rintro d1 st1 ⟨rfl,rfl⟩
 refine cd h (fun hc h=>?_) fun hc h=>?_
 ·refine rr ?_
  exact fo (.tup [.agg [.int .i64 0,.str [],.sl false 1 16 (rows OC []),.sl false 4 72 (rows Ox.cells [])],.sl false 2 16 (rows Oy.cells []),.bool false]) (.tup _ _ (.cons _ _ _ _ (.agg _ _ (.cons _ _ _ _ .s (.cons _ _ _ _ .s (.cons _ _ _ _ (.OI _ _ _ (by decide)) (.cons _ _ _ _ (.OI _ _ _ (by decide)) .nil))))) (.cons _ _ _ _ (.OI _ _ _ (by decide)) (.cons _ _ _ _ .s .nil))) rfl) h hsc
 ·refine rn ?_
  obtain⟨v4,hv4,h⟩:=Rs h
  refine(Ue _ _ hv4 _ _ v3.2.2.2.length (by simp) (XV.trans rfl)).mono ?_
  rintro d1 st1 ⟨rfl,rfl⟩
  try simp only[go_sem,fx]
  have e5:D.ref false (st.length+4) v3.2.2.2.length 0 v3.2.2.2.length=D.ref false (st.length+4) v3.2.2.2.length 0 v4.length:=by rw[TU hv4]
  try simp only[e5]
  refine rs ?_
  refine dw [6,7] 0 ?_
  obtain⟨v6,hv6,h⟩:=Rs h
  refine TF (Zt n _ _ hv6) ?_
  try simp only[go_sem,fx]
  try refine⟨by first|omega|(simp<;>omega),?_⟩
  refine rr ?_
  exact fo (.tup [.agg [.int .i64 v6.kind,.str v6.name,.sl false 1 16 (rows OC v6.words),.sl false 4 72 (rows Ox.cells v6.subs)],.sl false 2 16 (rows Oy.cells v4),.bool true]) (.tup _ _ (.cons _ _ _ _ .s (.cons _ _ _ _ (.ref _ _ _ _ _ _ _ _ _ (d1o.trans rfl) d9L (by decide) (YP _) (by simp only[go_sem])) (.cons _ _ _ _ .s .nil))) rfl) h hsc
theorem Us(n:Nat)(a0:(List Oz))(a1:Ox)(r:Ox×OL)(h:SL n a0 a1=some r):Pure Tryz.prog gl 13 [.sl false 11 216 (rows Oz.cells a0),.agg [.int .i64 a1.kind,.str a1.name,.sl false 1 16 (rows OC a1.words),.sl false 4 72 (rows Ox.cells a1.subs)]] (.tup [.agg [.int .i64 r.1.kind,.str r.1.name,.sl false 1 16 (rows OC r.1.words),.sl false 4 72 (rows Ox.cells r.1.subs)],.agg [.int .i64 r.2.code,.int .i64 r.2.index]]):=by
 intro st
 unfold SL at h
 have fx:=trivial
 refine fb 31 [.cell 4 31,.cell 5 25] [0,1,3,4,5,6,7,9,15,26] Tryz.func13 fun hsc=>?_
 refine cl h (YQ n _ _) fun v1 h=>?_
 refine cd h (fun hc h=>?_) fun hc h=>?_
 ·refine rs ?_
  refine dw [1,2] 0 ?_
  try refine⟨by first|omega|(simp<;>omega),?_⟩
  refine rr ?_
  exact fo (.tup [.agg [.int .i64 0,.str [],.sl false 1 16 (rows OC []),.sl false 4 72 (rows Ox.cells [])],.agg [.int .i64 v1.code,.int .i64 v1.index]]) (.tup _ _ (.cons _ _ _ _ (.agg _ _ (.cons _ _ _ _ .s (.cons _ _ _ _ .s (.cons _ _ _ _ (.OI _ _ _ (by decide)) (.cons _ _ _ _ (.OI _ _ _ (by decide)) .nil))))) (.cons _ _ _ _ .s .nil)) rfl) h hsc
 ·refine cl h (d0a n _ _) fun v2 h=>?_
  refine cd h (fun hc h=>?_) fun hc h=>?_
  ·refine cl h (PC _ _) fun v3 h=>?_
   refine rr ?_
   exact fo (.tup [.agg [.int .i64 0,.str [],.sl false 1 16 (rows OC []),.sl false 4 72 (rows Ox.cells [])],.agg [.int .i64 v3.code,.int .i64 v3.index]]) (.tup _ _ (.cons _ _ _ _ (.agg _ _ (.cons _ _ _ _ .s (.cons _ _ _ _ .s (.cons _ _ _ _ (.OI _ _ _ (by decide)) (.cons _ _ _ _ (.OI _ _ _ (by decide)) .nil))))) (.cons _ _ _ _ .s .nil)) rfl) h hsc
  ·exact rt
theorem YR(n:Nat)(a0:(List Oz))(a1:Ox)(r:(List Oy)×OL)(h:Vr n a0 a1=some r):Pure Tryz.prog gl 14 [.sl false 11 216 (rows Oz.cells a0),.agg [.int .i64 a1.kind,.str a1.name,.sl false 1 16 (rows OC a1.words),.sl false 4 72 (rows Ox.cells a1.subs)]] (.tup [.sl false 2 16 (rows Oy.cells r.1),.agg [.int .i64 r.2.code,.int .i64 r.2.index]]):=by
 intro st
 unfold Vr at h
 have fx:=trivial
 refine fb 29 [.tmp 4,.cell 5 25] [0,1,3,4,5,6,8,9,15,25] Tryz.func14 fun hsc=>?_
 refine cl h (YQ n _ _) fun v1 h=>?_
 refine cd h (fun hc h=>?_) fun hc h=>?_
 ·refine rs ?_
  refine dw [] 0 ?_
  refine rr ?_
  exact fo (.tup [.sl false 2 16 (rows Oy.cells []),.agg [.int .i64 v1.code,.int .i64 v1.index]]) (.tup _ _ (.cons _ _ _ _ (.OI _ _ _ (by decide)) (.cons _ _ _ _ .s .nil)) rfl) h hsc
 ·refine cl h (d0a n _ _) fun v2 h=>?_
  refine cd h (fun hc h=>?_) fun hc h=>?_
  ·refine cl h (PC _ _) fun v3 h=>?_
   refine rr ?_
   exact fo (.tup [.sl false 2 16 (rows Oy.cells []),.agg [.int .i64 v3.code,.int .i64 v3.index]]) (.tup _ _ (.cons _ _ _ _ (.OI _ _ _ (by decide)) (.cons _ _ _ _ .s .nil)) rfl) h hsc
  ·exact rt
end Go.Proofs.YtfacbpehlibilaaGreatDoor
