import Derived.Test.YtfacbpehlibilaaGreatDoorTZSort
import Derived.Test.YtfacbpehlibilaaGreatDoorTZWalk6
set_option linter.unusedVariables false
set_option linter.unusedSimpArgs false
set_option maxHeartbeats 2000000
set_option maxRecDepth 100000
namespace Go.Proofs.YtfacbpehlibilaaGreatDoor
open Go Go.Am
set_option maxHeartbeats 30000000 in
set_option maxRecDepth 100000 in
theorem pN(B4:(u5)→(Bs)→((List u6))→(Int)→((List (Bs×Int)))→((List u7))→Option (w6×Bool×Int×(List u7)))(cB:∀(a1:u5) (a2:Bs) (B7:(List u6)) (D7:Int) (m1:(List (Bs×Int))) (l2:(List u7)) (r:w6×Bool×Int×(List u7)) (h:B4 a1 a2 B7 D7 m1 l2=some r),∀(st:St) (o0 o1 o2 q2:Nat) (hnd: [o0,o1,o2].Nodup) (M9:Am.look st o0=some (.arr 0 4 0 [[.sl false 11 216 (rows u6.cells B7),.mp o1,.ref false o2 (q2+l2.length) 0 l2.length,.int .i64 D7]])) (Z6:Am.look st o1=some (.mps false (mrw bX m1))) (bY:Am.look st o2=some (.arr (q2+l2.length) 2 16 (rows u7.cells l2))),Am.Spec Tryz.prog gl 65 [.ptr o0 0 0 0,.agg [.int .i64 a1.kind,.str a1.name,.sl false 1 16 (rows w7 a1.words),.sl false 4 72 (rows u5.cells a1.subs)],.str a2] st (fun d st'=>d= .tup [.agg [.int .i64 r.1.form.kind,.str r.1.form.name,.sl false 1 16 (rows w7 r.1.form.words),.sl false 4 72 (rows u5.cells r.1.form.subs),.int .i64 r.1.nodes,.int .i64 r.1.depth],.bool r.2.1]∧st'=puts st [(o0,(.arr 0 4 0 [[.sl false 11 216 (rows u6.cells B7),.mp o1,.ref false o2 (q2+r.2.2.2.length) 0 r.2.2.2.length,.int .i64 r.2.2.1]])),(o1,(.mps false (mrw bX m1))),(o2,(.arr (q2+r.2.2.2.length) 2 16 (rows u7.cells r.2.2.2)))]))(n:Nat)(a1:u6)(a2:(List w5))(a3:Bs)(B7:(List u6))(D7:Int)(m1:(List (Bs×Int)))(l2:(List u7))(r:w6×Bool×Int×(List u7))(h:Z2 B4 n a1 a2 a3 B7 D7 m1 l2=some r):∀(st:St) (o0 o1 o2 q2:Nat) (hnd: [o0,o1,o2].Nodup) (M9:Am.look st o0=some (.arr 0 4 0 [[.sl false 11 216 (rows u6.cells B7),.mp o1,.ref false o2 (q2+l2.length) 0 l2.length,.int .i64 D7]])) (Z6:Am.look st o1=some (.mps false (mrw bX m1))) (bY:Am.look st o2=some (.arr (q2+l2.length) 2 16 (rows u7.cells l2))),Am.Spec Tryz.prog gl 90 [.ptr o0 0 0 0,.agg [.int .i64 a1.from_.form.kind,.str a1.from_.form.name,.sl false 1 16 (rows w7 a1.from_.form.words),.sl false 4 72 (rows u5.cells a1.from_.form.subs),.sl false 1 16 (rows w7 a1.from_.words),.sl false 1 16 (rows w7 a1.from_.C4),.sl false 1 16 (rows w7 a1.from_.parts),.int .i64 a1.to_.kind,.str a1.to_.name,.sl false 1 16 (rows w7 a1.to_.words),.sl false 4 72 (rows u5.cells a1.to_.subs)],.sl false 6 104 (rows w5.cells a2),.str a3] st (fun d st'=>d= .tup [.agg [.int .i64 r.1.form.kind,.str r.1.form.name,.sl false 1 16 (rows w7 r.1.form.words),.sl false 4 72 (rows u5.cells r.1.form.subs),.int .i64 r.1.nodes,.int .i64 r.1.depth],.bool r.2.1]∧st'=puts st [(o0,(.arr 0 4 0 [[.sl false 11 216 (rows u6.cells B7),.mp o1,.ref false o2 (q2+r.2.2.2.length) 0 r.2.2.2.length,.int .i64 r.2.2.1]])),(o1,(.mps false (mrw bX m1))),(o2,(.arr (q2+r.2.2.2.length) 2 16 (rows u7.cells r.2.2.2)))]):=by
 intro st o0 o1 o2 q2 hnd M9 Z6 bY
 unfold Z2 at h
 have ho0:=B3 M9
 have ho1:=B3 Z6
 have ho2:=B3 bY
 have fx:=fa (fa (fa (idf ho0) (idf ho1)) (idf ho2)) (nd3 hnd)
 refine fb 74 [.cell 8 102,.tmp 9] [0,1,2,3,4,5,6,7,8,9,10,11,12,13,14,16,17,18,19,35,36,37,38,57] Tryz.func90 fun hsc=>?_
 refine bD (s':=(B8 st [(o0,(.arr 0 4 0 [[.sl false 11 216 (rows u6.cells B7),.mp o1,.ref false o2 (q2+l2.length) 0 l2.length,.int .i64 D7]])),(o1,(.mps false (mrw bX m1))),(o2,(.arr (q2+l2.length) 2 16 (rows u7.cells l2)))])) (C7 (by simp[M9,Z6,bY])) ?_
 refine rn ?_
 refine dw [6,7,10,11,15,16] 3 ?_
 try refine⟨by first|omega|(simp<;>omega),?_⟩
 refine cl h (J8 n _) fun v1 h=>?_
 refine aln 35 fun hl0=>?_
 refine rng (body:=cI a1 a2 v1 B7 m1 l2) (kk:=aO B4 n a1 a2 B7 m1 l2 a3) (n:=v1.length) (s0:=(D7,[]))
  (fun(gs0:Unit) (k0:Nat) (s0:Int×(List (Bs×Bs)))=>[(4,.ptr st.length 0 0 0),(5,.ptr (st.length+1) 0 0 0),(6,.ptr (st.length+2) 0 0 0),(7,.ptr (st.length+3) 0 0 0),(8,.ptr (st.length+4) 0 0 0),(10,.ptr (st.length+5) 0 0 0),(11,.ptr (st.length+6) 0 0 0),(12,.ptr (st.length+7) 0 0 0),(13,.ptr (st.length+8) 0 0 0),(14,.ptr (st.length+10) 0 0 0),(35,.sl false 1 16 (rows w7 v1)),(36,.int .i64 (↑v1.length:Int)),(37,.int .i64 (↑k0:Int))])
  (fun(gs0:Unit) (k0:Nat) (s0:Int×(List (Bs×Bs)))=>(B8 st [(o0,(.arr 0 4 0 [[.sl false 11 216 (rows u6.cells B7),.mp o1,.ref false o2 (q2+l2.length) 0 l2.length,.int .i64 s0.1]])),(o1,(.mps false (mrw bX m1))),(o2,(.arr (q2+l2.length) 2 16 (rows u7.cells l2)))])++[some (.arr 0 1 0 [[.ptr o0 0 0 0]]),some (.arr 0 11 0 [[.int .i64 a1.from_.form.kind,.str a1.from_.form.name,.sl false 1 16 (rows w7 a1.from_.form.words),.sl false 4 72 (rows u5.cells a1.from_.form.subs),.sl false 1 16 (rows w7 a1.from_.words),.sl false 1 16 (rows w7 a1.from_.C4),.sl false 1 16 (rows w7 a1.from_.parts),.int .i64 a1.to_.kind,.str a1.to_.name,.sl false 1 16 (rows w7 a1.to_.words),.sl false 4 72 (rows u5.cells a1.to_.subs)]]),some (.arr 0 1 0 [[.sl false 6 104 (rows w5.cells a2)]]),some (.arr 0 1 0 [[.str a3]]),some (.arr 0 6 0 [[.int .i64 0,.str [],.A9,.A9,.int .i64 0,.int .i64 0]]),some (.arr 0 1 0 [[.int .i64 (↑a1.from_.words.length:Int)]]),some (.arr 0 1 0 [[.int .i64 (↑a1.from_.C4.length:Int)]]),some (.arr 0 1 0 [[.int .i64 (↑a1.from_.parts.length:Int)]]),some (.arr 0 1 0 [[.fn 112 [] []]]),some (.mps false (mrw w7 s0.2)),some (.arr 0 1 0 [[.mp (st.length+9)]])])
  (fun(gt0:Unit) (t0:Int×(List (Bs×Bs)))=>[(4,.ptr st.length 0 0 0),(5,.ptr (st.length+1) 0 0 0),(6,.ptr (st.length+2) 0 0 0),(7,.ptr (st.length+3) 0 0 0),(8,.ptr (st.length+4) 0 0 0),(10,.ptr (st.length+5) 0 0 0),(11,.ptr (st.length+6) 0 0 0),(12,.ptr (st.length+7) 0 0 0),(13,.ptr (st.length+8) 0 0 0),(14,.ptr (st.length+10) 0 0 0)])
  (fun(gt0:Unit) (t0:Int×(List (Bs×Bs)))=>(B8 st [(o0,(.arr 0 4 0 [[.sl false 11 216 (rows u6.cells B7),.mp o1,.ref false o2 (q2+l2.length) 0 l2.length,.int .i64 t0.1]])),(o1,(.mps false (mrw bX m1))),(o2,(.arr (q2+l2.length) 2 16 (rows u7.cells l2)))])++[some (.arr 0 1 0 [[.ptr o0 0 0 0]]),some (.arr 0 11 0 [[.int .i64 a1.from_.form.kind,.str a1.from_.form.name,.sl false 1 16 (rows w7 a1.from_.form.words),.sl false 4 72 (rows u5.cells a1.from_.form.subs),.sl false 1 16 (rows w7 a1.from_.words),.sl false 1 16 (rows w7 a1.from_.C4),.sl false 1 16 (rows w7 a1.from_.parts),.int .i64 a1.to_.kind,.str a1.to_.name,.sl false 1 16 (rows w7 a1.to_.words),.sl false 4 72 (rows u5.cells a1.to_.subs)]]),some (.arr 0 1 0 [[.sl false 6 104 (rows w5.cells a2)]]),some (.arr 0 1 0 [[.str a3]]),some (.arr 0 6 0 [[.int .i64 0,.str [],.A9,.A9,.int .i64 0,.int .i64 0]]),some (.arr 0 1 0 [[.int .i64 (↑a1.from_.words.length:Int)]]),some (.arr 0 1 0 [[.int .i64 (↑a1.from_.C4.length:Int)]]),some (.arr 0 1 0 [[.int .i64 (↑a1.from_.parts.length:Int)]]),some (.arr 0 1 0 [[.fn 112 [] []]]),some (.mps false (mrw w7 t0.2)),some (.arr 0 1 0 [[.mp (st.length+9)]])])
  () fx hl0 h (bu hsc)
  (fun gs0 k0 s0 b0 fx h hx0=>?_) (fun gs0 s0=>?_) (fun gt0 t0 fr1 st1 h hb=>?_)
 ·unfold cI at h
  refine ct ?_
  refine rn ?_
  obtain⟨fx,h⟩:=ck fx h
  refine dw [] 0 ?_
  obtain⟨v13,hv13,h⟩:=P8 h
  refine cj (fz _ _ _ hv13) ?_
  obtain⟨c14,LD,h⟩:=gX h
  have fy:=(show B6 (get v1 k0) [.str v13] (mrw w7 s0.2)=mrw w7 c14 from by rw[LD];exact jq (κ:=Bs) (E:=w7) (get v1 k0) v13 s0.2)
  try simp only[go_sem,fx,fy]
  refine cd h (fun hc h=>?_) fun hc h=>?_
  ·refine rs ?_
   refine dw [0,3] 0 ?_
   obtain⟨v16,hv16,h⟩:=P8 h
   refine gO [o0,o1,o2] (fun st2 h2=>(fu _ _ _ _ _ hv16 st2 _ _ _ (q2+l2.length) hnd ((h2 _ (by simp)).trans (by simp only[go_sem,fx])) ((h2 _ (by simp)).trans (by simp only[go_sem,fx])) ((h2 _ (by simp)).trans (by simp only[go_sem,fx])))) (by simp) (by simp only[List.mem_cons,List.not_mem_nil,or_false,forall_eq_or_imp,forall_eq];exact⟨⟨by first|omega|(simp<;>omega),_,(by simp only[go_sem,fx]<;>rfl),Ob.noConfusion⟩,⟨by first|omega|(simp<;>omega),_,(by simp only[go_sem,fx]<;>rfl),Ob.noConfusion⟩,⟨by first|omega|(simp<;>omega),_,(by simp only[go_sem,fx]<;>rfl),Ob.noConfusion⟩⟩) (by simp) ?_
   obtain⟨c17,Vb,h⟩:=gX h
   have fy:=(show B6 (get v1 k0) [.str v16.1] (mrw w7 c14)=mrw w7 c17 from by rw[Vb];exact jq (κ:=Bs) (E:=w7) (get v1 k0) v16.1 c14)
   try simp only[go_sem,fx,fy]
   try refine⟨by first|omega|(simp<;>omega),?_⟩
   refine rn ?_
   cases h
   exact eE () (bu hsc)
  ·refine rn ?_
   cases h
   exact eE () (bu hsc)
 ·refine cf ?_
  refine fA ?_;simp only[go_sem,fx]
  exact⟨(),(bu hsc)⟩
 ·try simp only[go_sem,fx]
  unfold aO at h
  refine Q9 hb ?_
  refine rn ?_
  obtain⟨v19,hv19,h⟩:=P8 h
  refine(qq n _ _ hv19 _).mono ?_
  rintro d1 st1 ⟨rfl,rfl⟩
  refine rn ?_
  obtain⟨v20,hv20,h⟩:=P8 h
  refine Fo ((oB B4 cB n _ _ _ _ _ _ _ _ _ _ _ _ _ _ _ _ _ _ _ _ _ _ _ _ _ _ hv20 _ (st.length+1) (st.length+15) (st.length+14) (st.length+2) (st.length+5) (st.length+6) (st.length+7) st.length o0 o1 o2 (st.length+3) (st.length+13) (st.length+12) (st.length+10) (st.length+9) (st.length+8) (st.length+16) q2 (by simp[fx]<;>omega) (D2.trans rfl) (D2.trans rfl) (D2.trans rfl) (D2.trans rfl) (D2.trans rfl) (D2.trans rfl) (D2.trans rfl) (Ab.trans rfl) (by simp only[go_sem,fx]) (by simp only[go_sem,fx]) (by simp only[go_sem,fx]) (D2.trans rfl) (D2.trans rfl) (D2.trans rfl) (D2.trans rfl) (D2.trans rfl) (D2.trans rfl) (D2.trans rfl)).up (.cons _ _ _ _ .s (.cons _ _ _ _ (.A9 _ _ _ (by decide)) (.cons _ _ _ _ .s (.cons _ _ _ _ .s (.cons _ _ _ _ .s (.cons _ _ _ _ .s (.cons _ _ _ _ .s (.cons _ _ _ _ .s (.cons _ _ _ _ .s (.cons _ _ _ _ .s (.cons _ _ _ _ .s (.cons _ _ _ _ .s (.cons _ _ _ _ .s (.cons _ _ _ _ .s .nil)))))))))))))) (by simp<;>omega)) ?_
  refine rr ?_
  exact fuo (.tup [.agg [.int .i64 v20.1.form.kind,.str v20.1.form.name,.sl false 1 16 (rows w7 v20.1.form.words),.sl false 4 72 (rows u5.cells v20.1.form.subs),.int .i64 v20.1.nodes,.int .i64 v20.1.depth],.bool v20.2.1]) (.same _) h hsc
theorem mX:∀(n:Nat) (a1:u5) (a2:Bs) (B7:(List u6)) (D7:Int) (m1:(List (Bs×Int))) (l2:(List u7)) (r:w6×Bool×Int×(List u7)) (h:F4 n a1 a2 B7 D7 m1 l2=some r),∀(st:St) (o0 o1 o2 q2:Nat) (hnd: [o0,o1,o2].Nodup) (M9:Am.look st o0=some (.arr 0 4 0 [[.sl false 11 216 (rows u6.cells B7),.mp o1,.ref false o2 (q2+l2.length) 0 l2.length,.int .i64 D7]])) (Z6:Am.look st o1=some (.mps false (mrw bX m1))) (bY:Am.look st o2=some (.arr (q2+l2.length) 2 16 (rows u7.cells l2))),Am.Spec Tryz.prog gl 65 [.ptr o0 0 0 0,.agg [.int .i64 a1.kind,.str a1.name,.sl false 1 16 (rows w7 a1.words),.sl false 4 72 (rows u5.cells a1.subs)],.str a2] st (fun d st'=>d= .tup [.agg [.int .i64 r.1.form.kind,.str r.1.form.name,.sl false 1 16 (rows w7 r.1.form.words),.sl false 4 72 (rows u5.cells r.1.form.subs),.int .i64 r.1.nodes,.int .i64 r.1.depth],.bool r.2.1]∧st'=puts st [(o0,(.arr 0 4 0 [[.sl false 11 216 (rows u6.cells B7),.mp o1,.ref false o2 (q2+r.2.2.2.length) 0 r.2.2.2.length,.int .i64 r.2.2.1]])),(o1,(.mps false (mrw bX m1))),(o2,(.arr (q2+r.2.2.2.length) 2 16 (rows u7.cells r.2.2.2)))]):=by
 intro n
 induction n with
 |zero=>intro a1 a2 B7 D7 m1 l2 r h;cases h
 |succ n ih=>
  intro a1 a2 B7 D7 m1 l2 r h st o0 o1 o2 q2 hnd M9 Z6 bY
  unfold F4 at h
  have ho0:=B3 M9
  have ho1:=B3 Z6
  have ho2:=B3 bY
  have fx:=fa (fa (fa (idf ho0) (idf ho1)) (idf ho2)) (nd3 hnd)
  refine fb 116 [.cell 6 102,.tmp 7] [0,1,2,4,6,7,8,9,10,11,12,13,14,15,16,17,18,22,23,24,25,37,72,73,74,75,90] Tryz.func65 fun hsc=>?_
  refine bD (s':=(B8 st [(o0,(.arr 0 4 0 [[.sl false 11 216 (rows u6.cells B7),.mp o1,.ref false o2 (q2+l2.length) 0 l2.length,.int .i64 D7]])),(o1,(.mps false (mrw bX m1))),(o2,(.arr (q2+l2.length) 2 16 (rows u7.cells l2)))])) (C7 (by simp[M9,Z6,bY])) ?_
  refine aln 22 fun hl0=>?_
  refine rng (body:=P3 (F4 n) n B7 a1 l2 a2 m1 D7) (kk:=V0 (F4 n) a2 a1 B7 m1 D7 l2) (n:=B7.length) (s0:=())
   (fun(gs0:Unit) (k0:Nat) (s0:Unit)=>[(0,.ptr o0 0 0 0),(2,.str a2),(4,.ptr st.length 0 0 0),(6,.ptr (st.length+1) 0 0 0),(22,.sl false 11 216 (rows u6.cells B7)),(23,.int .i64 (↑B7.length:Int)),(24,.int .i64 (↑k0:Int))])
   (fun(gs0:Unit) (k0:Nat) (s0:Unit)=>(B8 st [(o0,(.arr 0 4 0 [[.sl false 11 216 (rows u6.cells B7),.mp o1,.ref false o2 (q2+l2.length) 0 l2.length,.int .i64 D7]])),(o1,(.mps false (mrw bX m1))),(o2,(.arr (q2+l2.length) 2 16 (rows u7.cells l2)))])++[some (.arr 0 4 0 [[.int .i64 a1.kind,.str a1.name,.sl false 1 16 (rows w7 a1.words),.sl false 4 72 (rows u5.cells a1.subs)]]),some (.arr 0 6 0 [[.int .i64 0,.str [],.A9,.A9,.int .i64 0,.int .i64 0]])])
   (fun(gt0:Unit) (t0:Unit)=>[(0,.ptr o0 0 0 0),(2,.str a2),(4,.ptr st.length 0 0 0),(6,.ptr (st.length+1) 0 0 0)])
   (fun(gt0:Unit) (t0:Unit)=>(B8 st [(o0,(.arr 0 4 0 [[.sl false 11 216 (rows u6.cells B7),.mp o1,.ref false o2 (q2+l2.length) 0 l2.length,.int .i64 D7]])),(o1,(.mps false (mrw bX m1))),(o2,(.arr (q2+l2.length) 2 16 (rows u7.cells l2)))])++[some (.arr 0 4 0 [[.int .i64 a1.kind,.str a1.name,.sl false 1 16 (rows w7 a1.words),.sl false 4 72 (rows u5.cells a1.subs)]]),some (.arr 0 6 0 [[.int .i64 0,.str [],.A9,.A9,.int .i64 0,.int .i64 0]])])
   () fx hl0 h (bu hsc)
   (fun gs0 k0 s0 b0 fx h hx0=>?_) (fun gs0 s0=>?_) (fun gt0 t0 fr1 st1 h hb=>?_)
  ·unfold P3 at h
   refine ct ?_
   refine cl h (qp n _ _) fun v1 h=>?_
   refine cd h (fun hc h=>?_) fun hc h=>?_
   ·refine rn ?_
    cases h
    exact eE () (bu hsc)
   ·refine rn ?_
    obtain⟨c3,hc3,h⟩:=gX h
    have fy:=(show rows u7.cells l2++[[.int .i64 ((assoc a2 m1).getD default),.int .i64 (↑k0:Int)]]=rows u7.cells c3 from by rw[hc3];first|exact E1 (E:=u7.cells) l2 [(u7.mk ((assoc a2 m1).getD default) (↑k0:Int))]|simp only[go_sem,rows,List.map_append,List.map_cons,List.map_nil])
    have fy:=fa fy (show l2.length+1=c3.length from by rw[hc3];simp)
    obtain⟨fx,h⟩:=ck fx h
    have fy:=fa fy (show q2+l2.length+1=q2+c3.length from by rw[hc3];simp;omega)
    refine dwy [] 2 ?_
    refine rn ?_
    obtain⟨v9,hv9,h⟩:=P8 h
    refine(pN (F4 n) ih n _ _ _ _ _ _ _ _ hv9 _ _ _ _ q2 hnd (by simp only[go_sem,fx]) (by simp only[go_sem,fx]) (by simp only[go_sem,fx])).mono ?_
    rintro d1 st1 ⟨rfl,rfl⟩
    refine ra ?_
    cases h
    refine L0 ?_;have h:=congrArg some (hx0 _ rfl)
    refine rr ?_
    exact fuo (.tup [.agg [.int .i64 v9.1.form.kind,.str v9.1.form.name,.sl false 1 16 (rows w7 v9.1.form.words),.sl false 4 72 (rows u5.cells v9.1.form.subs),.int .i64 v9.1.nodes,.int .i64 v9.1.depth],.bool v9.2.1]) (.same _) h hsc
  ·refine cf ?_
   refine fA ?_;simp only[go_sem,fx]
   exact⟨(),(bu hsc)⟩
  ·try simp only[go_sem,fx]
   unfold V0 at h
   refine Q9 hb ?_
   refine r0 ?_
   refine r0 ?_
   refine r0 ?_
   (repeat apply sq_)
   refine W6 6 88 ?_
   refine W6 4 72 ?_
   try simp only[List.append_assoc,List.cons_append,List.nil_append]
   refine Q9 (F:=[(0,.ptr o0 0 0 0),(2,.str a2),(6,.ptr (st.length+1) 0 0 0),(12,.ptr (st.length+2) 0 0 0),(13,.ref false (st.length+3) 0 0 0),(72,.sl false 4 72 (rows u5.cells a1.subs)),(73,.int .i64 (↑a1.subs.length:Int)),(74,.int .i64 0)]) (T:=(B8 st [(o0,(.arr 0 4 0 [[.sl false 11 216 (rows u6.cells B7),.mp o1,.ref false o2 (q2+l2.length) 0 l2.length,.int .i64 D7]])),(o1,(.mps false (mrw bX m1))),(o2,(.arr (q2+l2.length) 2 16 (rows u7.cells l2)))])++[some (.arr 0 4 0 [[.int .i64 a1.kind,.str a1.name,.sl false 1 16 (rows w7 a1.words),.sl false 4 72 (rows u5.cells a1.subs)]]),some (.arr 0 6 0 [[.int .i64 0,.str [],.A9,.A9,.int .i64 0,.int .i64 0]]),some (.arr 0 6 0 [[.int .i64 a1.kind,.str a1.name,.sl false 1 16 (rows w7 a1.words),.ref false (st.length+4) 0 0 0,.int .i64 0,.int .i64 0]]),some (.arr 0 6 88 (rows w6.cells [])),some (.arr 0 4 72 (rows u5.cells []))]) (eG (by simp) (R6 hsc (by simp<;>omega)) (.lv (.lv (.live _ _ _ _ (.arr _ _ _ _ _ (.cons _ _ _ _ (.cons _ _ _ _ .s (.cons _ _ _ _ .s (.cons _ _ _ _ .s (.cons _ _ _ _ (.nref _ _ _ _ _ _ (D3.trans rfl)) (.cons _ _ _ _ .s (.cons _ _ _ _ .s .nil)))))) (.same _))) (.lv (.lv (.nil _)))))) (by simp<;>omega) ⟨.s,.s,.s,.s,.nref _ _ _ _ _ _ (D3.trans rfl),.s,.s,.s,trivial⟩ (by simp<;>omega)) ?_
   refine aln 72 fun hl1=>?_
   refine rng (body:=V1 (F4 n) a2 a1 B7 m1) (kk:=V2 a1) (n:=a1.subs.length) (s0:=(D7,l2,[],[]))
    (fun(gs1:Nat×Nat) (k1:Nat) (s1:Int×(List u7)×(List w6)×(List u5))=>[(0,.ptr o0 0 0 0),(2,.str a2),(6,.ptr (st.length+1) 0 0 0),(12,.ptr (st.length+2) 0 0 0),(13,.ref false (st.length+3) gs1.1 0 s1.2.2.1.length),(72,.sl false 4 72 (rows u5.cells a1.subs)),(73,.int .i64 (↑a1.subs.length:Int)),(74,.int .i64 (↑k1:Int))])
    (fun(gs1:Nat×Nat) (k1:Nat) (s1:Int×(List u7)×(List w6)×(List u5))=>(B8 st [(o0,(.arr 0 4 0 [[.sl false 11 216 (rows u6.cells B7),.mp o1,.ref false o2 (q2+s1.2.1.length) 0 s1.2.1.length,.int .i64 s1.1]])),(o1,(.mps false (mrw bX m1))),(o2,(.arr (q2+s1.2.1.length) 2 16 (rows u7.cells s1.2.1)))])++[none,some (.arr 0 6 0 [[.int .i64 0,.str [],.A9,.A9,.int .i64 0,.int .i64 0]]),some (.arr 0 6 0 [[.int .i64 a1.kind,.str a1.name,.sl false 1 16 (rows w7 a1.words),.ref false (st.length+4) gs1.2 0 s1.2.2.2.length,.int .i64 0,.int .i64 0]]),some (.arr gs1.1 6 88 (rows w6.cells s1.2.2.1)),some (.arr gs1.2 4 72 (rows u5.cells s1.2.2.2))])
    (fun(gt1:Nat×Nat) (t1:Int×(List u7)×(List w6)×(List u5))=>[(6,.ptr (st.length+1) 0 0 0),(12,.ptr (st.length+2) 0 0 0),(13,.ref false (st.length+3) gt1.1 0 t1.2.2.1.length)])
    (fun(gt1:Nat×Nat) (t1:Int×(List u7)×(List w6)×(List u5))=>(B8 st [(o0,(.arr 0 4 0 [[.sl false 11 216 (rows u6.cells B7),.mp o1,.ref false o2 (q2+t1.2.1.length) 0 t1.2.1.length,.int .i64 t1.1]])),(o1,(.mps false (mrw bX m1))),(o2,(.arr (q2+t1.2.1.length) 2 16 (rows u7.cells t1.2.1)))])++[none,some (.arr 0 6 0 [[.int .i64 0,.str [],.A9,.A9,.int .i64 0,.int .i64 0]]),some (.arr 0 6 0 [[.int .i64 a1.kind,.str a1.name,.sl false 1 16 (rows w7 a1.words),.ref false (st.length+4) gt1.2 0 t1.2.2.2.length,.int .i64 0,.int .i64 0]]),some (.arr gt1.1 6 88 (rows w6.cells t1.2.2.1)),some (.arr gt1.2 4 72 (rows u5.cells t1.2.2.2))])
    (0,0) fx hl1 h (bu hsc)
    (fun gs1 k1 s1 b1 fx h hx1=>?_) (fun gs1 s1=>?_) (fun gt1 t1 fr1 st1 h hb=>?_)
   ·unfold V1 at h
    refine ct ?_
    refine rn ?_
    refine dw [6] 1 ?_
    obtain⟨v25,hv25,h⟩:=P8 h
    refine cj (pI _ _ hv25) ?_
    obtain⟨fx,h⟩:=ck fx h
    try simp only[go_sem,fx]
    obtain⟨v27,hv27,h⟩:=P8 h
    refine gO [o0,o1,o2] (fun st2 h2=>(ih _ _ _ _ _ _ _ hv27 st2 _ _ _ q2 hnd ((h2 _ (by simp)).trans (by simp only[go_sem,fx])) ((h2 _ (by simp)).trans (by simp only[go_sem,fx])) ((h2 _ (by simp)).trans (by simp only[go_sem,fx])))) (by simp) (by simp only[List.mem_cons,List.not_mem_nil,or_false,forall_eq_or_imp,forall_eq];exact⟨⟨by first|omega|(simp<;>omega),_,(by simp only[go_sem,fx]<;>rfl),Ob.noConfusion⟩,⟨by first|omega|(simp<;>omega),_,(by simp only[go_sem,fx]<;>rfl),Ob.noConfusion⟩,⟨by first|omega|(simp<;>omega),_,(by simp only[go_sem,fx]<;>rfl),Ob.noConfusion⟩⟩) (by simp) ?_
    try simp only[go_sem,fx]
    try refine⟨by first|omega|(simp<;>omega),?_⟩
    refine cd h (fun hc h=>?_) fun hc h=>?_
    ·refine ra ?_
     cases h
     refine L0 ?_;have h:=congrArg some (hx1 _ rfl)
     refine rr ?_
     exact fuo (.tup [.agg [.int .i64 0,.str [],.sl false 1 16 (rows w7 []),.sl false 4 72 (rows u5.cells []),.int .i64 0,.int .i64 0],.bool false]) (.tup _ _ (.cons _ _ _ _ (.agg _ _ (.cons _ _ _ _ .s (.cons _ _ _ _ .s (.cons _ _ _ _ (.A9 _ _ _ (by decide)) (.cons _ _ _ _ (.A9 _ _ _ (by decide)) (.cons _ _ _ _ .s (.cons _ _ _ _ .s .nil))))))) (.cons _ _ _ _ .s .nil)) rfl) h hsc
    ·refine r0 ?_
     obtain⟨c29,Pb,h⟩:=gX h
     have fy:=(show rows w6.cells s1.2.2.1++[[.int .i64 v27.1.form.kind,.str v27.1.form.name,.sl false 1 16 (rows w7 v27.1.form.words),.sl false 4 72 (rows u5.cells v27.1.form.subs),.int .i64 v27.1.nodes,.int .i64 v27.1.depth]]=rows w6.cells c29 from by rw[Pb];first|exact E1 (E:=w6.cells) s1.2.2.1 [v27.1]|simp only[go_sem,rows,List.map_append,List.map_cons,List.map_nil])
     have fy:=fa fy (show s1.2.2.1.length+1=c29.length from by rw[Pb];simp)
     obtain⟨fx,h⟩:=ck fx h
     refine r1 ?_
     obtain⟨c35,Pc,h⟩:=gX h
     have fy:=(show rows u5.cells s1.2.2.2++[[.int .i64 v27.1.form.kind,.str v27.1.form.name,.sl false 1 16 (rows w7 v27.1.form.words),.sl false 4 72 (rows u5.cells v27.1.form.subs)]]=rows u5.cells c35 from by rw[Pc];first|exact E1 (E:=u5.cells) s1.2.2.2 [v27.1.form]|simp only[go_sem,rows,List.map_append,List.map_cons,List.map_nil])
     have fy:=fa fy (show s1.2.2.2.length+1=c35.length from by rw[Pc];simp)
     obtain⟨fx,h⟩:=ck fx h
     refine r1 ?_
     refine rn ?_
     cases h
     exact eE ((gs1.1+1),(gs1.2+1)) (bu hsc)
   ·refine cf ?_
    refine fA ?_;simp only[go_sem,fx]
    exact⟨(gs1.1,gs1.2),(bu hsc)⟩
   ·try simp only[go_sem,fx]
    unfold V2 at h
    refine Q9 hb ?_
    refine rn ?_
    obtain⟨v40,hv40,h⟩:=P8 h
    refine((lx _ _ hv40).borrow (args:=[.ref false (st.length+3) gt1.1 0 t1.2.2.1.length]) (.cons _ _ _ _ (.ref _ _ _ _ _ _ _ _ _ (D3.trans rfl) xW (by decide) (jS _) (by simp only[go_sem])) .nil) (by simp) rfl ) ?_
    refine rr ?_
    exact fuo (.tup [.agg [.int .i64 a1.kind,.str a1.name,.sl false 1 16 (rows w7 a1.words),.sl false 4 72 (rows u5.cells t1.2.2.2),.int .i64 v40.1,.int .i64 v40.2.1],.bool v40.2.2]) (.tup _ _ (.cons _ _ _ _ (.agg _ _ (.cons _ _ _ _ .s (.cons _ _ _ _ .s (.cons _ _ _ _ .s (.cons _ _ _ _ (.ref _ _ _ _ _ _ _ _ _ (D3.trans rfl) W7 (by decide) (jS _) (by simp only[go_sem])) (.cons _ _ _ _ .s (.cons _ _ _ _ .s .nil))))))) (.cons _ _ _ _ .s .nil)) rfl) h hsc
theorem cL{l r:(List u7)}(h:D0 l=some r):r.length=l.length:=by
 unfold D0 at h
 obtain⟨_,h⟩:=Jp h
 obtain rfl:=Option.some.inj h
 exact(cC _ _).length_eq
theorem cT(l0:(List u7))(r:(List u7))(h:D0 l0=some r):∀(st:St) (o0 q0:Nat) (hnd: [o0].Nodup) (M9:Am.look st o0=some (.arr q0 2 16 (rows u7.cells l0))),Am.Spec Tryz.prog gl 66 [.ref false o0 q0 0 l0.length,.fn 67 [] []] st (fun d st'=>d= .tup []∧st'=puts st [(o0,(.arr q0 2 16 (rows u7.cells r)))]):=by
 intro st o0 q0 hnd M9
 unfold D0 at h
 obtain⟨hl,h⟩:=Jp h
 obtain rfl:=Option.some.inj h
 exact DK rfl (by kernel_rfl) (fun x y=>tF x y _ rfl) M9 hl
theorem qt(n:Nat)(B7:Int)(V4:(List Bs))(r:Bs×Int)(h:eN n B7 V4=some r):∀(st:St) (o0 o1:Nat) (hnd: [o0,o1].Nodup) (M9:Am.look st o0=some (.arr 0 1 0 [[.int .i64 B7]])) (Z6:Am.look st o1=some (.arr 0 1 0 [[.sl false 1 16 (rows w7 V4)]])),Am.Spec Tryz.prog gl 103 [.ptr o0 0 0 0,.ptr o1 0 0 0] st (fun d st'=>d= .str r.1∧st'=puts st [(o0,(.arr 0 1 0 [[.int .i64 r.2]])),(o1,(.arr 0 1 0 [[.sl false 1 16 (rows w7 V4)]]))]):=by
 intro st o0 o1 hnd M9 Z6
 unfold eN at h
 have ho0:=B3 M9
 have ho1:=B3 Z6
 have fx:=fa (fa (idf ho0) (idf ho1)) (nd2 hnd)
 refine fb 14 [.tmp 2] [0,1,2,3,12] Tryz.func103 fun hsc=>?_
 refine bD (s':=(B8 st [(o0,(.arr 0 1 0 [[.int .i64 B7]])),(o1,(.arr 0 1 0 [[.sl false 1 16 (rows w7 V4)]]))])) (C7 (by simp[M9,Z6])) ?_
 refine rn ?_
 refine eD (body:=bF V4) (kk:=gN) (n:=n) (s0:=B7)
  (fun(gs0:Unit) (s0:Int)=>[(0,.ptr o0 0 0 0),(1,.ptr o1 0 0 0)])
  (fun(gs0:Unit) (s0:Int)=>(B8 st [(o0,(.arr 0 1 0 [[.int .i64 s0]])),(o1,(.arr 0 1 0 [[.sl false 1 16 (rows w7 V4)]]))]))
  (fun(gt0:Unit) (t0:Unit)=>[])
  (fun(gt0:Unit) (t0:Unit)=>(B8 st [(o0,(.arr 0 1 0 [[.int .i64 B7]])),(o1,(.arr 0 1 0 [[.sl false 1 16 (rows w7 V4)]]))]))
  () h (Fh hsc)
  (fun gs0 s0 b0 h hx0=>?_) (fun gt0 t0 fr1 st1 h hb=>?_)
 ·unfold bF at h
  refine cl h (pI _) fun v4 h=>?_
  obtain⟨fx,h⟩:=ck fx h
  refine cl h (A8 _ _) fun v6 h=>?_
  refine cd h (fun hc h=>?_) fun hc h=>?_
  ·refine ra ?_
   cases h
   refine oS ?_;have h:=congrArg some (hx0 _ rfl)
   refine rr ?_
   exact fus (.str (lP [118] v4)) (.same _) h hsc
  ·refine rn ?_
   cases h
   exact jT () (Fh hsc)
 ·try simp only[go_sem,fx]
  unfold gN at h
  cases h
end Go.Proofs.YtfacbpehlibilaaGreatDoor
