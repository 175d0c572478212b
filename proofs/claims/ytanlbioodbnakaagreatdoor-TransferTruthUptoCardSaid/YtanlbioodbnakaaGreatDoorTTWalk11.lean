import Derived.Test.YtanlbioodbnakaaGreatDoorTTWalk10
set_option linter.unusedVariables false
set_option linter.unusedSimpArgs false
set_option maxHeartbeats 2000000
set_option maxRecDepth 100000
namespace Go.Proofs.YtanlbioodbnakaaGreatDoor
open Go Go.Am
theorem U9(n:Nat)(a0:(List (List Int)))(a1:(List Int))(r:Int×Bool)(h:D0 n a0 a1=some r):Pure Tryz.prog gl 37 [.sl false 1 24 (rows (slc 1 8 K7) a0),.sl false 1 8 (rows K7 a1),.fn 17 [] []] (.tup [.int .i64 r.1,.bool r.2]):=by
 intro st
 unfold D0 at h
 have fx:=trivial
 refine fb 49 [.tmp 6,.tmp 7] [0,1,2,6,7,8,9,10,11,17,31,40,41,42,43,44,45,46,47] Tryz.func37 fun hsc=>?_
 refine rn ?_
 refine Z7 (body:=L8 a0 a1) (kk:=L9 a0 a1) (n:=n) (s0:=((↑a0.length:Int),0))
  (fun(gs0:Unit) (s0:Int×Int)=>[(0,.sl false 1 24 (rows (slc 1 8 K7) a0)),(1,.sl false 1 8 (rows K7 a1)),(2,.fn 17 [] []),(8,.int .i64 (↑a0.length:Int)),(9,.int .i64 s0.2),(10,.int .i64 s0.1)])
  (fun(gs0:Unit) (s0:Int×Int)=>st)
  (fun(gt0:Unit) (t0:Int)=>[(0,.sl false 1 24 (rows (slc 1 8 K7) a0)),(1,.sl false 1 8 (rows K7 a1)),(2,.fn 17 [] []),(8,.int .i64 (↑a0.length:Int)),(9,.int .i64 t0)])
  (fun(gt0:Unit) (t0:Int)=>st)
  () h (ke hsc)
  (fun gs0 s0 b0 h hx0=>?_) (fun gt0 t0 fr1 st1 h hb=>?_)
 ·unfold L8 at h
  refine cd h (fun hc h=>?_) fun hc h=>?_
  ·obtain⟨fx,h⟩:=ck fx h
   refine cl h (bE _ _) fun v6 h=>?_
   refine cd h (fun hc h=>?_) fun hc h=>?_
   ·refine rn ?_
    cases h
    exact bS () (ke hsc)
   ·refine rn ?_
    cases h
    exact bS () (ke hsc)
  ·refine rn ?_
   cases h
   exact fP () (ke hsc)
 ·try simp only[go_sem,fx]
  unfold L9 at h
  refine L6 hb ?_
  obtain⟨fx,h⟩:=ck fx h
  refine rn ?_
  obtain⟨v10,hv10,h⟩:=J5 h
  refine bR (fun hG=>(bE _ _ _ (qh hv10 (by simpa using hG)))) ?_
  exact rt
theorem iq(n:Nat)(a0:Bs)(l1:(List B9))(nS:Int)(nT:(List A0))(nU:(List w7))(r:Int)(h:W9 n a0 l1 nS nT nU=some r):∀(st:St) (o0 o1 o2 q1:Nat) (hnd: [o0,o1,o2].Nodup) (G2:Am.look st o0=some (.arr 0 1 0 [[.ref false o1 q1 0 l1.length]])) (P9:Am.look st o1=some (.arr q1 2 24 (rows B9.cells l1))) (aY:Am.look st o2=some (.arr 0 3 0 [[.int .i64 nS,.sl false 2 24 (rows A0.cells nT),.sl false 3 48 (rows w7.cells nU)]])),Am.Spec Tryz.prog gl 36 [.str a0,.ptr o0 0 0 0,.ptr o2 0 0 0] st (fun d st'=>d= .int .i64 r∧st'=puts st []):=by
 intro st o0 o1 o2 q1 hnd G2 P9 aY
 unfold W9 at h
 have ho0:=B5 G2
 have ho1:=B5 P9
 have ho2:=B5 aY
 have fx:=fa (fa (fa (idf ho0) (idf ho1)) (idf ho2)) (nd3 hnd)
 refine fb 34 [.tmp 4] [0,1,2,4,5,6,12,21] Tryz.func36 fun hsc=>?_
 refine T6 (s':=(C0 st [(o0,(.arr 0 1 0 [[.ref false o1 q1 0 l1.length]])),(o1,(.arr q1 2 24 (rows B9.cells l1))),(o2,(.arr 0 3 0 [[.int .i64 nS,.sl false 2 24 (rows A0.cells nT),.sl false 3 48 (rows w7.cells nU)]]))])) (B6 (by simp[G2,P9,aY])) ?_
 refine rn ?_
 refine Z7 (body:=dH l1 a0) (kk:=dI n nS nT nU a0) (n:=n) (s0:=(wr .i64 ((↑l1.length:Int)-1)))
  (fun(gs0:Unit) (s0:Int)=>[(0,.str a0),(1,.ptr o0 0 0 0),(2,.ptr o2 0 0 0),(5,.int .i64 s0)])
  (fun(gs0:Unit) (s0:Int)=>(C0 st [(o0,(.arr 0 1 0 [[.ref false o1 q1 0 l1.length]])),(o1,(.arr q1 2 24 (rows B9.cells l1))),(o2,(.arr 0 3 0 [[.int .i64 nS,.sl false 2 24 (rows A0.cells nT),.sl false 3 48 (rows w7.cells nU)]]))]))
  (fun(gt0:Unit) (t0:Unit)=>[(0,.str a0),(2,.ptr o2 0 0 0)])
  (fun(gt0:Unit) (t0:Unit)=>(C0 st [(o0,(.arr 0 1 0 [[.ref false o1 q1 0 l1.length]])),(o1,(.arr q1 2 24 (rows B9.cells l1))),(o2,(.arr 0 3 0 [[.int .i64 nS,.sl false 2 24 (rows A0.cells nT),.sl false 3 48 (rows w7.cells nU)]]))]))
  () h (wR hsc)
  (fun gs0 s0 b0 h hx0=>?_) (fun gt0 t0 fr1 st1 h hb=>?_)
 ·unfold dH at h
  refine cd h (fun hc h=>?_) fun hc h=>?_
  ·refine r0 ?_
   refine r0 ?_
   obtain⟨fx,h⟩:=ck fx h
   have fy:=(show(rows B9.cells l1).getD s0.toNat []=B9.cells (get l1 s0.toNat)from Qp (E:=B9.cells) (l:=l1) (k:=s0.toNat) (by first|omega|(simp;omega)))
   have fy:=fa fy (show s0.toNat<l1.length from by first|omega|(simp;omega))
   refine r1 ?_
   refine cd h (fun hc h=>?_) fun hc h=>?_
   ·have fy:=(show(rows B9.cells l1).getD s0.toNat []=B9.cells (get l1 s0.toNat)from Qp (E:=B9.cells) (l:=l1) (k:=s0.toNat) (by first|omega|(simp;omega)))
    have fy:=fa fy (show s0.toNat<l1.length from by first|omega|(simp;omega))
    refine r1 ?_
    refine ra ?_
    cases h
    refine lF ?_;have h:=congrArg some (hx0 _ rfl)
    refine rr ?_
    exact fus (.int .i64 ((get l1 s0.toNat).value)) (.same _) h hsc (hr:=by rintro rfl;exact⟨rfl,B6 (by simp[G2,P9,aY])⟩)
   ·refine rn ?_
    cases h
    exact bS () (wR hsc)
  ·refine rn ?_
   cases h
   exact fP () (wR hsc)
 ·try simp only[go_sem,fx]
  unfold dI at h
  refine L6 hb ?_
  refine cl h (ij n _ _) fun v13 h=>?_
  refine rr ?_
  exact fus (.int .i64 v13.1) (.same _) h hsc (hr:=by rintro rfl;exact⟨rfl,B6 (by simp[G2,P9,aY])⟩)
theorem tF:∀(n:Nat) (a0:B4) (a1:u5) (l0:(List B9)) (r:Bool) (h:I3 n a0 a1 l0=some r),∀(st:St) (o0 q0:Nat) (hnd: [o0].Nodup) (G2:Am.look st o0=some (.arr q0 2 24 (rows B9.cells l0))),Am.Spec Tryz.prog gl 22 [.agg [.int .i64 a0.size,.sl false 2 24 (rows A0.cells a0.constants),.sl false 3 48 (rows w7.cells a0.relations)],.agg [.int .i64 a1.kind,.str a1.name,.sl false 1 16 (rows w8 a1.words),.sl false 4 72 (rows u5.cells a1.subs)],.ref false o0 q0 0 l0.length] st (fun d st'=>d= .bool r∧st'=puts st []):=by
 intro n
 induction n with
 |zero=>intro a0 a1 l0 r h;cases h
 |succ n ih=>
  intro a0 a1 l0 r h st o0 q0 hnd G2
  unfold I3 at h
  have ho0:=B5 G2
  have fx:=idf ho0
  refine fb 168 [.tmp 6] [0,1,2,3,4,5,6,7,8,10,11,14,15,18,19,21,24,25,26,27,54,69,79,89,90,91,92,93,94,95,97,107,108,109,110,111,112,113,115,126,127,128,129,130,131,132,135,136,137,160] Tryz.func22 fun hsc=>?_
  refine T6 (s':=(C0 st [(o0,(.arr q0 2 24 (rows B9.cells l0)))])) (B6 (by simp[G2])) ?_
  refine cd h (fun hc h=>?_) fun hc h=>?_
  ·refine rr ?_
   exact fuo (.bool true) (.same _) h hsc (hr:=by rintro rfl;exact⟨rfl,B6 (by simp[G2])⟩)
  ·refine cd h (fun hc h=>?_) fun hc h=>?_
   ·refine r0 ?_
    refine r0 ?_
    (repeat apply sq_)
    refine S4 1 8 ?_
    try simp only[List.append_assoc,List.cons_append,List.nil_append]
    refine L6 (F:=[(3,.ptr st.length 0 0 0),(4,.ptr (st.length+1) 0 0 0),(7,.fn 36 [] [.ptr (st.length+2) 0 0 0,.ptr st.length 0 0 0]),(8,.ref false (st.length+3) 0 0 0),(24,.sl false 1 16 (rows w8 a1.words)),(25,.int .i64 (↑a1.words.length:Int)),(26,.int .i64 0)]) (T:=(C0 st [(o0,(.arr q0 2 24 (rows B9.cells l0)))])++[some (.arr 0 3 0 [[.int .i64 a0.size,.sl false 2 24 (rows A0.cells a0.constants),.sl false 3 48 (rows w7.cells a0.relations)]]),some (.arr 0 4 0 [[.int .i64 a1.kind,.str a1.name,.sl false 1 16 (rows w8 a1.words),.sl false 4 72 (rows u5.cells a1.subs)]]),some (.arr 0 1 0 [[.ref false o0 q0 0 l0.length]]),some (.arr 0 1 8 (rows K7 []))]) (ey (by simp) (P1 hsc (by simp<;>omega)) (.lv (.lv (.lv (.lv (.nil _))))) (by simp<;>omega) ⟨.s,.s,.s,.nref _ _ _ _ _ _ (D1.trans rfl),.s,.s,.s,trivial⟩ (by simp<;>omega)) ?_
    refine aln 24 fun hl0=>?_
    refine rng (body:=fh n a1 l0 a0) (kk:=fj n a0 a1) (n:=a1.words.length) (s0:=[])
     (fun(gs0:Nat) (k0:Nat) (s0:(List Int))=>[(3,.ptr st.length 0 0 0),(4,.ptr (st.length+1) 0 0 0),(7,.fn 36 [] [.ptr (st.length+2) 0 0 0,.ptr st.length 0 0 0]),(8,.ref false (st.length+3) gs0 0 s0.length),(24,.sl false 1 16 (rows w8 a1.words)),(25,.int .i64 (↑a1.words.length:Int)),(26,.int .i64 (↑k0:Int))])
     (fun(gs0:Nat) (k0:Nat) (s0:(List Int))=>(C0 st [(o0,(.arr q0 2 24 (rows B9.cells l0)))])++[some (.arr 0 3 0 [[.int .i64 a0.size,.sl false 2 24 (rows A0.cells a0.constants),.sl false 3 48 (rows w7.cells a0.relations)]]),some (.arr 0 4 0 [[.int .i64 a1.kind,.str a1.name,.sl false 1 16 (rows w8 a1.words),.sl false 4 72 (rows u5.cells a1.subs)]]),some (.arr 0 1 0 [[.ref false o0 q0 0 l0.length]]),some (.arr gs0 1 8 (rows K7 s0))])
     (fun(gt0:Nat) (t0:(List Int))=>[(3,.ptr st.length 0 0 0),(4,.ptr (st.length+1) 0 0 0),(8,.ref false (st.length+3) gt0 0 t0.length)])
     (fun(gt0:Nat) (t0:(List Int))=>(C0 st [(o0,(.arr q0 2 24 (rows B9.cells l0)))])++[some (.arr 0 3 0 [[.int .i64 a0.size,.sl false 2 24 (rows A0.cells a0.constants),.sl false 3 48 (rows w7.cells a0.relations)]]),some (.arr 0 4 0 [[.int .i64 a1.kind,.str a1.name,.sl false 1 16 (rows w8 a1.words),.sl false 4 72 (rows u5.cells a1.subs)]]),none,some (.arr gt0 1 8 (rows K7 t0))])
     0 fx hl0 h (bu hsc)
     (fun gs0 k0 s0 b0 fx h hx0=>?_) (fun gs0 s0=>?_) (fun gt0 t0 fr1 st1 h hb=>?_)
    ·unfold fh at h
     refine ct ?_
     refine r0 ?_
     refine r0 ?_
     refine r0 ?_
     refine rn ?_
     obtain⟨v8,hv8,h⟩:=J5 h
     refine(iq n _ _ _ _ _ _ hv8 _ (st.length+2) o0 st.length q0 (by simp[fx]<;>omega) (C6.trans rfl) (by simp only[go_sem,fx]) (fQ.trans rfl)).mono ?_
     rintro d1 st1 ⟨rfl,rfl⟩
     obtain⟨c10,yN,h⟩:=gq h
     have fy:=(show rows K7 s0++[[.int .i64 v8]]=rows K7 c10 from by rw[yN];first|exact D5 (E:=K7) s0 [v8]|simp only[go_sem,rows,List.map_append,List.map_cons,List.map_nil])
     have fy:=fa fy (show s0.length+1=c10.length from by rw[yN];simp)
     obtain⟨fx,h⟩:=ck fx h
     try simp only[go_sem,fx,fy]
     refine rn ?_
     cases h
     exact cj (gs0+1) (bu hsc)
    ·refine cf ?_
     refine cM ?_;simp only[go_sem,fx]
     exact⟨gs0,(bu hsc)⟩
    ·try simp only[go_sem,fx]
     unfold fj at h
     refine L6 hb ?_
     refine cl h (lW n _ _ _) fun v15 h=>?_
     refine rn ?_
     obtain⟨v16,hv16,h⟩:=J5 h
     refine((U9 n _ _ _ hv16).borrow (args:=[.sl false 1 24 (rows (slc 1 8 K7) v15.1.tuples),.ref false (st.length+3) gt0 0 t0.length,.fn 17 [] []]) (.cons _ _ _ _ .s (.cons _ _ _ _ (.ref _ _ _ _ _ _ _ _ _ (D1.trans rfl) lG (by decide) (jS _) (by simp only[go_sem])) (.cons _ _ _ _ .s .nil))) (by simp) rfl ) ?_
     refine rr ?_
     exact fuo (.bool v16.2) (.same _) h hsc (hr:=by rintro rfl;exact⟨rfl,B6 (by simp[G2])⟩)
   ·refine cd h (fun hc h=>?_) fun hc h=>?_
    ·refine rs ?_
     obtain⟨fx,h⟩:=ck fx h
     refine dw [5,8,9,10,11] 0 ?_
     obtain⟨v18,hv18,h⟩:=J5 h
     refine bG [(st.length+2),o0,st.length] (fun st2 h2=>(iq n _ _ _ _ _ _ hv18 st2 (st.length+2) o0 st.length q0 (by simp[fx]<;>omega) ((h2 _ (by simp)).trans (C6.trans rfl)) ((h2 _ (by simp)).trans (by simp only[go_sem,fx])) ((h2 _ (by simp)).trans (fQ.trans rfl)))) (by simp) (by simp only[List.mem_cons,List.not_mem_nil,or_false,forall_eq_or_imp,forall_eq];exact⟨⟨by first|omega|(simp<;>omega),_,(C6.trans rfl),Ob.noConfusion⟩,⟨by first|omega|(simp<;>omega),_,(by simp only[go_sem,fx]<;>rfl),Ob.noConfusion⟩,⟨by first|omega|(simp<;>omega),_,(fQ.trans rfl),Ob.noConfusion⟩⟩) (by simp) ?_
     obtain⟨fx,h⟩:=ck fx h
     try simp only[go_sem,fx]
     obtain⟨v20,hv20,h⟩:=J5 h
     refine bG [(st.length+2),o0,st.length] (fun st2 h2=>(iq n _ _ _ _ _ _ hv20 st2 (st.length+2) o0 st.length q0 (by simp[fx]<;>omega) ((h2 _ (by simp)).trans (C6.trans rfl)) ((h2 _ (by simp)).trans (by simp only[go_sem,fx])) ((h2 _ (by simp)).trans (fQ.trans rfl)))) (by simp) (by simp only[List.mem_cons,List.not_mem_nil,or_false,forall_eq_or_imp,forall_eq];exact⟨⟨by first|omega|(simp<;>omega),_,(C6.trans rfl),Ob.noConfusion⟩,⟨by first|omega|(simp<;>omega),_,(by simp only[go_sem,fx]<;>rfl),Ob.noConfusion⟩,⟨by first|omega|(simp<;>omega),_,(fQ.trans rfl),Ob.noConfusion⟩⟩) (by simp) ?_
     try simp only[go_sem,fx]
     try refine⟨by first|omega|(simp<;>omega),?_⟩
     refine rr ?_
     exact fuo (.bool (decide (v18=v20))) (.same _) h hsc (hr:=by rintro rfl;exact⟨rfl,B6 (by simp[G2])⟩)
    ·refine cd h (fun hc h=>?_) fun hc h=>?_
     ·refine rs ?_
      obtain⟨fx,h⟩:=ck fx h
      refine dw [6] 0 ?_
      obtain⟨v22,hv22,h⟩:=J5 h
      refine bG [o0] (fun st2 h2=>(ih _ _ _ _ hv22 st2 _ q0 hnd ((h2 _ (by simp)).trans (by simp only[go_sem,fx])))) (by simp) (by simp only[List.mem_cons,List.not_mem_nil,or_false,forall_eq_or_imp,forall_eq];exact⟨by first|omega|(simp<;>omega),_,(by simp only[go_sem,fx]<;>rfl),Ob.noConfusion⟩) (by simp) ?_
      try simp only[go_sem,fx]
      try refine⟨by first|omega|(simp<;>omega),?_⟩
      refine rr ?_
      exact fuo (.bool (!v22)) (.same _) h hsc (hr:=by rintro rfl;exact⟨rfl,B6 (by simp[G2])⟩)
     ·refine cd h (fun hc h=>?_) fun hc h=>?_
      ·refine rs ?_
       obtain⟨fx,h⟩:=ck fx h
       refine dw [6,14] 0 ?_
       obtain⟨v24,hv24,h⟩:=J5 h
       refine bG [o0] (fun st2 h2=>(ih _ _ _ _ hv24 st2 _ q0 hnd ((h2 _ (by simp)).trans (by simp only[go_sem,fx])))) (by simp) (by simp only[List.mem_cons,List.not_mem_nil,or_false,forall_eq_or_imp,forall_eq];exact⟨by first|omega|(simp<;>omega),_,(by simp only[go_sem,fx]<;>rfl),Ob.noConfusion⟩) (by simp) ?_
       obtain⟨fx,h⟩:=ck fx h
       try simp only[go_sem,fx]
       obtain⟨v27,hv27,h⟩:=J5 h
       refine zG [o0] (fun hG st2 h2=>(ih _ _ _ _ (qh hv27 (by simpa using hG)) st2 _ q0 hnd ((h2 _ (by simp)).trans (by simp only[go_sem,fx])))) (by simp) (by simp only[List.mem_cons,List.not_mem_nil,or_false,forall_eq_or_imp,forall_eq];exact⟨by first|omega|(simp<;>omega),_,(by simp only[go_sem,fx]<;>rfl),Ob.noConfusion⟩) (by simp) (fun hF=>by obtain rfl:=Pu hv27 (by simpa using hF);simp only[go_sem,fx]) ?_
       try simp only[go_sem,fx]
       try refine⟨by first|omega|(simp<;>omega),?_⟩
       refine rr ?_
       exact fuo (.bool (bif v24 then v27 else false)) (.same _) h hsc (hr:=by rintro rfl;exact⟨rfl,B6 (by simp[G2])⟩)
      ·refine cd h (fun hc h=>?_) fun hc h=>?_
       ·refine rs ?_
        obtain⟨fx,h⟩:=ck fx h
        refine dw [6,14] 0 ?_
        obtain⟨v29,hv29,h⟩:=J5 h
        refine bG [o0] (fun st2 h2=>(ih _ _ _ _ hv29 st2 _ q0 hnd ((h2 _ (by simp)).trans (by simp only[go_sem,fx])))) (by simp) (by simp only[List.mem_cons,List.not_mem_nil,or_false,forall_eq_or_imp,forall_eq];exact⟨by first|omega|(simp<;>omega),_,(by simp only[go_sem,fx]<;>rfl),Ob.noConfusion⟩) (by simp) ?_
        obtain⟨fx,h⟩:=ck fx h
        try simp only[go_sem,fx]
        obtain⟨v32,hv32,h⟩:=J5 h
        refine zG [o0] (fun hG st2 h2=>(ih _ _ _ _ (qh hv32 (by simpa using hG)) st2 _ q0 hnd ((h2 _ (by simp)).trans (by simp only[go_sem,fx])))) (by simp) (by simp only[List.mem_cons,List.not_mem_nil,or_false,forall_eq_or_imp,forall_eq];exact⟨by first|omega|(simp<;>omega),_,(by simp only[go_sem,fx]<;>rfl),Ob.noConfusion⟩) (by simp) (fun hF=>by obtain rfl:=Pu hv32 (by simpa using hF);simp only[go_sem,fx]) ?_
        try simp only[go_sem,fx]
        try refine⟨by first|omega|(simp<;>omega),?_⟩
        refine rr ?_
        exact fuo (.bool (bif v29 then true else v32)) (.same _) h hsc (hr:=by rintro rfl;exact⟨rfl,B6 (by simp[G2])⟩)
       ·refine cd h (fun hc h=>?_) fun hc h=>?_
        ·refine rs ?_
         obtain⟨fx,h⟩:=ck fx h
         refine dw [6,15] 0 ?_
         obtain⟨v34,hv34,h⟩:=J5 h
         refine bG [o0] (fun st2 h2=>(ih _ _ _ _ hv34 st2 _ q0 hnd ((h2 _ (by simp)).trans (by simp only[go_sem,fx])))) (by simp) (by simp only[List.mem_cons,List.not_mem_nil,or_false,forall_eq_or_imp,forall_eq];exact⟨by first|omega|(simp<;>omega),_,(by simp only[go_sem,fx]<;>rfl),Ob.noConfusion⟩) (by simp) ?_
         obtain⟨fx,h⟩:=ck fx h
         try simp only[go_sem,fx]
         obtain⟨v37,hv37,h⟩:=J5 h
         refine zG [o0] (fun hG st2 h2=>(ih _ _ _ _ (qh hv37 (by simpa using hG)) st2 _ q0 hnd ((h2 _ (by simp)).trans (by simp only[go_sem,fx])))) (by simp) (by simp only[List.mem_cons,List.not_mem_nil,or_false,forall_eq_or_imp,forall_eq];exact⟨by first|omega|(simp<;>omega),_,(by simp only[go_sem,fx]<;>rfl),Ob.noConfusion⟩) (by simp) (fun hF=>by obtain rfl:=Pu hv37 (by simpa using hF);simp only[go_sem,fx]) ?_
         try simp only[go_sem,fx]
         try refine⟨by first|omega|(simp<;>omega),?_⟩
         refine rr ?_
         exact fuo (.bool (bif (!v34)then true else v37)) (.same _) h hsc (hr:=by rintro rfl;exact⟨rfl,B6 (by simp[G2])⟩)
        ·refine rn ?_
         refine Z7 (body:=bW (I3 n) a0 a1 l0) (kk:=iW a1) (n:=n) (s0:=0)
          (fun(gs1:Unit) (s1:Int)=>[(3,.ptr st.length 0 0 0),(4,.ptr (st.length+1) 0 0 0),(5,.ptr (st.length+2) 0 0 0),(135,.int .i64 a0.size),(136,.int .i64 s1)])
          (fun(gs1:Unit) (s1:Int)=>(C0 st [(o0,(.arr q0 2 24 (rows B9.cells l0)))])++[some (.arr 0 3 0 [[.int .i64 a0.size,.sl false 2 24 (rows A0.cells a0.constants),.sl false 3 48 (rows w7.cells a0.relations)]]),some (.arr 0 4 0 [[.int .i64 a1.kind,.str a1.name,.sl false 1 16 (rows w8 a1.words),.sl false 4 72 (rows u5.cells a1.subs)]]),some (.arr 0 1 0 [[.ref false o0 q0 0 l0.length]])])
          (fun(gt1:Unit) (t1:Unit)=>[(4,.ptr (st.length+1) 0 0 0)])
          (fun(gt1:Unit) (t1:Unit)=>(C0 st [(o0,(.arr q0 2 24 (rows B9.cells l0)))])++[none,some (.arr 0 4 0 [[.int .i64 a1.kind,.str a1.name,.sl false 1 16 (rows w8 a1.words),.sl false 4 72 (rows u5.cells a1.subs)]])])
          () h (bu hsc)
          (fun gs1 s1 b1 h hx1=>?_) (fun gt1 t1 fr1 st1 h hb=>?_)
         ·unfold bW at h
          refine cd h (fun hc h=>?_) fun hc h=>?_
          ·refine rn ?_
           obtain⟨fx,h⟩:=ck fx h
           obtain⟨fx,h⟩:=ck fx h
           obtain⟨c52,JJ,h⟩:=gq h
           have fy:=(show rows B9.cells l0++[[.str a1.name,.int .i64 s1]]=rows B9.cells c52 from by rw[JJ];first|exact D5 (E:=B9.cells) l0 [(B9.mk a1.name s1)]|simp only[go_sem,rows,List.map_append,List.map_cons,List.map_nil])
           have fy:=fa fy (show l0.length+1=c52.length from by rw[JJ];simp)
           obtain⟨fx,h⟩:=ck fx h
           refine dwy [0,2,3,4,16,17,19] 2 ?_
           obtain⟨v57,hv57,h⟩:=J5 h
           refine Jl [(st.length+4)] (fun st2 h2=>(ih _ _ _ _ hv57 st2 _ 0 (by simp) ((h2 _ (by simp)).trans (C6.trans rfl)))) (by simp) (by simp only[List.mem_cons,List.not_mem_nil,or_false,forall_eq_or_imp,forall_eq];exact⟨.inr (by simp[D.top]),_,(C6.trans rfl),Ob.noConfusion⟩) (by simp) ?_
           try simp only[go_sem,fx,fy]
           try refine⟨by first|omega|(simp<;>omega),?_⟩
           refine cd h (fun hc h=>?_) fun hc h=>?_
           ·refine ra ?_
            cases h
            refine lF ?_;have h:=congrArg some (hx1 _ rfl)
            refine rr ?_
            exact fuo (.bool (decide (a1.kind=9))) (.same _) h hsc (hr:=by rintro rfl;exact⟨rfl,B6 (by simp[G2])⟩)
           ·refine rn ?_
            cases h
            exact bS () (bu hsc)
          ·refine rn ?_
           cases h
           exact fP () (bu hsc)
         ·try simp only[go_sem,fx]
          unfold iW at h
          refine L6 hb ?_
          refine rr ?_
          exact fuo (.bool (decide (a1.kind=8))) (.same _) h hsc (hr:=by rintro rfl;exact⟨rfl,B6 (by simp[G2])⟩)
theorem wP:∀(n:Nat) (a0:B4) (a1:u5) (a2:(List B9)) (r:Bool) (h:S9 n a0 a1 a2=some r),Pure Tryz.prog gl 22 [.agg [.int .i64 a0.size,.sl false 2 24 (rows A0.cells a0.constants),.sl false 3 48 (rows w7.cells a0.relations)],.agg [.int .i64 a1.kind,.str a1.name,.sl false 1 16 (rows w8 a1.words),.sl false 4 72 (rows u5.cells a1.subs)],.sl false 2 24 (rows B9.cells a2)] (.bool r):=by
 intro n
 induction n with
 |zero=>intro a0 a1 a2 r h;cases h
 |succ n ih=>
  intro a0 a1 a2 r h st
  unfold S9 at h
  have fx:=trivial
  refine fb 168 [.tmp 6] [0,1,2,3,4,5,6,7,8,10,11,14,15,18,19,21,24,25,26,27,54,69,79,89,90,91,92,93,94,95,97,107,108,109,110,111,112,113,115,126,127,128,129,130,131,132,135,136,137,160] Tryz.func22 fun hsc=>?_
  refine cd h (fun hc h=>?_) fun hc h=>?_
  ·exact rt
  ·refine cd h (fun hc h=>?_) fun hc h=>?_
   ·refine r0 ?_
    refine r0 ?_
    (repeat apply sq_)
    refine S4 1 8 ?_
    try simp only[List.append_assoc,List.cons_append,List.nil_append]
    refine L6 (F:=[(3,.ptr st.length 0 0 0),(4,.ptr (st.length+1) 0 0 0),(7,.fn 36 [] [.ptr (st.length+2) 0 0 0,.ptr st.length 0 0 0]),(8,.ref false (st.length+3) 0 0 0),(24,.sl false 1 16 (rows w8 a1.words)),(25,.int .i64 (↑a1.words.length:Int)),(26,.int .i64 0)]) (T:=st++[some (.arr 0 3 0 [[.int .i64 a0.size,.sl false 2 24 (rows A0.cells a0.constants),.sl false 3 48 (rows w7.cells a0.relations)]]),some (.arr 0 4 0 [[.int .i64 a1.kind,.str a1.name,.sl false 1 16 (rows w8 a1.words),.sl false 4 72 (rows u5.cells a1.subs)]]),some (.arr 0 1 0 [[.sl false 2 24 (rows B9.cells a2)]]),some (.arr 0 1 8 (rows K7 []))]) (zF hsc (.lv (.lv (.lv (.lv (.nil _))))) (by simp) ⟨.s,.s,.s,.nref _ _ _ _ _ _ (nR.trans rfl),.s,.s,.s,trivial⟩ (by simp)) ?_
    refine aln 24 fun hl0=>?_
    refine rng (body:=iA n a1 a2 a0) (kk:=iB n a0 a1) (n:=a1.words.length) (s0:=[])
     (fun(gs0:Nat) (k0:Nat) (s0:(List Int))=>[(3,.ptr st.length 0 0 0),(4,.ptr (st.length+1) 0 0 0),(7,.fn 36 [] [.ptr (st.length+2) 0 0 0,.ptr st.length 0 0 0]),(8,.ref false (st.length+3) gs0 0 s0.length),(24,.sl false 1 16 (rows w8 a1.words)),(25,.int .i64 (↑a1.words.length:Int)),(26,.int .i64 (↑k0:Int))])
     (fun(gs0:Nat) (k0:Nat) (s0:(List Int))=>st++[some (.arr 0 3 0 [[.int .i64 a0.size,.sl false 2 24 (rows A0.cells a0.constants),.sl false 3 48 (rows w7.cells a0.relations)]]),some (.arr 0 4 0 [[.int .i64 a1.kind,.str a1.name,.sl false 1 16 (rows w8 a1.words),.sl false 4 72 (rows u5.cells a1.subs)]]),some (.arr 0 1 0 [[.sl false 2 24 (rows B9.cells a2)]]),some (.arr gs0 1 8 (rows K7 s0))])
     (fun(gt0:Nat) (t0:(List Int))=>[(3,.ptr st.length 0 0 0),(4,.ptr (st.length+1) 0 0 0),(8,.ref false (st.length+3) gt0 0 t0.length)])
     (fun(gt0:Nat) (t0:(List Int))=>st++[some (.arr 0 3 0 [[.int .i64 a0.size,.sl false 2 24 (rows A0.cells a0.constants),.sl false 3 48 (rows w7.cells a0.relations)]]),some (.arr 0 4 0 [[.int .i64 a1.kind,.str a1.name,.sl false 1 16 (rows w8 a1.words),.sl false 4 72 (rows u5.cells a1.subs)]]),none,some (.arr gt0 1 8 (rows K7 t0))])
     0 fx hl0 h (bm hsc)
     (fun gs0 k0 s0 b0 fx h hx0=>?_) (fun gs0 s0=>?_) (fun gt0 t0 fr1 st1 h hb=>?_)
    ·unfold iA at h
     refine ct ?_
     refine r0 ?_
     refine r0 ?_
     refine r0 ?_
     refine rn ?_
     obtain⟨v8,hv8,h⟩:=J5 h
     refine(jG n _ _ _ _ _ _ hv8 _ _ _ (by simp) (eM.trans rfl) (V9.trans rfl)).mono ?_
     rintro d1 st1 ⟨rfl,rfl⟩
     obtain⟨c10,yN,h⟩:=gq h
     have fy:=(show rows K7 s0++[[.int .i64 v8]]=rows K7 c10 from by rw[yN];first|exact D5 (E:=K7) s0 [v8]|simp only[go_sem,rows,List.map_append,List.map_cons,List.map_nil])
     have fy:=fa fy (show s0.length+1=c10.length from by rw[yN];simp)
     obtain⟨fx,h⟩:=ck fx h
     try simp only[go_sem,fx,fy]
     refine rn ?_
     cases h
     exact cj (gs0+1) (bm hsc)
    ·refine cf ?_
     refine cM ?_;simp only[go_sem,fx]
     exact⟨gs0,(bm hsc)⟩
    ·try simp only[go_sem,fx]
     unfold iB at h
     refine L6 hb ?_
     refine cl h (lW n _ _ _) fun v15 h=>?_
     refine rn ?_
     obtain⟨v16,hv16,h⟩:=J5 h
     refine((U9 n _ _ _ hv16).borrow (args:=[.sl false 1 24 (rows (slc 1 8 K7) v15.1.tuples),.ref false (st.length+3) gt0 0 t0.length,.fn 17 [] []]) (.cons _ _ _ _ .s (.cons _ _ _ _ (.ref _ _ _ _ _ _ _ _ _ (nR.trans rfl) lG (by decide) (jS _) (by simp only[go_sem])) (.cons _ _ _ _ .s .nil))) (by simp) rfl ) ?_
     exact rt
   ·refine cd h (fun hc h=>?_) fun hc h=>?_
    ·refine rs ?_
     obtain⟨fx,h⟩:=ck fx h
     refine dw [5,8,9,10,11] 0 ?_
     obtain⟨v18,hv18,h⟩:=J5 h
     refine bG [(st.length+2),st.length] (fun st2 h2=>(jG n _ _ _ _ _ _ hv18 st2 _ _ (by simp) ((h2 _ (by simp)).trans (eM.trans rfl)) ((h2 _ (by simp)).trans (V9.trans rfl)))) (by simp) (by simp only[List.mem_cons,List.not_mem_nil,or_false,forall_eq_or_imp,forall_eq];exact⟨⟨by first|omega|(simp<;>omega),_,(eM.trans rfl),Ob.noConfusion⟩,⟨by first|omega|(simp<;>omega),_,(V9.trans rfl),Ob.noConfusion⟩⟩) (by simp) ?_
     obtain⟨fx,h⟩:=ck fx h
     try simp only[go_sem,fx]
     obtain⟨v20,hv20,h⟩:=J5 h
     refine bG [(st.length+2),st.length] (fun st2 h2=>(jG n _ _ _ _ _ _ hv20 st2 _ _ (by simp) ((h2 _ (by simp)).trans (eM.trans rfl)) ((h2 _ (by simp)).trans (V9.trans rfl)))) (by simp) (by simp only[List.mem_cons,List.not_mem_nil,or_false,forall_eq_or_imp,forall_eq];exact⟨⟨by first|omega|(simp<;>omega),_,(eM.trans rfl),Ob.noConfusion⟩,⟨by first|omega|(simp<;>omega),_,(V9.trans rfl),Ob.noConfusion⟩⟩) (by simp) ?_
     try simp only[go_sem,fx]
     try refine⟨by first|omega|(simp<;>omega),?_⟩
     exact rt
    ·refine cd h (fun hc h=>?_) fun hc h=>?_
     ·refine rs ?_
      obtain⟨fx,h⟩:=ck fx h
      refine dw [] 0 ?_
      obtain⟨v22,hv22,h⟩:=J5 h
      refine Q0 (ih _ _ _ _ hv22) ?_
      try simp only[go_sem,fx]
      exact rt
     ·refine cd h (fun hc h=>?_) fun hc h=>?_
      ·refine rs ?_
       obtain⟨fx,h⟩:=ck fx h
       refine dw [] 0 ?_
       obtain⟨v24,hv24,h⟩:=J5 h
       refine Q0 (ih _ _ _ _ hv24) ?_
       obtain⟨fx,h⟩:=ck fx h
       try simp only[go_sem,fx]
       obtain⟨v27,hv27,h⟩:=J5 h
       refine oC (fun hG=>(ih _ _ _ _ (qh hv27 (by simpa using hG)))) ?_
       try simp only[go_sem,fx]
       exact rt
      ·refine cd h (fun hc h=>?_) fun hc h=>?_
       ·refine rs ?_
        obtain⟨fx,h⟩:=ck fx h
        refine dw [] 0 ?_
        obtain⟨v29,hv29,h⟩:=J5 h
        refine Q0 (ih _ _ _ _ hv29) ?_
        obtain⟨fx,h⟩:=ck fx h
        try simp only[go_sem,fx]
        obtain⟨v32,hv32,h⟩:=J5 h
        refine oC (fun hG=>(ih _ _ _ _ (qh hv32 (by simpa using hG)))) ?_
        try simp only[go_sem,fx]
        exact rt
       ·refine cd h (fun hc h=>?_) fun hc h=>?_
        ·refine rs ?_
         obtain⟨fx,h⟩:=ck fx h
         refine dw [] 0 ?_
         obtain⟨v34,hv34,h⟩:=J5 h
         refine Q0 (ih _ _ _ _ hv34) ?_
         obtain⟨fx,h⟩:=ck fx h
         try simp only[go_sem,fx]
         obtain⟨v37,hv37,h⟩:=J5 h
         refine oC (fun hG=>(ih _ _ _ _ (qh hv37 (by simpa using hG)))) ?_
         try simp only[go_sem,fx]
         exact rt
        ·refine rn ?_
         refine Z7 (body:=fq n a0 a1 a2) (kk:=kM a1) (n:=n) (s0:=0)
          (fun(gs1:Unit) (s1:Int)=>[(3,.ptr st.length 0 0 0),(4,.ptr (st.length+1) 0 0 0),(5,.ptr (st.length+2) 0 0 0),(135,.int .i64 a0.size),(136,.int .i64 s1)])
          (fun(gs1:Unit) (s1:Int)=>st++[some (.arr 0 3 0 [[.int .i64 a0.size,.sl false 2 24 (rows A0.cells a0.constants),.sl false 3 48 (rows w7.cells a0.relations)]]),some (.arr 0 4 0 [[.int .i64 a1.kind,.str a1.name,.sl false 1 16 (rows w8 a1.words),.sl false 4 72 (rows u5.cells a1.subs)]]),some (.arr 0 1 0 [[.sl false 2 24 (rows B9.cells a2)]])])
          (fun(gt1:Unit) (t1:Unit)=>[(4,.ptr (st.length+1) 0 0 0)])
          (fun(gt1:Unit) (t1:Unit)=>st++[none,some (.arr 0 4 0 [[.int .i64 a1.kind,.str a1.name,.sl false 1 16 (rows w8 a1.words),.sl false 4 72 (rows u5.cells a1.subs)]])])
          () h (bm hsc)
          (fun gs1 s1 b1 h hx1=>?_) (fun gt1 t1 fr1 st1 h hb=>?_)
         ·unfold fq at h
          refine cd h (fun hc h=>?_) fun hc h=>?_
          ·refine rn ?_
           obtain⟨fx,h⟩:=ck fx h
           obtain⟨fx,h⟩:=ck fx h
           obtain⟨c52,JJ,h⟩:=gq h
           have fy:=(show rows B9.cells a2++[[.str a1.name,.int .i64 s1]]=rows B9.cells c52 from by rw[JJ];first|exact D5 (E:=B9.cells) a2 [(B9.mk a1.name s1)]|simp only[go_sem,rows,List.map_append,List.map_cons,List.map_nil])
           have fy:=fa fy (show a2.length+1=c52.length from by rw[JJ];simp)
           obtain⟨fx,h⟩:=ck fx h
           refine dwy [0,2,3,4,16,17,19] 2 ?_
           obtain⟨v57,hv57,h⟩:=J5 h
           refine Jl [(st.length+4)] (fun st2 h2=>(tF n _ _ _ _ hv57 st2 _ 0 (by simp) ((h2 _ (by simp)).trans (eM.trans rfl)))) (by simp) (by simp only[List.mem_cons,List.not_mem_nil,or_false,forall_eq_or_imp,forall_eq];exact⟨.inr (by simp[D.top]),_,(eM.trans rfl),Ob.noConfusion⟩) (by simp) ?_
           try simp only[go_sem,fx,fy]
           try refine⟨by first|omega|(simp<;>omega),?_⟩
           refine cd h (fun hc h=>?_) fun hc h=>?_
           ·refine ra ?_
            cases h
            refine lF ?_;have h:=congrArg some (hx1 _ rfl)
            exact rt
           ·refine rn ?_
            cases h
            exact bS () (bm hsc)
          ·refine rn ?_
           cases h
           exact fP () (bm hsc)
         ·try simp only[go_sem,fx]
          unfold kM at h
          refine L6 hb ?_
          exact rt
end Go.Proofs.YtanlbioodbnakaaGreatDoor
