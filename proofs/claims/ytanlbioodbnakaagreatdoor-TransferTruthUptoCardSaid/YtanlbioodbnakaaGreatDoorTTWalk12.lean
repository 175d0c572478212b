import Derived.Test.YtanlbioodbnakaaGreatDoorTTWalk11
set_option linter.unusedVariables false
set_option linter.unusedSimpArgs false
set_option maxHeartbeats 2000000
set_option maxRecDepth 100000
namespace Go.Proofs.YtanlbioodbnakaaGreatDoor
open Go Go.Am
theorem oT(n:Nat)(a0:B4)(a1:u5)(r:Bool×B0)(h:iJ n a0 a1=some r):Pure Tryz.prog gl 7 [.agg [.int .i64 a0.size,.sl false 2 24 (rows A0.cells a0.constants),.sl false 3 48 (rows w7.cells a0.relations)],.agg [.int .i64 a1.kind,.str a1.name,.sl false 1 16 (rows w8 a1.words),.sl false 4 72 (rows u5.cells a1.subs)]] (.tup [.bool r.1,.agg [.int .i64 r.2.code,.int .i64 r.2.index]]):=by
 intro st
 unfold iJ at h
 have fx:=trivial
 refine fb 32 [.tmp 4,.cell 5 32] [0,1,2,3,4,5,6,7,8,13,19,26] Tryz.func7 fun hsc=>?_
 refine cl h (kR _) fun v1 h=>?_
 refine cd h (fun hc h=>?_) fun hc h=>?_
 ·refine rs ?_
  refine dw [] 0 ?_
  exact rt
 ·refine cl h (bM n _) fun v2 h=>?_
  refine cd h (fun hc h=>?_) fun hc h=>?_
  ·refine rs ?_
   refine dw [] 0 ?_
   exact rt
  ·refine cl h (wO n _ _) fun v3 h=>?_
   refine cd h (fun hc h=>?_) fun hc h=>?_
   ·refine rs ?_
    refine dw [] 0 ?_
    exact rt
   ·refine cl h (up (wP n _ _ _) (fun _=>(.cons _ _ _ _ .s (.cons _ _ _ _ .s (.cons _ _ _ _ (.B2 _ _ _ (by decide)) .nil))))) fun v4 h=>?_
    exact rt
theorem fS(n:Nat)(a0:B4)(a1:Int)(a2:Bs)(a3:u5)(r:Bool)(h:L4 n a0 a1 a2 a3=some r):Pure Tryz.prog gl 3 [.agg [.int .i64 a0.size,.sl false 2 24 (rows A0.cells a0.constants),.sl false 3 48 (rows w7.cells a0.relations)],.int .i64 a1,.str a2,.agg [.int .i64 a3.kind,.str a3.name,.sl false 1 16 (rows w8 a3.words),.sl false 4 72 (rows u5.cells a3.subs)]] (.bool r):=by
 intro st
 unfold L4 at h
 have fx:=trivial
 refine fb 172 [.tmp 8] [0,1,2,3,4,7,8,9,10,11,12,13,14,15,16,17,18,19,20,22,26,27,28,29,30,33,34,35,36,37,59,78,91,92,93,94,95,99,100,101,102,103,104,105,106,107,108,109,110,111,112,113,114,115,124,132,147,157,168,169,170] Tryz.func3 fun hsc=>?_
 refine cl h (gi n) fun v1 h=>?_
 refine cd h (fun hc h=>?_) fun hc h=>?_
 ·exact rt
 ·refine rn ?_
  obtain⟨v2,hv2,h⟩:=J5 h
  refine bR (fun hG=>(kR _ _ (qh hv2 (by simpa using hG)))) ?_
  refine cd h (fun hc h=>?_) fun hc h=>?_
  ·exact rt
  ·refine rn ?_
   obtain⟨fx,h⟩:=ck fx h
   refine dw [] 0 ?_
   refine cl h (oS n _ _ _) fun v5 h=>?_
   refine cd h (fun hc h=>?_) fun hc h=>?_
   ·exact rt
   ·refine r0 ?_
    refine r0 ?_
    refine r0 ?_
    refine r0 ?_
    refine r0 ?_
    (repeat apply sq_)
    refine S4 3 48 ?_
    try simp only[List.append_assoc,List.cons_append,List.nil_append]
    refine L6 (F:=[(1,.int .i64 a1),(2,.str a2),(4,.ptr st.length 0 0 0),(7,.ptr (st.length+1) 0 0 0),(10,.int .i64 ((get a0.relations a1.toNat).arity)),(11,.ptr (st.length+2) 0 0 0),(12,.ptr (st.length+3) 0 0 0),(13,.ptr (st.length+4) 0 0 0),(14,.ptr (st.length+5) 0 0 0),(15,.bool false),(16,.int .i64 0)]) (T:=st++[some (.arr 0 3 0 [[.int .i64 a0.size,.sl false 2 24 (rows A0.cells a0.constants),.sl false 3 48 (rows w7.cells a0.relations)]]),some (.arr 0 4 0 [[.int .i64 a3.kind,.str a3.name,.sl false 1 16 (rows w8 a3.words),.sl false 4 72 (rows u5.cells a3.subs)]]),some (.arr 0 11 0 [[.int .i64 v5.1.from_.form.kind,.str v5.1.from_.form.name,.sl false 1 16 (rows w8 v5.1.from_.form.words),.sl false 4 72 (rows u5.cells v5.1.from_.form.subs),.sl false 1 16 (rows w8 v5.1.from_.words),.sl false 1 16 (rows w8 v5.1.from_.E9),.sl false 1 16 (rows w8 v5.1.from_.parts),.int .i64 v5.1.to_.kind,.str v5.1.to_.name,.sl false 1 16 (rows w8 v5.1.to_.words),.sl false 4 72 (rows u5.cells v5.1.to_.subs)]]),some (.arr 0 2 0 [[.int .i64 v5.2.code,.int .i64 v5.2.index]]),some (.arr 0 3 0 [[.int .i64 a0.size,.sl false 2 24 (rows A0.cells a0.constants),.ref false (st.length+6) 0 0 0]]),some (.arr 0 3 0 [[.str a2,.int .i64 ((get a0.relations a1.toNat).arity),.sl false 1 24 (rows (slc 1 8 K7) ((get a0.relations a1.toNat).tuples))]]),some (.arr 0 3 48 (rows w7.cells []))]) (zF hsc (.lv (.lv (.lv (.lv (.live _ _ _ _ (.arr _ _ _ _ _ (.cons _ _ _ _ (.cons _ _ _ _ .s (.cons _ _ _ _ .s (.cons _ _ _ _ (.nref _ _ _ _ _ _ (nR.trans rfl)) .nil))) (.same _))) (.lv (.lv (.nil _)))))))) (by simp) ⟨.s,.s,.s,.s,.s,.s,.s,.s,.s,.s,.s,trivial⟩ (by simp)) ?_
    (repeat apply sq_)
    refine Z7 (body:=G0 a0 a2 a1) (kk:=J3 n a2 a0 a1 a3 v5) (n:=n) (s0:=([],false,0))
     (fun(gs0:Nat) (s0:(List w7)×Bool×Int)=>[(1,.int .i64 a1),(2,.str a2),(4,.ptr st.length 0 0 0),(7,.ptr (st.length+1) 0 0 0),(10,.int .i64 ((get a0.relations a1.toNat).arity)),(11,.ptr (st.length+2) 0 0 0),(12,.ptr (st.length+3) 0 0 0),(13,.ptr (st.length+4) 0 0 0),(14,.ptr (st.length+5) 0 0 0),(15,.bool s0.2.1),(16,.int .i64 s0.2.2)])
     (fun(gs0:Nat) (s0:(List w7)×Bool×Int)=>st++[some (.arr 0 3 0 [[.int .i64 a0.size,.sl false 2 24 (rows A0.cells a0.constants),.sl false 3 48 (rows w7.cells a0.relations)]]),some (.arr 0 4 0 [[.int .i64 a3.kind,.str a3.name,.sl false 1 16 (rows w8 a3.words),.sl false 4 72 (rows u5.cells a3.subs)]]),some (.arr 0 11 0 [[.int .i64 v5.1.from_.form.kind,.str v5.1.from_.form.name,.sl false 1 16 (rows w8 v5.1.from_.form.words),.sl false 4 72 (rows u5.cells v5.1.from_.form.subs),.sl false 1 16 (rows w8 v5.1.from_.words),.sl false 1 16 (rows w8 v5.1.from_.E9),.sl false 1 16 (rows w8 v5.1.from_.parts),.int .i64 v5.1.to_.kind,.str v5.1.to_.name,.sl false 1 16 (rows w8 v5.1.to_.words),.sl false 4 72 (rows u5.cells v5.1.to_.subs)]]),some (.arr 0 2 0 [[.int .i64 v5.2.code,.int .i64 v5.2.index]]),some (.arr 0 3 0 [[.int .i64 a0.size,.sl false 2 24 (rows A0.cells a0.constants),.ref false (st.length+6) gs0 0 s0.1.length]]),some (.arr 0 3 0 [[.str a2,.int .i64 ((get a0.relations a1.toNat).arity),.sl false 1 24 (rows (slc 1 8 K7) ((get a0.relations a1.toNat).tuples))]]),some (.arr gs0 3 48 (rows w7.cells s0.1))])
     (fun(gt0:Nat) (t0:(List w7)×Bool)=>[(4,.ptr st.length 0 0 0),(7,.ptr (st.length+1) 0 0 0),(11,.ptr (st.length+2) 0 0 0),(12,.ptr (st.length+3) 0 0 0),(13,.ptr (st.length+4) 0 0 0),(14,.ptr (st.length+5) 0 0 0),(15,.bool t0.2)])
     (fun(gt0:Nat) (t0:(List w7)×Bool)=>st++[some (.arr 0 3 0 [[.int .i64 a0.size,.sl false 2 24 (rows A0.cells a0.constants),.sl false 3 48 (rows w7.cells a0.relations)]]),some (.arr 0 4 0 [[.int .i64 a3.kind,.str a3.name,.sl false 1 16 (rows w8 a3.words),.sl false 4 72 (rows u5.cells a3.subs)]]),some (.arr 0 11 0 [[.int .i64 v5.1.from_.form.kind,.str v5.1.from_.form.name,.sl false 1 16 (rows w8 v5.1.from_.form.words),.sl false 4 72 (rows u5.cells v5.1.from_.form.subs),.sl false 1 16 (rows w8 v5.1.from_.words),.sl false 1 16 (rows w8 v5.1.from_.E9),.sl false 1 16 (rows w8 v5.1.from_.parts),.int .i64 v5.1.to_.kind,.str v5.1.to_.name,.sl false 1 16 (rows w8 v5.1.to_.words),.sl false 4 72 (rows u5.cells v5.1.to_.subs)]]),some (.arr 0 2 0 [[.int .i64 v5.2.code,.int .i64 v5.2.index]]),some (.arr 0 3 0 [[.int .i64 a0.size,.sl false 2 24 (rows A0.cells a0.constants),.ref false (st.length+6) gt0 0 t0.1.length]]),some (.arr 0 3 0 [[.str a2,.int .i64 ((get a0.relations a1.toNat).arity),.sl false 1 24 (rows (slc 1 8 K7) ((get a0.relations a1.toNat).tuples))]]),some (.arr gt0 3 48 (rows w7.cells t0.1))])
     0 h (bm hsc)
     (fun gs0 s0 b0 h hx0=>?_) (fun gt0 t0 fr1 st1 h hb=>?_)
    ·unfold G0 at h
     refine cd h (fun hc h=>?_) fun hc h=>?_
     ·obtain⟨fx,h⟩:=ck fx h
      refine cd h (fun hc h=>?_) fun hc h=>?_
      ·refine ra ?_
       cases h
       refine lF ?_;have h:=congrArg some (hx0 _ rfl)
       exact rt
      ·refine rn ?_
       refine cR (F2 s0 a1 a0) b0 (fun(gj2:Nat) (j2:(List w7)×Bool)=>[(1,.int .i64 a1),(2,.str a2),(4,.ptr st.length 0 0 0),(7,.ptr (st.length+1) 0 0 0),(10,.int .i64 ((get a0.relations a1.toNat).arity)),(11,.ptr (st.length+2) 0 0 0),(12,.ptr (st.length+3) 0 0 0),(13,.ptr (st.length+4) 0 0 0),(14,.ptr (st.length+5) 0 0 0),(15,.bool j2.2),(16,.int .i64 s0.2.2),(17,.ptr (st.length+7) 0 0 0)]) (fun(gj2:Nat) (j2:(List w7)×Bool)=>st++[some (.arr 0 3 0 [[.int .i64 a0.size,.sl false 2 24 (rows A0.cells a0.constants),.sl false 3 48 (rows w7.cells a0.relations)]]),some (.arr 0 4 0 [[.int .i64 a3.kind,.str a3.name,.sl false 1 16 (rows w8 a3.words),.sl false 4 72 (rows u5.cells a3.subs)]]),some (.arr 0 11 0 [[.int .i64 v5.1.from_.form.kind,.str v5.1.from_.form.name,.sl false 1 16 (rows w8 v5.1.from_.form.words),.sl false 4 72 (rows u5.cells v5.1.from_.form.subs),.sl false 1 16 (rows w8 v5.1.from_.words),.sl false 1 16 (rows w8 v5.1.from_.E9),.sl false 1 16 (rows w8 v5.1.from_.parts),.int .i64 v5.1.to_.kind,.str v5.1.to_.name,.sl false 1 16 (rows w8 v5.1.to_.words),.sl false 4 72 (rows u5.cells v5.1.to_.subs)]]),some (.arr 0 2 0 [[.int .i64 v5.2.code,.int .i64 v5.2.index]]),some (.arr 0 3 0 [[.int .i64 a0.size,.sl false 2 24 (rows A0.cells a0.constants),.ref false (st.length+6) gj2 0 j2.1.length]]),some (.arr 0 3 0 [[.str a2,.int .i64 ((get a0.relations a1.toNat).arity),.sl false 1 24 (rows (slc 1 8 K7) ((get a0.relations a1.toNat).tuples))]]),some (.arr gj2 3 48 (rows w7.cells j2.1)),some (.arr 0 3 0 [[.str ((get a0.relations s0.2.2.toNat).name),.int .i64 ((get a0.relations s0.2.2.toNat).arity),.sl false 1 24 (rows (slc 1 8 K7) ((get a0.relations s0.2.2.toNat).tuples))]])]) (fun gj2 j2 fr1 st1 h hb=>?_) (fun hj2=>?_)
       ·try simp only[go_sem,fx]
        unfold F2 at h
        refine L6 hb ?_
        refine cd h (fun hc h=>?_) fun hc h=>?_
        ·obtain⟨c28,Sh,h⟩:=gq h
         have fy:=(show rows w7.cells j2.1++[[.str ((get a0.relations s0.2.2.toNat).name),.int .i64 ((get a0.relations s0.2.2.toNat).arity),.sl false 1 24 (rows (slc 1 8 K7) ((get a0.relations s0.2.2.toNat).tuples))]]=rows w7.cells c28 from by rw[Sh];first|exact D5 (E:=w7.cells) j2.1 [(get a0.relations s0.2.2.toNat)]|simp only[go_sem,rows,List.map_append,List.map_cons,List.map_nil])
         have fy:=fa fy (show j2.1.length+1=c28.length from by rw[Sh];simp)
         obtain⟨fx,h⟩:=ck fx h
         refine r1 ?_
         refine rn ?_
         cases h
         exact bS (gj2+1) (bm hsc)
        ·refine rn ?_
         cases h
         exact bS gj2 (bm hsc)
       ·refine cd h (fun hc h=>?_) fun hc h=>?_
        ·obtain⟨c22,Si,h⟩:=gq h
         have fy:=(show rows w7.cells s0.1++[[.str a2,.int .i64 ((get a0.relations a1.toNat).arity),.sl false 1 24 (rows (slc 1 8 K7) ((get a0.relations a1.toNat).tuples))]]=rows w7.cells c22 from by rw[Si];first|exact D5 (E:=w7.cells) s0.1 [(w7.mk a2 ((get a0.relations a1.toNat).arity) ((get a0.relations a1.toNat).tuples))]|simp only[go_sem,rows,List.map_append,List.map_cons,List.map_nil])
         have fy:=fa fy (show s0.1.length+1=c22.length from by rw[Si];simp)
         obtain⟨fx,h⟩:=ck fx h
         refine r1 ?_
         refine r0 ?_
         refine hj2 (gs0+1) _ _ _ h ?_;exact(bm hsc)
        ·refine r0 ?_
         refine hj2 gs0 _ _ _ h ?_;exact(bm hsc)
     ·refine rn ?_
      cases h
      exact fP gs0 (bm hsc)
    ·try simp only[go_sem,fx]
     unfold J3 at h
     refine L6 hb ?_
     refine rn ?_
     refine cR (F1 n a0 a3 v5) r (fun(gj3:Nat) (j3:(List w7))=>[(4,.ptr st.length 0 0 0),(7,.ptr (st.length+1) 0 0 0),(11,.ptr (st.length+2) 0 0 0),(12,.ptr (st.length+3) 0 0 0),(13,.ptr (st.length+4) 0 0 0)]) (fun(gj3:Nat) (j3:(List w7))=>st++[some (.arr 0 3 0 [[.int .i64 a0.size,.sl false 2 24 (rows A0.cells a0.constants),.sl false 3 48 (rows w7.cells a0.relations)]]),some (.arr 0 4 0 [[.int .i64 a3.kind,.str a3.name,.sl false 1 16 (rows w8 a3.words),.sl false 4 72 (rows u5.cells a3.subs)]]),some (.arr 0 11 0 [[.int .i64 v5.1.from_.form.kind,.str v5.1.from_.form.name,.sl false 1 16 (rows w8 v5.1.from_.form.words),.sl false 4 72 (rows u5.cells v5.1.from_.form.subs),.sl false 1 16 (rows w8 v5.1.from_.words),.sl false 1 16 (rows w8 v5.1.from_.E9),.sl false 1 16 (rows w8 v5.1.from_.parts),.int .i64 v5.1.to_.kind,.str v5.1.to_.name,.sl false 1 16 (rows w8 v5.1.to_.words),.sl false 4 72 (rows u5.cells v5.1.to_.subs)]]),some (.arr 0 2 0 [[.int .i64 v5.2.code,.int .i64 v5.2.index]]),some (.arr 0 3 0 [[.int .i64 a0.size,.sl false 2 24 (rows A0.cells a0.constants),.ref false (st.length+6) gj3 0 j3.length]]),none,some (.arr gj3 3 48 (rows w7.cells j3))]) (fun gj3 j3 fr1 st1 h hb=>?_) (fun hj3=>?_)
     ·try simp only[go_sem,fx]
      unfold F1 at h
      refine L6 hb ?_
      refine cl h (oT n _ _) fun v39 h=>?_
      refine cd h (fun hc h=>?_) fun hc h=>?_
      ·exact rt
      ·refine rn ?_
       obtain⟨v41,hv41,h⟩:=J5 h
       refine((kS n _ _ _ hv41).freeze (st:=st++[some (.arr 0 3 0 [[.int .i64 a0.size,.sl false 2 24 (rows A0.cells a0.constants),.sl false 3 48 (rows w7.cells a0.relations)]]),some (.arr 0 4 0 [[.int .i64 a3.kind,.str a3.name,.sl false 1 16 (rows w8 a3.words),.sl false 4 72 (rows u5.cells a3.subs)]]),some (.arr 0 11 0 [[.int .i64 v5.1.from_.form.kind,.str v5.1.from_.form.name,.sl false 1 16 (rows w8 v5.1.from_.form.words),.sl false 4 72 (rows u5.cells v5.1.from_.form.subs),.sl false 1 16 (rows w8 v5.1.from_.words),.sl false 1 16 (rows w8 v5.1.from_.E9),.sl false 1 16 (rows w8 v5.1.from_.parts),.int .i64 v5.1.to_.kind,.str v5.1.to_.name,.sl false 1 16 (rows w8 v5.1.to_.words),.sl false 4 72 (rows u5.cells v5.1.to_.subs)]]),some (.arr 0 2 0 [[.int .i64 v39.2.code,.int .i64 v39.2.index]]),some (.arr 0 3 0 [[.int .i64 a0.size,.sl false 2 24 (rows A0.cells a0.constants),.ref false (st.length+6) gj3 0 j3.length]]),none,some (.arr gj3 3 48 (rows w7.cells j3)),some (.arr 0 11 216 [[.int .i64 v5.1.from_.form.kind,.str v5.1.from_.form.name,.sl false 1 16 (rows w8 v5.1.from_.form.words),.sl false 4 72 (rows u5.cells v5.1.from_.form.subs),.sl false 1 16 (rows w8 v5.1.from_.words),.sl false 1 16 (rows w8 v5.1.from_.E9),.sl false 1 16 (rows w8 v5.1.from_.parts),.int .i64 v5.1.to_.kind,.str v5.1.to_.name,.sl false 1 16 (rows w8 v5.1.to_.words),.sl false 4 72 (rows u5.cells v5.1.to_.subs)]])]) (args:=[.ref true (st.length+7) 0 0 1,.agg [.int .i64 a3.kind,.str a3.name,.sl false 1 16 (rows w8 a3.words),.sl false 4 72 (rows u5.cells a3.subs)]]) (T:=st++[some (.arr 0 3 0 [[.int .i64 a0.size,.sl false 2 24 (rows A0.cells a0.constants),.sl false 3 48 (rows w7.cells a0.relations)]]),some (.arr 0 4 0 [[.int .i64 a3.kind,.str a3.name,.sl false 1 16 (rows w8 a3.words),.sl false 4 72 (rows u5.cells a3.subs)]]),some (.arr 0 11 0 [[.int .i64 v5.1.from_.form.kind,.str v5.1.from_.form.name,.sl false 1 16 (rows w8 v5.1.from_.form.words),.sl false 4 72 (rows u5.cells v5.1.from_.form.subs),.sl false 1 16 (rows w8 v5.1.from_.words),.sl false 1 16 (rows w8 v5.1.from_.E9),.sl false 1 16 (rows w8 v5.1.from_.parts),.int .i64 v5.1.to_.kind,.str v5.1.to_.name,.sl false 1 16 (rows w8 v5.1.to_.words),.sl false 4 72 (rows u5.cells v5.1.to_.subs)]]),some (.arr 0 2 0 [[.int .i64 v39.2.code,.int .i64 v39.2.index]]),some (.arr 0 3 0 [[.int .i64 a0.size,.sl false 2 24 (rows A0.cells a0.constants),.ref false (st.length+6) gj3 0 j3.length]]),none,some (.arr gj3 3 48 (rows w7.cells j3)),none]) (tZ hsc (.lv (.lv (.lv (.lv (.lv (.dead _ _ _ (.lv (.dead _ _ _ (.nil _))))))))) (by simp)) (by simp) (.cons _ _ _ _ (.ref _ _ _ _ _ _ _ _ _ (nR.trans rfl) (eM.trans rfl) (by decide) (by simp[Imm,D.imm]) (by simp only[go_sem,rows,List.map_cons,List.map_nil])) (.cons _ _ _ _ .s .nil)) (by simp) ?_)
       refine cd h (fun hc h=>?_) fun hc h=>?_
       ·exact rt
       ·refine rn ?_
        obtain⟨v42,hv42,h⟩:=J5 h
        refine((oT n _ _ _ hv42).borrow (args:=[.agg [.int .i64 a0.size,.sl false 2 24 (rows A0.cells a0.constants),.ref false (st.length+6) gj3 0 j3.length],.agg [.int .i64 v41.1.kind,.str v41.1.name,.sl false 1 16 (rows w8 v41.1.words),.sl false 4 72 (rows u5.cells v41.1.subs)]]) (.cons _ _ _ _ (.agg _ _ (.cons _ _ _ _ .s (.cons _ _ _ _ .s (.cons _ _ _ _ (.ref _ _ _ _ _ _ _ _ _ (nR.trans rfl) lG (by decide) (jS _) (by simp only[go_sem])) .nil)))) (.cons _ _ _ _ .s .nil)) (by simp) rfl ) ?_
        exact rt
     ·refine cd h (fun hc h=>?_) fun hc h=>?_
      ·obtain⟨c34,OU,h⟩:=gq h
       have fy:=(show rows w7.cells t0.1++[[.str a2,.int .i64 ((get a0.relations a1.toNat).arity),.sl false 1 24 (rows (slc 1 8 K7) ((get a0.relations a1.toNat).tuples))]]=rows w7.cells c34 from by rw[OU];first|exact D5 (E:=w7.cells) t0.1 [(w7.mk a2 ((get a0.relations a1.toNat).arity) ((get a0.relations a1.toNat).tuples))]|simp only[go_sem,rows,List.map_append,List.map_cons,List.map_nil])
       have fy:=fa fy (show t0.1.length+1=c34.length from by rw[OU];simp)
       obtain⟨fx,h⟩:=ck fx h
       refine r1 ?_
       refine hj3 (gt0+1) _ _ _ h ?_;exact(bm hsc)
      ·refine r0 ?_
       refine hj3 gt0 _ _ _ h ?_;exact(bm hsc)
end Go.Proofs.YtanlbioodbnakaaGreatDoor
