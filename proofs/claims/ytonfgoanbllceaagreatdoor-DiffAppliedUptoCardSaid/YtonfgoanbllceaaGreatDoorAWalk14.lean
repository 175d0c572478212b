import Derived.Test.YtonfgoanbllceaaGreatDoorAWalk13
set_option linter.unusedVariables false
set_option linter.unusedSimpArgs false
set_option maxHeartbeats 2000000
set_option maxRecDepth 100000
namespace Go.Proofs.YtonfgoanbllceaaGreatDoor
open Go Go.Am
theorem lJ(n:Nat)(a0:x9)(a1:x9)(r:x6)(h:Y1 n a0 a1=some r):Pure Tryz.prog gl 6 [.agg [.sl false 2 40 (rows w8.cells a0.hierarchy.types),.sl false 3 32 (rows y3.cells a0.hierarchy.B1),.sl false 10 152 (rows w4.cells a0.rules),.sl false 9 144 (rows x7.cells a0.y9),.sl false 2 32 (rows x5.cells a0.start.nodes)],.agg [.sl false 2 40 (rows w8.cells a1.hierarchy.types),.sl false 3 32 (rows y3.cells a1.hierarchy.B1),.sl false 10 152 (rows w4.cells a1.rules),.sl false 9 144 (rows x7.cells a1.y9),.sl false 2 32 (rows x5.cells a1.start.nodes)]] (.agg [.int .i64 r.code,.int .i64 r.index]):=by
 intro st
 unfold Y1 at h
 have fx:=trivial
 refine fb 14 [.cell 4 41] [0,1,2,3,4,5,10] Tryz.func6 fun hsc=>?_
 refine cl h (dj n _) fun v1 h=>?_
 refine cd h (fun hc h=>?_) fun hc h=>?_
 ·exact rt
 ·refine cl h (dj n _) fun v2 h=>?_
  exact rt
theorem lK(a0:B4)(r:Bool)(h:Y2 a0=some r):Pure Tryz.prog gl 7 [.agg [.sl false 2 48 (rows w5.cells a0.hierarchy),.sl false 1 24 (rows y5.cells a0.start),.sl false 3 40 (rows A8.cells a0.rules),.sl false 3 40 (rows B9.cells a0.y9)]] (.bool r):=by
 intro st
 unfold Y2 at h
 have fx:=trivial
 refine fb 25 [.tmp 2] [0,1,2,8,9,10,11,14,15,16,17,20,21,22,23] Tryz.func7 fun hsc=>?_
 exact rt
theorem gi(n:Nat)(a0:Int)(a1:Int)(a2:(List (List Bool)))(r:Int)(h:O2 n a0 a1 a2=some r):Pure Tryz.prog gl 34 [.int .i64 a0,.int .i64 a1,.sl false 1 24 (rows (slc 1 1 D6) a2)] (.int .i64 r):=by
 intro st
 unfold O2 at h
 have fx:=trivial
 refine sA ?_;refine fb 86 [.tmp 6] [0,1,2,6,7,8,9,10,11,12,16,25,32,47,64,65,66,67,68,69,70,71] Tryz.func34 fun hsc=>?_
 refine rn ?_
 refine H9 (body:=G9 a1) (kk:=V3 n a0 a1 a2) (n:=n) (s0:=([],0))
  (fun(gs0:Nat) (s0:(List Int)×Int)=>[(0,.int .i64 a0),(1,.int .i64 a1),(2,.sl false 1 24 (rows (slc 1 1 D6) a2)),(7,.ref false st.length gs0 0 s0.1.length),(8,.int .i64 s0.2)])
  (fun(gs0:Nat) (s0:(List Int)×Int)=>st++[some (.arr gs0 1 8 (rows N3 s0.1))])
  (fun(gt0:Nat) (t0:(List Int))=>[(0,.int .i64 a0),(1,.int .i64 a1),(2,.sl false 1 24 (rows (slc 1 1 D6) a2)),(7,.ref false st.length gt0 0 t0.length)])
  (fun(gt0:Nat) (t0:(List Int))=>st++[some (.arr gt0 1 8 (rows N3 t0))])
  0 h (bm hsc)
  (fun gs0 s0 b0 h hx0=>?_) (fun gt0 t0 fr1 st1 h hb=>?_)
 ·unfold G9 at h
  refine cd h (fun hc h=>?_) fun hc h=>?_
  ·refine r0 ?_
   refine r0 ?_
   obtain⟨c14,QG,h⟩:=mO h
   have fy:=(show rows N3 s0.1++[[.int .i64 s0.2]]=rows N3 c14 from by rw[QG];first|exact N9 (E:=N3) s0.1 [s0.2]|simp only[go_sem,rows,List.map_append,List.map_cons,List.map_nil])
   have fy:=fa fy (show s0.1.length+1=c14.length from by rw[QG];simp)
   obtain⟨fx,h⟩:=ck fx h
   refine r1 ?_
   refine rn ?_
   cases h
   exact I6 (gs0+1) (bm hsc)
  ·refine rn ?_
   cases h
   exact T2 gs0 (bm hsc)
 ·try simp only[go_sem,fx]
  unfold V3 at h
  refine K6 hb ?_
  refine rn ?_
  refine H9 (body:=K9 n a0 a1 a2) (kk:=V5 a1) (n:=n) (s0:=(t0,1))
   (fun(gs1:Unit) (s1:(List Int)×Int)=>[(0,.int .i64 a0),(1,.int .i64 a1),(2,.sl false 1 24 (rows (slc 1 1 D6) a2)),(7,.sl false 1 8 (rows N3 s1.1)),(9,.int .i64 s1.2)])
   (fun(gs1:Unit) (s1:(List Int)×Int)=>st)
   (fun(gt1:Unit) (t1:(List Int))=>[(1,.int .i64 a1),(7,.sl false 1 8 (rows N3 t1))])
   (fun(gt1:Unit) (t1:(List Int))=>st)
   () h (bm0 hsc (hf:=⟨.s,.s,.s,.ref _ _ _ _ _ _ _ _ _ (lY.trans rfl) nj (by decide) (lQ _) (by simp only[go_sem]),.s,trivial⟩))
   (fun gs1 s1 b1 h hx1=>?_) (fun gt1 t1 fr1 st1 h hb=>?_)
  ·unfold K9 at h
   refine cd h (fun hc h=>?_) fun hc h=>?_
   ·refine rn ?_
    refine H9 (body:=H6 a1 s1 a2) (kk:=V4 s1) (n:=n) (s0:=([s1.2],1))
     (fun(gs6:Nat) (s6:(List Int)×Int)=>[(0,.int .i64 a0),(1,.int .i64 a1),(2,.sl false 1 24 (rows (slc 1 1 D6) a2)),(7,.sl false 1 8 (rows N3 s1.1)),(9,.int .i64 s1.2),(10,.ref false st.length gs6 0 s6.1.length),(11,.int .i64 s6.2)])
     (fun(gs6:Nat) (s6:(List Int)×Int)=>st++[some (.arr gs6 1 8 (rows N3 s6.1))])
     (fun(gt6:Nat) (t6:(List Int))=>[(0,.int .i64 a0),(1,.int .i64 a1),(2,.sl false 1 24 (rows (slc 1 1 D6) a2)),(9,.int .i64 s1.2),(10,.ref false st.length gt6 0 t6.length)])
     (fun(gt6:Nat) (t6:(List Int))=>st++[some (.arr gt6 1 8 (rows N3 t6))])
     0 h (bm hsc)
     (fun gs6 s6 b6 h hx6=>?_) (fun gt6 t6 fr1 st1 h hb=>?_)
    ·unfold H6 at h
     refine cd h (fun hc h=>?_) fun hc h=>?_
     ·obtain⟨fx,h⟩:=ck fx h
      refine r0 ?_
      refine r0 ?_
      refine r0 ?_
      obtain⟨fx,h⟩:=ck fx h
      have fy:=(show(rows N3 s6.1).getD ((wr .i64 (s6.2-1)).toNat) []=N3 (get s6.1 ((wr .i64 (s6.2-1)).toNat))from oP (E:=N3) (l:=s6.1) (k:=(wr .i64 (s6.2-1)).toNat) (by first|omega|(simp;omega)))
      have fy:=fa fy (show(wr .i64 (s6.2-1)).toNat<s6.1.length from by first|omega|(simp;omega))
      refine r1 ?_
      (repeat apply sq_)
      refine nk (K8 s1 a2 s6) b6 (fun(gj9:Unit) (j9:Int)=>[(0,.int .i64 a0),(1,.int .i64 a1),(2,.sl false 1 24 (rows (slc 1 1 D6) a2)),(7,.sl false 1 8 (rows N3 s1.1)),(9,.int .i64 s1.2),(10,.ref false st.length gs6 0 s6.1.length),(11,.int .i64 s6.2),(12,.int .i64 j9)]) (fun(gj9:Unit) (j9:Int)=>st++[some (.arr gs6 1 8 (rows N3 s6.1))]) (fun gj9 j9 fr1 st1 h hb=>?_) (fun hj9=>?_)
      ·try simp only[go_sem,fx]
       unfold K8 at h
       refine K6 hb ?_
       obtain⟨fx,h⟩:=ck fx h
       obtain⟨fx,h⟩:=ck fx h
       obtain⟨fx,h⟩:=ck fx h
       refine cd h (fun hc h=>?_) fun hc h=>?_
       ·obtain⟨fx,h⟩:=ck fx h
        refine r0 ?_
        obtain⟨c181,QH,h⟩:=mO h
        have fy:=(show rows N3 s6.1++[[.int .i64 (get s1.1 ((wr .i64 (s6.2-1)).toNat))]]=rows N3 c181 from by rw[QH];first|exact N9 (E:=N3) s6.1 [(get s1.1 ((wr .i64 (s6.2-1)).toNat))]|simp only[go_sem,rows,List.map_append,List.map_cons,List.map_nil])
        have fy:=fa fy (show s6.1.length+1=c181.length from by rw[QH];simp)
        obtain⟨fx,h⟩:=ck fx h
        refine r1 ?_
        refine rn ?_
        cases h
        exact I6 (gs6+1) (bm hsc)
       ·refine r0 ?_
        obtain⟨c187,QI,h⟩:=mO h
        have fy:=(show rows N3 s6.1++[[.int .i64 j9]]=rows N3 c187 from by rw[QI];first|exact N9 (E:=N3) s6.1 [j9]|simp only[go_sem,rows,List.map_append,List.map_cons,List.map_nil])
        have fy:=fa fy (show s6.1.length+1=c187.length from by rw[QI];simp)
        obtain⟨fx,h⟩:=ck fx h
        refine r1 ?_
        refine rn ?_
        cases h
        exact I6 (gs6+1) (bm hsc)
      ·refine cd h (fun hc h=>?_) fun hc h=>?_
       ·have fy:=(show(rows N3 s6.1).getD ((wr .i64 (s6.2-1)).toNat) []=N3 (get s6.1 ((wr .i64 (s6.2-1)).toNat))from oP (E:=N3) (l:=s6.1) (k:=(wr .i64 (s6.2-1)).toNat) (by first|omega|(simp;omega)))
        have fy:=fa fy (show(wr .i64 (s6.2-1)).toNat<s6.1.length from by first|omega|(simp;omega))
        refine r1 ?_
        refine hj9 () _ _ _ h ?_;exact(bm hsc)
       ·refine r0 ?_
        refine hj9 () _ _ _ h ?_;exact(bm hsc)
     ·refine rn ?_
      cases h
      exact T2 gs6 (bm hsc)
    ·try simp only[go_sem,fx]
     unfold V4 at h
     refine K6 hb ?_
     refine rn ?_
     cases h
     exact I6 () (bm0 hsc (hf:=⟨.s,.s,.s,.ref _ _ _ _ _ _ _ _ _ (lY.trans rfl) nj (by decide) (lQ _) (by simp only[go_sem]),.s,trivial⟩))
   ·refine rn ?_
    cases h
    exact T2 () (bW hsc)
  ·try simp only[go_sem,fx]
   unfold V5 at h
   refine K6 hb ?_
   obtain⟨fx,h⟩:=ck fx h
   exact rt
theorem jc(n:Nat)(a0:x9)(a1:x9)(r:Int)(h:G7 n a0 a1=some r):Pure Tryz.prog gl 10 [.agg [.sl false 2 40 (rows w8.cells a0.hierarchy.types),.sl false 3 32 (rows y3.cells a0.hierarchy.B1),.sl false 10 152 (rows w4.cells a0.rules),.sl false 9 144 (rows x7.cells a0.y9),.sl false 2 32 (rows x5.cells a0.start.nodes)],.agg [.sl false 2 40 (rows w8.cells a1.hierarchy.types),.sl false 3 32 (rows y3.cells a1.hierarchy.B1),.sl false 10 152 (rows w4.cells a1.rules),.sl false 9 144 (rows x7.cells a1.y9),.sl false 2 32 (rows x5.cells a1.start.nodes)]] (.int .i64 r):=by
 intro st
 unfold G7 at h
 have fx:=trivial
 refine fb 125 [.tmp 4] [0,1,2,3,4,5,6,7,8,9,10,11,17,25,36,43,76,83] Tryz.func10 fun hsc=>?_
 refine cl h (dg _ _) fun v1 h=>?_
 refine rn ?_
 refine nk (F4 n a0 a1) r (fun(gj0:Unit) (j0:Int)=>[(2,.ptr st.length 0 0 0),(3,.ptr (st.length+1) 0 0 0),(5,.int .i64 j0)]) (fun(gj0:Unit) (j0:Int)=>st++[some (.arr 0 5 0 [[.sl false 2 40 (rows w8.cells a0.hierarchy.types),.sl false 3 32 (rows y3.cells a0.hierarchy.B1),.sl false 10 152 (rows w4.cells a0.rules),.sl false 9 144 (rows x7.cells a0.y9),.sl false 2 32 (rows x5.cells a0.start.nodes)]]),some (.arr 0 5 0 [[.sl false 2 40 (rows w8.cells a1.hierarchy.types),.sl false 3 32 (rows y3.cells a1.hierarchy.B1),.sl false 10 152 (rows w4.cells a1.rules),.sl false 9 144 (rows x7.cells a1.y9),.sl false 2 32 (rows x5.cells a1.start.nodes)]])]) (fun gj0 j0 fr1 st1 h hb=>?_) (fun hj0=>?_)
 ·try simp only[go_sem,fx]
  unfold F4 at h
  refine K6 hb ?_
  refine cl h (Y3 _ _) fun v2 h=>?_
  refine rn ?_
  refine nk (F3 n a0 a1) r (fun(gj1:Unit) (j1:Int)=>[(2,.ptr st.length 0 0 0),(3,.ptr (st.length+1) 0 0 0),(5,.int .i64 j1)]) (fun(gj1:Unit) (j1:Int)=>st++[some (.arr 0 5 0 [[.sl false 2 40 (rows w8.cells a0.hierarchy.types),.sl false 3 32 (rows y3.cells a0.hierarchy.B1),.sl false 10 152 (rows w4.cells a0.rules),.sl false 9 144 (rows x7.cells a0.y9),.sl false 2 32 (rows x5.cells a0.start.nodes)]]),some (.arr 0 5 0 [[.sl false 2 40 (rows w8.cells a1.hierarchy.types),.sl false 3 32 (rows y3.cells a1.hierarchy.B1),.sl false 10 152 (rows w4.cells a1.rules),.sl false 9 144 (rows x7.cells a1.y9),.sl false 2 32 (rows x5.cells a1.start.nodes)]])]) (fun gj1 j1 fr1 st1 h hb=>?_) (fun hj1=>?_)
  ·try simp only[go_sem,fx]
   unfold F3 at h
   refine K6 hb ?_
   obtain⟨v3,hvr,h⟩:=E4 h
   unfold lA at hvr
   obtain⟨har,hvr⟩:=pe hvr
   obtain⟨SB,hvr⟩:=pe hvr
   have hvr:=Option.some.inj hvr
   obtain⟨sbr,TG⟩:∃f:Nat→Nat→Bool,f=fun(i j:Nat)=>(E6 n [Am.get a0.rules i] [Am.get a1.rules j]).getD false:=⟨_,rfl⟩
   rw[←TG]at hvr
   have LW:∀i j:Nat,i<a0.rules.length→j<a1.rules.length→E6 n [Am.get a0.rules i] [Am.get a1.rules j]=some (sbr i j):=fun i j hi hj=>by
    obtain⟨w,hw⟩:=Option.isSome_iff_exists.1 (List.all_eq_true.1 (List.all_eq_true.1 SB i (List.mem_range.2 hi)) j (List.mem_range.2 hj))
    rw[TG]
    show E6 n [Am.get a0.rules i] [Am.get a1.rules j]=some ((E6 n [Am.get a0.rules i] [Am.get a1.rules j]).getD false)
    rw[hw];rfl
   have hnr:a0.rules.length≤top:=by omega
   have fx:=fa fx (fa har.1 hnr)
   refine rn ?_
   obtain⟨A,hA⟩:∃x,x=Ob.arr 0 5 0 [[.sl false 2 40 (rows w8.cells a0.hierarchy.types),.sl false 3 32 (rows y3.cells a0.hierarchy.B1),.sl false 10 152 (rows w4.cells a0.rules),.sl false 9 144 (rows x7.cells a0.y9),.sl false 2 32 (rows x5.cells a0.start.nodes)]]:=⟨_,rfl⟩
   obtain⟨B,hB⟩:∃x,x=Ob.arr 0 5 0 [[.sl false 2 40 (rows w8.cells a1.hierarchy.types),.sl false 3 32 (rows y3.cells a1.hierarchy.B1),.sl false 10 152 (rows w4.cells a1.rules),.sl false 9 144 (rows x7.cells a1.y9),.sl false 2 32 (rows x5.cells a1.start.nodes)]]:=⟨_,rfl⟩
   simp only[←hA, ←hB]
   refine nq (ρ:=Unit) (n:=a0.rules.length) (body:=fun _ (s:Unit)=>some (.nxt s)) (kk:=fun s=>some s) (s0:=()) (e:=())
    (fun(k:Nat) (_:Unit) F S=>∃C N,F=[(2,.ptr st.length 0 0 0),(3,.ptr (st.length+1) 0 0 0),(5,.int .i64 j1),(6,.ref true (st.length+2) 0 0 a0.rules.length),(7,.int .i64 (↑k:Int))]∧S=st++(some A::some B::some (.arr 0 1 24 (C++List.replicate (a0.rules.length-k) [.B3]))::N)∧yj (st.length+2) N D6 1 C (tf k a1.rules.length sbr))
    (fun(_:Unit) F S=>∃C N,F=[(2,.ptr st.length 0 0 0),(3,.ptr (st.length+1) 0 0 0),(5,.int .i64 j1),(6,.ref true (st.length+2) 0 0 a0.rules.length)]∧S=st++(some A::some B::some (.arr 0 1 24 C)::N)∧yj (st.length+2) N D6 1 C (tf a0.rules.length a1.rules.length sbr))
    (fun k s b hb=>⟨s,(Option.some.inj hb).symm⟩) (dO _ _) ⟨[],[],rfl,by simp,.nil⟩
    (fun k s s' fr S hk hb hi=>?_) (fun s fr S hi=>?_) (fun s F fr S hkk hj hF=>?_)
   ·obtain⟨C,N,rfl,rfl,sX⟩:=hi
    have hC:C.length=k:=by rw[sX.len,sx]
    have hw:wr .i64 ((↑k:Int)+1)=((k+1:Nat):Int):=wM hk har.2.1
    have fx:=fa fx hw
    subst hA;subst hB
    refine ct ?_
    refine rn ?_
    refine mN (fr':=[(2,.ptr st.length 0 0 0),(3,.ptr (st.length+1) 0 0 0),(5,.int .i64 j1),(6,.ref true (st.length+2) 0 0 a0.rules.length),(7,.int .i64 (↑k:Int)),(8,.int .i64 ((0:Nat):Int))]) ⟨rfl,rfl,rfl,rfl,rfl,rfl,trivial⟩ ?_
    refine nq (ρ:=Unit) (n:=a1.rules.length) (body:=fun _ (s:Unit)=>some (.nxt s)) (kk:=fun s=>some s) (s0:=()) (e:=())
     (fun(j:Nat) (_:Unit) F S=>∃c M,F=[(2,.ptr st.length 0 0 0),(3,.ptr (st.length+1) 0 0 0),(5,.int .i64 j1),(6,.ref true (st.length+2) 0 0 a0.rules.length),(7,.int .i64 (↑k:Int)),(8,.int .i64 (↑j:Int))]∧S=st++(some (Ob.arr 0 5 0 [[.sl false 2 40 (rows w8.cells a0.hierarchy.types),.sl false 3 32 (rows y3.cells a0.hierarchy.B1),.sl false 10 152 (rows w4.cells a0.rules),.sl false 9 144 (rows x7.cells a0.y9),.sl false 2 32 (rows x5.cells a0.start.nodes)]])::some (Ob.arr 0 5 0 [[.sl false 2 40 (rows w8.cells a1.hierarchy.types),.sl false 3 32 (rows y3.cells a1.hierarchy.B1),.sl false 10 152 (rows w4.cells a1.rules),.sl false 9 144 (rows x7.cells a1.y9),.sl false 2 32 (rows x5.cells a1.start.nodes)]])::some (.arr 0 1 24 (C++[c]::List.replicate (a0.rules.length-(k+1)) [.B3]))::(N++M))∧
      ((j=0∧c= .B3∧M=[])∨0<j∧∃ro i g,ro=st.length+2+(N.length+i+1)∧c= .ref false ro g 0 j∧M[i]? =some (some (.arr g 1 1 (rows D6 (rf j (sbr k)))))))
     (fun(_:Unit) F S=>∃C N,F=[(2,.ptr st.length 0 0 0),(3,.ptr (st.length+1) 0 0 0),(5,.int .i64 j1),(6,.ref true (st.length+2) 0 0 a0.rules.length),(7,.int .i64 (↑k:Int))]∧S=st++(some (Ob.arr 0 5 0 [[.sl false 2 40 (rows w8.cells a0.hierarchy.types),.sl false 3 32 (rows y3.cells a0.hierarchy.B1),.sl false 10 152 (rows w4.cells a0.rules),.sl false 9 144 (rows x7.cells a0.y9),.sl false 2 32 (rows x5.cells a0.start.nodes)]])::some (Ob.arr 0 5 0 [[.sl false 2 40 (rows w8.cells a1.hierarchy.types),.sl false 3 32 (rows y3.cells a1.hierarchy.B1),.sl false 10 152 (rows w4.cells a1.rules),.sl false 9 144 (rows x7.cells a1.y9),.sl false 2 32 (rows x5.cells a1.start.nodes)]])::some (.arr 0 1 24 (C++List.replicate (a0.rules.length-(k+1)) [.B3]))::N)∧yj (st.length+2) N D6 1 C (tf (k+1) a1.rules.length sbr))
     (fun k s b hb=>⟨s,(Option.some.inj hb).symm⟩) (dO _ _) ⟨.B3,[],rfl,?_,.inl ⟨rfl,rfl,rfl⟩⟩
     (fun j s s' fr S hj hb hi=>?_) (fun s fr S hi=>?_) (fun s F fr S hkk hj hF=>?_)
    ·rw[show a0.rules.length-k=(a0.rules.length-(k+1))+1 by omega,List.replicate_succ];try simp
    ·obtain⟨c,M,rfl,rfl,hc⟩:=hi
     have hw2:wr .i64 ((↑j:Int)+1)=((j+1:Nat):Int):=wM hj (by omega)
     have hX1:∀c,(C++[c]::List.replicate (a0.rules.length-(k+1)) [D.B3]).length=a0.rules.length:=fun c=>by simp[hC];omega
     have hX2:∀c,(C++[c]::List.replicate (a0.rules.length-(k+1)) [D.B3]).getD k []=[c]:=fun c=>by rw[←hC];simp[List.getD_eq_getElem?_getD]
     have hX3:∀c x,(C++[c]::List.replicate (a0.rules.length-(k+1)) [D.B3]).set k x=C++x::List.replicate (a0.rules.length-(k+1)) [D.B3]:=fun c x=>by rw[←hC];simp
     have fx:=fa fx (fa hw2 (fa hX1 (fa hX2 (fa hX3 (fa hk hj)))))
     refine ct ?_
     refine r0 ?_
     obtain⟨S,hS⟩:∃x,x=st++(some (Ob.arr 0 5 0 [[.sl false 2 40 (rows w8.cells a0.hierarchy.types),.sl false 3 32 (rows y3.cells a0.hierarchy.B1),.sl false 10 152 (rows w4.cells a0.rules),.sl false 9 144 (rows x7.cells a0.y9),.sl false 2 32 (rows x5.cells a0.start.nodes)]])::some (Ob.arr 0 5 0 [[.sl false 2 40 (rows w8.cells a1.hierarchy.types),.sl false 3 32 (rows y3.cells a1.hierarchy.B1),.sl false 10 152 (rows w4.cells a1.rules),.sl false 9 144 (rows x7.cells a1.y9),.sl false 2 32 (rows x5.cells a1.start.nodes)]])::some (.arr 0 1 24 (C++[c]::List.replicate (a0.rules.length-(k+1)) [.B3]))::(N++M)):=⟨_,rfl⟩
     have la:Am.look S st.length=some (Ob.arr 0 5 0 [[.sl false 2 40 (rows w8.cells a0.hierarchy.types),.sl false 3 32 (rows y3.cells a0.hierarchy.B1),.sl false 10 152 (rows w4.cells a0.rules),.sl false 9 144 (rows x7.cells a0.y9),.sl false 2 32 (rows x5.cells a0.start.nodes)]]):=by rw[hS];simp[Am.look,List.getElem?_append_right]
     have lb:Am.look S (st.length+1)=some (Ob.arr 0 5 0 [[.sl false 2 40 (rows w8.cells a1.hierarchy.types),.sl false 3 32 (rows y3.cells a1.hierarchy.B1),.sl false 10 152 (rows w4.cells a1.rules),.sl false 9 144 (rows x7.cells a1.y9),.sl false 2 32 (rows x5.cells a1.start.nodes)]]):=by rw[hS];simp[Am.look,List.getElem?_append_right]
     have lt:Am.look S (st.length+2)=some (.arr 0 1 24 (C++[c]::List.replicate (a0.rules.length-(k+1)) [.B3])):=by rw[hS];simp[Am.look,List.getElem?_append_right]
     refine lZ hS ?_
     have fx:=fa fx (fa (idf (cE la)) (fa (idf (cE lb)) (fa (idf (cE lt)) (nd3 (a:=st.length) (b:=st.length+1) (c:=st.length+2) (by simp)))))
     rcases hc with⟨hj0,rfl,rfl⟩|⟨hj0,ro,i,g,hro,rfl,hM⟩
     ·refine lZ (s':=Z4 S [(st.length,.arr 0 5 0 [[.sl false 2 40 (rows w8.cells a0.hierarchy.types),.sl false 3 32 (rows y3.cells a0.hierarchy.B1),.sl false 10 152 (rows w4.cells a0.rules),.sl false 9 144 (rows x7.cells a0.y9),.sl false 2 32 (rows x5.cells a0.start.nodes)]]),(st.length+1,.arr 0 5 0 [[.sl false 2 40 (rows w8.cells a1.hierarchy.types),.sl false 3 32 (rows y3.cells a1.hierarchy.B1),.sl false 10 152 (rows w4.cells a1.rules),.sl false 9 144 (rows x7.cells a1.y9),.sl false 2 32 (rows x5.cells a1.start.nodes)]]),(st.length+2,.arr 0 1 24 (C++[.B3]::List.replicate (a0.rules.length-(k+1)) [.B3]))]) (N6 (by simp[la,lb,lt])) ?_
      (repeat apply gj);(repeat apply sq_);(try apply gj)
      refine dw [] 4 ?_
      refine A9 (cU n _ _ _ (LW k j hk hj)) ?_
      try simp only[go_sem,fx]
      refine rn ?_
      refine⟨[(2,.ptr st.length 0 0 0),(3,.ptr (st.length+1) 0 0 0),(5,.int .i64 j1),(6,.ref true (st.length+2) 0 0 a0.rules.length),(7,.int .i64 (↑k:Int)),(8,.int .i64 (↑(j+1):Int))],⟨rfl,rfl,rfl,rfl,rfl,rfl,trivial⟩,.ref false (S.length+3) 0 0 1,List.replicate 3 (some .resv)++[some (.arr 0 1 1 [[.bool (sbr k j)]])],rfl,(PD hS).trans (by rw[List.append_nil];rfl),.inr ⟨by omega,_,3,0,?_,by rw[hj0],?_⟩⟩
      ·rw[hS];simp;omega
      ·rw[hj0];rfl
     ·have lr:Am.look S ro=some (.arr g 1 1 (rows D6 (rf j (sbr k)))):=by
       rw[hS,hro];unfold Am.look
       rw[List.getElem?_append_right (by omega),show st.length+2+(N.length+i+1)-st.length=(N.length+i)+1+1+1 by omega]
       simp[List.getElem?_append_right,hM]
      have hr1:(rows D6 (rf j (sbr k))).length=j:=by rw[zV,uL]
      have hr2:(rows D6 (rf j (sbr k))).take j=rows D6 (rf j (sbr k)):=by rw[List.take_of_length_le];omega
      have hr3:j+1≤top:=by unfold top;omega
      have hr4:rows D6 (rf j (sbr k))++[[D.bool (sbr k j)]]=rows D6 (rf (j+1) (sbr k)):=Ip (E:=D6)
      have fx:=fa fx (fa (idf (cE lr)) (fa (nd4 (a:=st.length) (b:=st.length+1) (c:=st.length+2) (d:=ro) (by rw[hro];simp;omega)) (fa hr1 (fa hr2 (fa hr3 hr4)))))
      refine lZ (s':=Z4 S [(st.length,.arr 0 5 0 [[.sl false 2 40 (rows w8.cells a0.hierarchy.types),.sl false 3 32 (rows y3.cells a0.hierarchy.B1),.sl false 10 152 (rows w4.cells a0.rules),.sl false 9 144 (rows x7.cells a0.y9),.sl false 2 32 (rows x5.cells a0.start.nodes)]]),(st.length+1,.arr 0 5 0 [[.sl false 2 40 (rows w8.cells a1.hierarchy.types),.sl false 3 32 (rows y3.cells a1.hierarchy.B1),.sl false 10 152 (rows w4.cells a1.rules),.sl false 9 144 (rows x7.cells a1.y9),.sl false 2 32 (rows x5.cells a1.start.nodes)]]),(st.length+2,.arr 0 1 24 (C++[.ref false ro g 0 j]::List.replicate (a0.rules.length-(k+1)) [.B3])),(ro,.arr g 1 1 (rows D6 (rf j (sbr k))))]) (N6 (by simp[la,lb,lt,lr])) ?_
      (repeat apply gj);(repeat apply sq_);(try apply gj)
      refine dw [] 4 ?_
      refine A9 (cU n _ _ _ (LW k j hk hj)) ?_
      try simp only[go_sem,fx]
      refine⟨by omega,?_⟩
      refine rn ?_
      refine⟨[(2,.ptr st.length 0 0 0),(3,.ptr (st.length+1) 0 0 0),(5,.int .i64 j1),(6,.ref true (st.length+2) 0 0 a0.rules.length),(7,.int .i64 (↑k:Int)),(8,.int .i64 (↑(j+1):Int))],⟨rfl,rfl,rfl,rfl,rfl,rfl,trivial⟩,_,M.set i (some (.arr (g+1) 1 1 (rows D6 (rf (j+1) (sbr k)))))++List.replicate 4 (some .resv),rfl,?_,.inr ⟨by omega,ro,i,g+1,by omega,rfl,?_⟩⟩
      ·rw[hro];exact(PE hS).trans (by rw[Lx,List.append_assoc];rfl)
      ·have hi:i<M.length:=(List.getElem?_eq_some_iff.1 hM).1
       rw[List.getElem?_append_left (by simpa using hi),List.getElem?_set_self hi]
    ·obtain⟨c,M,rfl,rfl,hc⟩:=hi
     refine cf ?_
     refine X5 ?_
     refine⟨rfl,[(2,.ptr st.length 0 0 0),(3,.ptr (st.length+1) 0 0 0),(5,.int .i64 j1),(6,.ref true (st.length+2) 0 0 a0.rules.length),(7,.int .i64 (↑k:Int))],⟨rfl,rfl,rfl,rfl,rfl,trivial⟩,C++[[c]],N++M,rfl,by rw[List.append_assoc];rfl,?_⟩
     rw[←Im]
     refine sX.app.snoc ?_
     rcases hc with⟨h0,rfl,rfl⟩|⟨h0,ro,i,g,hro,rfl,hM⟩
     ·exact .inl ⟨rfl,by rw[h0];rfl⟩
     ·refine .inr ⟨N.length+i,g,?_,?_⟩
      ·rw[hro,uL]
      ·rw[List.getElem?_append_right (by omega),Nat.add_sub_cancel_left];exact hM
    ·obtain⟨C,N,rfl,rfl,sX⟩:=hj
     try simp only[go_sem,fx]
     refine mN hF ?_
     refine rn ?_
     exact⟨[(2,.ptr st.length 0 0 0),(3,.ptr (st.length+1) 0 0 0),(5,.int .i64 j1),(6,.ref true (st.length+2) 0 0 a0.rules.length),(7,.int .i64 (↑(k+1):Int))],⟨rfl,rfl,rfl,rfl,rfl,trivial⟩,C,N,rfl,rfl,sX⟩
   ·obtain⟨C,N,rfl,rfl,sX⟩:=hi
    subst hA;subst hB
    refine cf ?_
    refine X5 ?_
    exact⟨rfl,[(2,.ptr st.length 0 0 0),(3,.ptr (st.length+1) 0 0 0),(5,.int .i64 j1),(6,.ref true (st.length+2) 0 0 a0.rules.length)],⟨rfl,rfl,rfl,rfl,trivial⟩,C,N,rfl,by rw[Nat.sub_self,List.replicate_zero,List.append_nil],sX⟩
   obtain⟨C,N,rfl,rfl,sX⟩:=hj
   try simp only[go_sem,fx]
   refine mN hF ?_
   refine K6 (BF (E:=D6) (b:=1) (F0:=[(2,.ptr st.length 0 0 0),(3,.ptr (st.length+1) 0 0 0),(5,.int .i64 j1),(6,.ref true (st.length+2) 0 0 a0.rules.length)]) (F:=[(2,.ptr st.length 0 0 0),(3,.ptr (st.length+1) 0 0 0),(5,.int .i64 j1),(6,.sl false 1 24 (rows (slc 1 1 D6) (tf a0.rules.length a1.rules.length sbr)))]) (by decide) hsc sX sx (by subst hA;subst hB;simp) (fun _ _=>⟨.s,.s,.s,.s,trivial⟩) (fun _ _ u=>⟨.s,.s,.s,u,trivial⟩) (by simp) (by simp)) ?_
   rw[hvr]
   subst hA;subst hB
   obtain⟨v4,hvl,h⟩:=E4 h
   unfold nF at hvl
   obtain⟨hal,hvl⟩:=pe hvl
   obtain⟨SC,hvl⟩:=pe hvl
   have hvl:=Option.some.inj hvl
   obtain⟨sbl,TH⟩:∃f:Nat→Nat→Bool,f=fun(i j:Nat)=>(F5 n (Am.get a0.y9 i) (Am.get a1.y9 j)).getD false:=⟨_,rfl⟩
   rw[←TH]at hvl
   have LX:∀i j:Nat,i<a0.y9.length→j<a1.y9.length→F5 n (Am.get a0.y9 i) (Am.get a1.y9 j)=some (sbl i j):=fun i j hi hj=>by
    obtain⟨w,hw⟩:=Option.isSome_iff_exists.1 (List.all_eq_true.1 (List.all_eq_true.1 SC i (List.mem_range.2 hi)) j (List.mem_range.2 hj))
    rw[TH]
    show F5 n (Am.get a0.y9 i) (Am.get a1.y9 j)=some ((F5 n (Am.get a0.y9 i) (Am.get a1.y9 j)).getD false)
    rw[hw];rfl
   have hnl:a0.y9.length≤top:=by omega
   have fx:=fa fx (fa hal.1 hnl)
   refine rn ?_
   obtain⟨A,hA⟩:∃x,x=Ob.arr 0 5 0 [[.sl false 2 40 (rows w8.cells a0.hierarchy.types),.sl false 3 32 (rows y3.cells a0.hierarchy.B1),.sl false 10 152 (rows w4.cells a0.rules),.sl false 9 144 (rows x7.cells a0.y9),.sl false 2 32 (rows x5.cells a0.start.nodes)]]:=⟨_,rfl⟩
   obtain⟨B,hB⟩:∃x,x=Ob.arr 0 5 0 [[.sl false 2 40 (rows w8.cells a1.hierarchy.types),.sl false 3 32 (rows y3.cells a1.hierarchy.B1),.sl false 10 152 (rows w4.cells a1.rules),.sl false 9 144 (rows x7.cells a1.y9),.sl false 2 32 (rows x5.cells a1.start.nodes)]]:=⟨_,rfl⟩
   simp only[←hA, ←hB]
   refine nq (ρ:=Unit) (n:=a0.y9.length) (body:=fun _ (s:Unit)=>some (.nxt s)) (kk:=fun s=>some s) (s0:=()) (e:=())
    (fun(k:Nat) (_:Unit) F S=>∃C N,F=[(2,.ptr st.length 0 0 0),(3,.ptr (st.length+1) 0 0 0),(5,.int .i64 j1),(6,.sl false 1 24 (rows (slc 1 1 D6) v3)),(9,.ref true (st.length+2) 0 0 a0.y9.length),(10,.int .i64 (↑k:Int))]∧S=st++(some A::some B::some (.arr 0 1 24 (C++List.replicate (a0.y9.length-k) [.B3]))::N)∧yj (st.length+2) N D6 1 C (tf k a1.y9.length sbl))
    (fun(_:Unit) F S=>∃C N,F=[(2,.ptr st.length 0 0 0),(3,.ptr (st.length+1) 0 0 0),(5,.int .i64 j1),(6,.sl false 1 24 (rows (slc 1 1 D6) v3)),(9,.ref true (st.length+2) 0 0 a0.y9.length)]∧S=st++(some A::some B::some (.arr 0 1 24 C)::N)∧yj (st.length+2) N D6 1 C (tf a0.y9.length a1.y9.length sbl))
    (fun k s b hb=>⟨s,(Option.some.inj hb).symm⟩) (dO _ _) ⟨[],[],rfl,by simp,.nil⟩
    (fun k s s' fr S hk hb hi=>?_) (fun s fr S hi=>?_) (fun s F fr S hkk hj hF=>?_)
   ·obtain⟨C,N,rfl,rfl,sX⟩:=hi
    have hC:C.length=k:=by rw[sX.len,sx]
    have hw:wr .i64 ((↑k:Int)+1)=((k+1:Nat):Int):=wM hk hal.2.1
    have fx:=fa fx hw
    subst hA;subst hB
    refine ct ?_
    refine rn ?_
    refine mN (fr':=[(2,.ptr st.length 0 0 0),(3,.ptr (st.length+1) 0 0 0),(5,.int .i64 j1),(6,.sl false 1 24 (rows (slc 1 1 D6) v3)),(9,.ref true (st.length+2) 0 0 a0.y9.length),(10,.int .i64 (↑k:Int)),(11,.int .i64 ((0:Nat):Int))]) ⟨rfl,rfl,rfl,rfl,rfl,rfl,rfl,trivial⟩ ?_
    refine nq (ρ:=Unit) (n:=a1.y9.length) (body:=fun _ (s:Unit)=>some (.nxt s)) (kk:=fun s=>some s) (s0:=()) (e:=())
     (fun(j:Nat) (_:Unit) F S=>∃c M,F=[(2,.ptr st.length 0 0 0),(3,.ptr (st.length+1) 0 0 0),(5,.int .i64 j1),(6,.sl false 1 24 (rows (slc 1 1 D6) v3)),(9,.ref true (st.length+2) 0 0 a0.y9.length),(10,.int .i64 (↑k:Int)),(11,.int .i64 (↑j:Int))]∧S=st++(some (Ob.arr 0 5 0 [[.sl false 2 40 (rows w8.cells a0.hierarchy.types),.sl false 3 32 (rows y3.cells a0.hierarchy.B1),.sl false 10 152 (rows w4.cells a0.rules),.sl false 9 144 (rows x7.cells a0.y9),.sl false 2 32 (rows x5.cells a0.start.nodes)]])::some (Ob.arr 0 5 0 [[.sl false 2 40 (rows w8.cells a1.hierarchy.types),.sl false 3 32 (rows y3.cells a1.hierarchy.B1),.sl false 10 152 (rows w4.cells a1.rules),.sl false 9 144 (rows x7.cells a1.y9),.sl false 2 32 (rows x5.cells a1.start.nodes)]])::some (.arr 0 1 24 (C++[c]::List.replicate (a0.y9.length-(k+1)) [.B3]))::(N++M))∧
      ((j=0∧c= .B3∧M=[])∨0<j∧∃ro i g,ro=st.length+2+(N.length+i+1)∧c= .ref false ro g 0 j∧M[i]? =some (some (.arr g 1 1 (rows D6 (rf j (sbl k)))))))
     (fun(_:Unit) F S=>∃C N,F=[(2,.ptr st.length 0 0 0),(3,.ptr (st.length+1) 0 0 0),(5,.int .i64 j1),(6,.sl false 1 24 (rows (slc 1 1 D6) v3)),(9,.ref true (st.length+2) 0 0 a0.y9.length),(10,.int .i64 (↑k:Int))]∧S=st++(some (Ob.arr 0 5 0 [[.sl false 2 40 (rows w8.cells a0.hierarchy.types),.sl false 3 32 (rows y3.cells a0.hierarchy.B1),.sl false 10 152 (rows w4.cells a0.rules),.sl false 9 144 (rows x7.cells a0.y9),.sl false 2 32 (rows x5.cells a0.start.nodes)]])::some (Ob.arr 0 5 0 [[.sl false 2 40 (rows w8.cells a1.hierarchy.types),.sl false 3 32 (rows y3.cells a1.hierarchy.B1),.sl false 10 152 (rows w4.cells a1.rules),.sl false 9 144 (rows x7.cells a1.y9),.sl false 2 32 (rows x5.cells a1.start.nodes)]])::some (.arr 0 1 24 (C++List.replicate (a0.y9.length-(k+1)) [.B3]))::N)∧yj (st.length+2) N D6 1 C (tf (k+1) a1.y9.length sbl))
     (fun k s b hb=>⟨s,(Option.some.inj hb).symm⟩) (dO _ _) ⟨.B3,[],rfl,?_,.inl ⟨rfl,rfl,rfl⟩⟩
     (fun j s s' fr S hj hb hi=>?_) (fun s fr S hi=>?_) (fun s F fr S hkk hj hF=>?_)
    ·rw[show a0.y9.length-k=(a0.y9.length-(k+1))+1 by omega,List.replicate_succ];try simp
    ·obtain⟨c,M,rfl,rfl,hc⟩:=hi
     have hw2:wr .i64 ((↑j:Int)+1)=((j+1:Nat):Int):=wM hj (by omega)
     have hX1:∀c,(C++[c]::List.replicate (a0.y9.length-(k+1)) [D.B3]).length=a0.y9.length:=fun c=>by simp[hC];omega
     have hX2:∀c,(C++[c]::List.replicate (a0.y9.length-(k+1)) [D.B3]).getD k []=[c]:=fun c=>by rw[←hC];simp[List.getD_eq_getElem?_getD]
     have hX3:∀c x,(C++[c]::List.replicate (a0.y9.length-(k+1)) [D.B3]).set k x=C++x::List.replicate (a0.y9.length-(k+1)) [D.B3]:=fun c x=>by rw[←hC];simp
     have fx:=fa fx (fa hw2 (fa hX1 (fa hX2 (fa hX3 (fa hk hj)))))
     refine ct ?_
     refine r0 ?_
     obtain⟨S,hS⟩:∃x,x=st++(some (Ob.arr 0 5 0 [[.sl false 2 40 (rows w8.cells a0.hierarchy.types),.sl false 3 32 (rows y3.cells a0.hierarchy.B1),.sl false 10 152 (rows w4.cells a0.rules),.sl false 9 144 (rows x7.cells a0.y9),.sl false 2 32 (rows x5.cells a0.start.nodes)]])::some (Ob.arr 0 5 0 [[.sl false 2 40 (rows w8.cells a1.hierarchy.types),.sl false 3 32 (rows y3.cells a1.hierarchy.B1),.sl false 10 152 (rows w4.cells a1.rules),.sl false 9 144 (rows x7.cells a1.y9),.sl false 2 32 (rows x5.cells a1.start.nodes)]])::some (.arr 0 1 24 (C++[c]::List.replicate (a0.y9.length-(k+1)) [.B3]))::(N++M)):=⟨_,rfl⟩
     have la:Am.look S st.length=some (Ob.arr 0 5 0 [[.sl false 2 40 (rows w8.cells a0.hierarchy.types),.sl false 3 32 (rows y3.cells a0.hierarchy.B1),.sl false 10 152 (rows w4.cells a0.rules),.sl false 9 144 (rows x7.cells a0.y9),.sl false 2 32 (rows x5.cells a0.start.nodes)]]):=by rw[hS];simp[Am.look,List.getElem?_append_right]
     have lb:Am.look S (st.length+1)=some (Ob.arr 0 5 0 [[.sl false 2 40 (rows w8.cells a1.hierarchy.types),.sl false 3 32 (rows y3.cells a1.hierarchy.B1),.sl false 10 152 (rows w4.cells a1.rules),.sl false 9 144 (rows x7.cells a1.y9),.sl false 2 32 (rows x5.cells a1.start.nodes)]]):=by rw[hS];simp[Am.look,List.getElem?_append_right]
     have lt:Am.look S (st.length+2)=some (.arr 0 1 24 (C++[c]::List.replicate (a0.y9.length-(k+1)) [.B3])):=by rw[hS];simp[Am.look,List.getElem?_append_right]
     refine lZ hS ?_
     have fx:=fa fx (fa (idf (cE la)) (fa (idf (cE lb)) (fa (idf (cE lt)) (nd3 (a:=st.length) (b:=st.length+1) (c:=st.length+2) (by simp)))))
     rcases hc with⟨hj0,rfl,rfl⟩|⟨hj0,ro,i,g,hro,rfl,hM⟩
     ·refine lZ (s':=Z4 S [(st.length,.arr 0 5 0 [[.sl false 2 40 (rows w8.cells a0.hierarchy.types),.sl false 3 32 (rows y3.cells a0.hierarchy.B1),.sl false 10 152 (rows w4.cells a0.rules),.sl false 9 144 (rows x7.cells a0.y9),.sl false 2 32 (rows x5.cells a0.start.nodes)]]),(st.length+1,.arr 0 5 0 [[.sl false 2 40 (rows w8.cells a1.hierarchy.types),.sl false 3 32 (rows y3.cells a1.hierarchy.B1),.sl false 10 152 (rows w4.cells a1.rules),.sl false 9 144 (rows x7.cells a1.y9),.sl false 2 32 (rows x5.cells a1.start.nodes)]]),(st.length+2,.arr 0 1 24 (C++[.B3]::List.replicate (a0.y9.length-(k+1)) [.B3]))]) (N6 (by simp[la,lb,lt])) ?_
      (repeat apply gj);(repeat apply sq_);(try apply gj)
      refine dw [] 2 ?_
      refine A9 (eD n _ _ _ (LX k j hk hj)) ?_
      try simp only[go_sem,fx]
      refine rn ?_
      refine⟨[(2,.ptr st.length 0 0 0),(3,.ptr (st.length+1) 0 0 0),(5,.int .i64 j1),(6,.sl false 1 24 (rows (slc 1 1 D6) v3)),(9,.ref true (st.length+2) 0 0 a0.y9.length),(10,.int .i64 (↑k:Int)),(11,.int .i64 (↑(j+1):Int))],⟨rfl,rfl,rfl,rfl,rfl,rfl,rfl,trivial⟩,.ref false (S.length+1) 0 0 1,List.replicate 1 (some .resv)++[some (.arr 0 1 1 [[.bool (sbl k j)]])],rfl,(PD hS).trans (by rw[List.append_nil];rfl),.inr ⟨by omega,_,1,0,?_,by rw[hj0],?_⟩⟩
      ·rw[hS];simp;omega
      ·rw[hj0];rfl
     ·have lr:Am.look S ro=some (.arr g 1 1 (rows D6 (rf j (sbl k)))):=by
       rw[hS,hro];unfold Am.look
       rw[List.getElem?_append_right (by omega),show st.length+2+(N.length+i+1)-st.length=(N.length+i)+1+1+1 by omega]
       simp[List.getElem?_append_right,hM]
      have hr1:(rows D6 (rf j (sbl k))).length=j:=by rw[zV,uL]
      have hr2:(rows D6 (rf j (sbl k))).take j=rows D6 (rf j (sbl k)):=by rw[List.take_of_length_le];omega
      have hr3:j+1≤top:=by unfold top;omega
      have hr4:rows D6 (rf j (sbl k))++[[D.bool (sbl k j)]]=rows D6 (rf (j+1) (sbl k)):=Ip (E:=D6)
      have fx:=fa fx (fa (idf (cE lr)) (fa (nd4 (a:=st.length) (b:=st.length+1) (c:=st.length+2) (d:=ro) (by rw[hro];simp;omega)) (fa hr1 (fa hr2 (fa hr3 hr4)))))
      refine lZ (s':=Z4 S [(st.length,.arr 0 5 0 [[.sl false 2 40 (rows w8.cells a0.hierarchy.types),.sl false 3 32 (rows y3.cells a0.hierarchy.B1),.sl false 10 152 (rows w4.cells a0.rules),.sl false 9 144 (rows x7.cells a0.y9),.sl false 2 32 (rows x5.cells a0.start.nodes)]]),(st.length+1,.arr 0 5 0 [[.sl false 2 40 (rows w8.cells a1.hierarchy.types),.sl false 3 32 (rows y3.cells a1.hierarchy.B1),.sl false 10 152 (rows w4.cells a1.rules),.sl false 9 144 (rows x7.cells a1.y9),.sl false 2 32 (rows x5.cells a1.start.nodes)]]),(st.length+2,.arr 0 1 24 (C++[.ref false ro g 0 j]::List.replicate (a0.y9.length-(k+1)) [.B3])),(ro,.arr g 1 1 (rows D6 (rf j (sbl k))))]) (N6 (by simp[la,lb,lt,lr])) ?_
      (repeat apply gj);(repeat apply sq_);(try apply gj)
      refine dw [] 2 ?_
      refine A9 (eD n _ _ _ (LX k j hk hj)) ?_
      try simp only[go_sem,fx]
      refine⟨by omega,?_⟩
      refine rn ?_
      refine⟨[(2,.ptr st.length 0 0 0),(3,.ptr (st.length+1) 0 0 0),(5,.int .i64 j1),(6,.sl false 1 24 (rows (slc 1 1 D6) v3)),(9,.ref true (st.length+2) 0 0 a0.y9.length),(10,.int .i64 (↑k:Int)),(11,.int .i64 (↑(j+1):Int))],⟨rfl,rfl,rfl,rfl,rfl,rfl,rfl,trivial⟩,_,M.set i (some (.arr (g+1) 1 1 (rows D6 (rf (j+1) (sbl k)))))++List.replicate 2 (some .resv),rfl,?_,.inr ⟨by omega,ro,i,g+1,by omega,rfl,?_⟩⟩
      ·rw[hro];exact(PE hS).trans (by rw[Lx,List.append_assoc];rfl)
      ·have hi:i<M.length:=(List.getElem?_eq_some_iff.1 hM).1
       rw[List.getElem?_append_left (by simpa using hi),List.getElem?_set_self hi]
    ·obtain⟨c,M,rfl,rfl,hc⟩:=hi
     refine cf ?_
     refine X5 ?_
     refine⟨rfl,[(2,.ptr st.length 0 0 0),(3,.ptr (st.length+1) 0 0 0),(5,.int .i64 j1),(6,.sl false 1 24 (rows (slc 1 1 D6) v3)),(9,.ref true (st.length+2) 0 0 a0.y9.length),(10,.int .i64 (↑k:Int))],⟨rfl,rfl,rfl,rfl,rfl,rfl,trivial⟩,C++[[c]],N++M,rfl,by rw[List.append_assoc];rfl,?_⟩
     rw[←Im]
     refine sX.app.snoc ?_
     rcases hc with⟨h0,rfl,rfl⟩|⟨h0,ro,i,g,hro,rfl,hM⟩
     ·exact .inl ⟨rfl,by rw[h0];rfl⟩
     ·refine .inr ⟨N.length+i,g,?_,?_⟩
      ·rw[hro,uL]
      ·rw[List.getElem?_append_right (by omega),Nat.add_sub_cancel_left];exact hM
    ·obtain⟨C,N,rfl,rfl,sX⟩:=hj
     try simp only[go_sem,fx]
     refine mN hF ?_
     refine rn ?_
     exact⟨[(2,.ptr st.length 0 0 0),(3,.ptr (st.length+1) 0 0 0),(5,.int .i64 j1),(6,.sl false 1 24 (rows (slc 1 1 D6) v3)),(9,.ref true (st.length+2) 0 0 a0.y9.length),(10,.int .i64 (↑(k+1):Int))],⟨rfl,rfl,rfl,rfl,rfl,rfl,trivial⟩,C,N,rfl,rfl,sX⟩
   ·obtain⟨C,N,rfl,rfl,sX⟩:=hi
    subst hA;subst hB
    refine cf ?_
    refine X5 ?_
    exact⟨rfl,[(2,.ptr st.length 0 0 0),(3,.ptr (st.length+1) 0 0 0),(5,.int .i64 j1),(6,.sl false 1 24 (rows (slc 1 1 D6) v3)),(9,.ref true (st.length+2) 0 0 a0.y9.length)],⟨rfl,rfl,rfl,rfl,rfl,trivial⟩,C,N,rfl,by rw[Nat.sub_self,List.replicate_zero,List.append_nil],sX⟩
   obtain⟨C,N,rfl,rfl,sX⟩:=hj
   try simp only[go_sem,fx]
   refine mN hF ?_
   refine K6 (BF (E:=D6) (b:=1) (F0:=[(2,.ptr st.length 0 0 0),(3,.ptr (st.length+1) 0 0 0),(5,.int .i64 j1),(6,.sl false 1 24 (rows (slc 1 1 D6) v3)),(9,.ref true (st.length+2) 0 0 a0.y9.length)]) (F:=[(2,.ptr st.length 0 0 0),(3,.ptr (st.length+1) 0 0 0),(5,.int .i64 j1),(6,.sl false 1 24 (rows (slc 1 1 D6) v3)),(9,.sl false 1 24 (rows (slc 1 1 D6) (tf a0.y9.length a1.y9.length sbl)))]) (by decide) hsc sX sx (by subst hA;subst hB;simp) (fun _ _=>⟨.s,.s,.s,.s,.s,trivial⟩) (fun _ _ u=>⟨.s,.s,.s,.s,u,trivial⟩) (by simp) (by simp)) ?_
   rw[hvl]
   subst hA;subst hB
   refine rn ?_
   refine dw [] 0 ?_
   obtain⟨v5,hv5,h⟩:=E4 h
   refine A9 (gi n _ _ _ _ hv5) ?_
   try simp only[go_sem,fx]
   obtain⟨v6,hv6,h⟩:=E4 h
   refine A9 (gi n _ _ _ _ hv6) ?_
   try simp only[go_sem,fx]
   exact rt
  ·refine cd h (fun hc h=>?_) fun hc h=>?_
   ·refine r0 ?_
    refine hj1 () _ _ _ h ?_;exact(bm hsc)
   ·refine r0 ?_
    refine hj1 () _ _ _ h ?_;exact(bm hsc)
 ·refine cd h (fun hc h=>?_) fun hc h=>?_
  ·refine r0 ?_
   refine hj0 () _ _ _ h ?_;exact(bm hsc)
  ·refine r0 ?_
   refine hj0 () _ _ _ h ?_;exact(bm hsc)
end Go.Proofs.YtonfgoanbllceaaGreatDoor
