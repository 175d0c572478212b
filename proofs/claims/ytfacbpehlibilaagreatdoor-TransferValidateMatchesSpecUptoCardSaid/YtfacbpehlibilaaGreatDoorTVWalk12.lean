import Derived.Test.YtfacbpehlibilaaGreatDoorTVWalk11
set_option linter.unusedVariables false
set_option linter.unusedSimpArgs false
set_option maxHeartbeats 2000000
set_option maxRecDepth 100000
namespace Go.Proofs.YtfacbpehlibilaaGreatDoor
open Go Go.Am
theorem r9X(n:Nat)(a0:r5b)(a1:r4U)(r:Bool)(h:r6A n a0 a1=some r):Pure Tryz.prog gl 34 [.agg [.int .i64 a0.form.kind,.str a0.form.name,.sl false 1 16 (rows r4X a0.form.words),.sl false 4 72 (rows p6w.cells a0.form.subs),.sl false 1 16 (rows r4X a0.words),.sl false 1 16 (rows r4X a0.r5o),.sl false 1 16 (rows r4X a0.parts)],.agg [.int .i64 a1.kind,.str a1.name,.sl false 1 16 (rows r4X a1.words),.sl false 1 1 (rows u2l a1.bound),.int .i64 a1.end_]] (.bool r):=by
 intro st
 unfold r6A at h
 have fx:=trivial
 refine fb 22 [.tmp 4] [0,1,2,3,4,9,10,11,12,15,16,17,18,19,20] Tryz.func34 fun hsc=>?_
 refine rn ?_
 obtain⟨v1,hv1,h⟩:=r7G h
 refine u0C (fun hG=>(r6o n _ _ _ (w1s hv1 (by simpa using hG)))) ?_
 exact rt
theorem w1n(l:List r4U)(i:Nat):∀k,(r5N l i k).length≤k
 |0=>Nat.le_refl _
 |k+1=>by
  have:=w1n l i k
  rw[r5N]
  cases u5M l i k
  ·rw[cond_false];omega
  ·rw[cond_true,List.length_append]
   show _+1≤_
   omega
theorem x8C{st R L S:St}{a a':Ob}(hS:S=st++(some a'::R)):r5k S [(st.length,a)]++L=st++(some a::(R++L)):=by
 subst hS
 simp[r5k,List.set_append_right]
theorem x8D{st R L S:St}{a a' r:Ob}{i:Nat}(hS:S=st++(some a'::R)):r5k S [(st.length,a),(st.length+(i+1),r)]++L=st++(some a::(R.set i (some r)++L)):=by
 subst hS
 simp[r5k,List.set_append_right]
set_option maxHeartbeats 4000000 in
set_option maxRecDepth 100000 in
theorem w5i(a0:List r4U)(r:List (List Bs))(h:r7l a0=some r):Pure Tryz.prog gl 62 [.sl false 5 80 (rows r4U.cells a0)] (.sl false 1 24 (rows (slc 1 16 r4X) r)):=by
 intro st
 unfold r7l at h
 obtain⟨ha,h⟩:=x1I h
 have h:=Option.some.inj h
 have hn:a0.length≤top:=by unfold top;omega
 have fx:=fa ha.1 hn
 refine fb 58 [.tmp 2] [0,2,3,4,5,42,12,17,57] Tryz.func62 fun hsc=>?_
 refine rn ?_
 refine u5z (fr':=[(0,.sl false 5 80 (rows r4U.cells a0)),(3,.ref true st.length 0 0 a0.length),(4,.int .i64 ((0:Nat):Int))]) ⟨rfl,rfl,rfl,trivial⟩ ?_
 refine u6J (ρ:=Unit) (n:=a0.length) (body:=fun _ (s:Unit)=>some (.nxt s)) (kk:=fun s=>some s) (s0:=()) (e:=())
  (fun(k:Nat) (_:Unit) F S=>∃C N,F=[(0,.sl false 5 80 (rows r4U.cells a0)),(3,.ref true st.length 0 0 a0.length),(4,.int .i64 (↑k:Int))]∧S=st++(some (.arr 0 1 24 (C++List.replicate (a0.length-k) [.r5g]))::N)∧w3O st.length N r4X 16 C (rf k fun i=>r5N a0 i i))
  (fun(_:Unit) F S=>∃C N,F=[(3,.ref true st.length 0 0 a0.length)]∧S=st++(some (.arr 0 1 24 C)::N)∧w3O st.length N r4X 16 C (rf a0.length fun i=>r5N a0 i i))
  (fun k s b hb=>⟨s,(Option.some.inj hb).symm⟩) (u7Q _ _) ⟨[],[],rfl,by simp,.nil⟩
  (fun k s s' fr S hk hb hi=>?_) (fun s fr S hi=>?_) (fun s F fr S hkk hj hF=>?_)
 ·obtain⟨C,N,rfl,rfl,x4c⟩:=hi
  have hC:C.length=k:=by rw[x4c.len];simp[rf]
  have hw:wr .i64 ((↑k:Int)+1)=((k+1:Nat):Int):=w8t hk (by omega)
  have fx:=fa fx hw
  refine ct ?_
  refine rn ?_
  refine u5z (fr':=[(0,.sl false 5 80 (rows r4U.cells a0)),(3,.ref true st.length 0 0 a0.length),(4,.int .i64 (↑k:Int)),(5,.int .i64 ((0:Nat):Int))]) ⟨rfl,rfl,rfl,rfl,trivial⟩ ?_
  refine u6J (ρ:=Unit) (n:=k) (body:=fun _ (s:Unit)=>some (.nxt s)) (kk:=fun s=>some s) (s0:=()) (e:=())
   (fun(j:Nat) (_:Unit) F S=>∃c M,F=[(0,.sl false 5 80 (rows r4U.cells a0)),(3,.ref true st.length 0 0 a0.length),(4,.int .i64 (↑k:Int)),(5,.int .i64 (↑j:Int))]∧S=st++(some (.arr 0 1 24 (C++[c]::List.replicate (a0.length-(k+1)) [.r5g]))::(N++M))∧
    ((r5N a0 k j=[]∧c= .r5g∧M=[])∨∃ro i g,ro=st.length+(N.length+i+1)∧c= .ref false ro g 0 (r5N a0 k j).length∧M[i]? =some (some (.arr g 1 16 (rows r4X (r5N a0 k j))))))
   (fun(_:Unit) F S=>∃C N,F=[(0,.sl false 5 80 (rows r4U.cells a0)),(3,.ref true st.length 0 0 a0.length),(4,.int .i64 (↑k:Int))]∧S=st++(some (.arr 0 1 24 (C++List.replicate (a0.length-(k+1)) [.r5g]))::N)∧w3O st.length N r4X 16 C (rf (k+1) fun i=>r5N a0 i i))
   (fun k s b hb=>⟨s,(Option.some.inj hb).symm⟩) (u7Q _ _) ⟨.r5g,[],rfl,?_,.inl ⟨rfl,rfl,rfl⟩⟩
   (fun j s s' fr S hj hb hi=>?_) (fun s fr S hi=>?_) (fun s F fr S hkk hj hF=>?_)
  ·rw[show a0.length-k=(a0.length-(k+1))+1 by omega,List.replicate_succ];try simp
  ·obtain⟨c,M,rfl,rfl,hc⟩:=hi
   have hjn:j<a0.length:=by omega
   have hw2:wr .i64 ((↑j:Int)+1)=((j+1:Nat):Int):=w8t hj (by omega)
   have fx:=fa fx (fa hw2 (fa (rg r4U.cells a0 j hjn) hj))
   refine ct ?_
   refine rn ?_
   refine x5R rfl (fun ht=>?_) (fun ht=>?_)
   ·have hcc:u5M a0 k j=true:=ht
    have hR:r5N a0 k (j+1)=r5N a0 k j++[(Am.get a0 j).name]:=by rw[r5N,hcc,cond_true]
    have hRl:=w1n a0 k j
    have hX1:∀c,(C++[c]::List.replicate (a0.length-(k+1)) [D.r5g]).length=a0.length:=fun c=>by simp[hC];omega
    have hX2:∀c,(C++[c]::List.replicate (a0.length-(k+1)) [D.r5g]).getD k []=[c]:=fun c=>by rw[←hC];simp[List.getD_eq_getElem?_getD]
    have hX3:∀c x,(C++[c]::List.replicate (a0.length-(k+1)) [D.r5g]).set k x=C++x::List.replicate (a0.length-(k+1)) [D.r5g]:=fun c x=>by rw[←hC];simp
    have fx:=fa fx (fa hX1 (fa hX2 (fa hX3 hk)))
    obtain⟨S,hS⟩:∃x,x=st++(some (Ob.arr 0 1 24 (C++[c]::List.replicate (a0.length-(k+1)) [.r5g]))::(N++M)):=⟨_,rfl⟩
    have lt:Am.look S st.length=some (.arr 0 1 24 (C++[c]::List.replicate (a0.length-(k+1)) [.r5g])):=by rw[hS];simp[Am.look,List.getElem?_append_right]
    refine r8l hS ?_
    have fx:=fa fx (idf (r5h lt))
    rcases hc with⟨hr0,rfl,rfl⟩|⟨ro,i,g,hro,rfl,hM⟩
    ·refine r8l (s':=r5k S [(st.length,.arr 0 1 24 (C++[.r5g]::List.replicate (a0.length-(k+1)) [.r5g]))]) (r5p (by simp[lt])) ?_
     refine dw [] 2 ?_
     try simp only[go_sem,fx]
     refine rn ?_
     refine⟨[(0,.sl false 5 80 (rows r4U.cells a0)),(3,.ref true st.length 0 0 a0.length),(4,.int .i64 (↑k:Int)),(5,.int .i64 (↑(j+1):Int))],⟨rfl,rfl,rfl,rfl,trivial⟩,.ref false (S.length+1) 0 0 1,List.replicate 1 (some .resv)++[some (.arr 0 1 16 [[.str (Am.get a0 j).name]])],rfl,(x8C hS).trans (by rw[List.append_nil];rfl),.inr ⟨_,1,0,?_,by rw[hR,hr0];rfl,?_⟩⟩
     ·rw[hS];simp;omega
     ·rw[hR,hr0];rfl
    ·have lr:Am.look S ro=some (.arr g 1 16 (rows r4X (r5N a0 k j))):=by
      rw[hS,hro];unfold Am.look
      rw[List.getElem?_append_right (by omega),show st.length+(N.length+i+1)-st.length=(N.length+i)+1 by omega]
      simp[List.getElem?_append_right,hM]
     have hr1:(rows r4X (r5N a0 k j)).length=(r5N a0 k j).length:=u6P ..
     have hr2:(rows r4X (r5N a0 k j)).take (r5N a0 k j).length=rows r4X (r5N a0 k j):=by rw[List.take_of_length_le];omega
     have hr3:(r5N a0 k j).length+1≤top:=by unfold top;omega
     have hr5:((r5N a0 k j).length+1)*16≤top:=by unfold top;omega
     have hr4:rows r4X (r5N a0 k j)++[[D.str (Am.get a0 j).name]]=rows r4X (r5N a0 k j++[(Am.get a0 j).name]):=by simp[rows];rfl
     have fx:=fa fx (fa (idf (r5h lr)) (fa (nd2 (a:=st.length) (b:=ro) (by rw[hro,List.nodup_cons];exact⟨fun e=>by rw[List.mem_singleton]at e;omega,by simp⟩)) (fa hr1 (fa hr2 (fa hr3 (fa hr5 hr4))))))
     refine r8l (s':=r5k S [(st.length,.arr 0 1 24 (C++[.ref false ro g 0 (r5N a0 k j).length]::List.replicate (a0.length-(k+1)) [.r5g])),(ro,.arr g 1 16 (rows r4X (r5N a0 k j)))]) (r5p (by simp[lt,lr])) ?_
     refine dw [] 2 ?_
     try simp only[go_sem,fx]
     refine rn ?_
     refine⟨[(0,.sl false 5 80 (rows r4U.cells a0)),(3,.ref true st.length 0 0 a0.length),(4,.int .i64 (↑k:Int)),(5,.int .i64 (↑(j+1):Int))],⟨rfl,rfl,rfl,rfl,trivial⟩,_,M.set i (some (.arr (g+1) 1 16 (rows r4X (r5N a0 k (j+1)))))++List.replicate 2 (some .resv),rfl,?_,.inr ⟨ro,i,g+1,by omega,by rw[hR,List.length_append],?_⟩⟩
     ·rw[hro,hR];exact(x8D hS).trans (by rw[x7A,List.append_assoc];rfl)
     ·have hi:i<M.length:=(List.getElem?_eq_some_iff.1 hM).1
      rw[List.getElem?_append_left (by simpa using hi),List.getElem?_set_self hi]
   ·have hcc:u5M a0 k j=false:=ht
    have hR:r5N a0 k (j+1)=r5N a0 k j:=by rw[r5N,hcc,cond_false]
    refine rn ?_
    exact⟨[(0,.sl false 5 80 (rows r4U.cells a0)),(3,.ref true st.length 0 0 a0.length),(4,.int .i64 (↑k:Int)),(5,.int .i64 (↑(j+1):Int))],⟨rfl,rfl,rfl,rfl,trivial⟩,c,M,rfl,rfl,by rw[hR];exact hc⟩
  ·obtain⟨c,M,rfl,rfl,hc⟩:=hi
   refine cf ?_
   refine u2n ?_
   refine⟨rfl,[(0,.sl false 5 80 (rows r4U.cells a0)),(3,.ref true st.length 0 0 a0.length),(4,.int .i64 (↑k:Int))],⟨rfl,rfl,rfl,trivial⟩,C++[[c]],N++M,rfl,by rw[List.append_assoc];rfl,?_⟩
   rw[x4K]
   refine x4c.app.snoc ?_
   rcases hc with⟨h0,rfl,rfl⟩|⟨ro,i,g,hro,rfl,hM⟩
   ·exact .inl ⟨rfl,h0⟩
   ·refine .inr ⟨N.length+i,g,?_,?_⟩
    ·rw[hro]
    ·rw[List.getElem?_append_right (by omega),Nat.add_sub_cancel_left];exact hM
  ·obtain⟨C,N,rfl,rfl,x4c⟩:=hj
   try simp only[go_sem,fx]
   refine u5z hF ?_
   refine rn ?_
   exact⟨[(0,.sl false 5 80 (rows r4U.cells a0)),(3,.ref true st.length 0 0 a0.length),(4,.int .i64 (↑(k+1):Int))],⟨rfl,rfl,rfl,trivial⟩,C,N,rfl,rfl,x4c⟩
 ·obtain⟨C,N,rfl,rfl,x4c⟩:=hi
  refine cf ?_
  refine u2n ?_
  exact⟨rfl,[(3,.ref true st.length 0 0 a0.length)],⟨rfl,trivial⟩,C,N,rfl,by rw[Nat.sub_self,List.replicate_zero,List.append_nil],x4c⟩
 obtain⟨C,N,rfl,rfl,x4c⟩:=hj
 try simp only[go_sem,fx]
 refine u5z hF ?_
 refine r6O (w9Y (E:=r4X) (b:=16) (F0:=[(3,.ref true st.length 0 0 a0.length)]) (F:=[(3,.sl false 1 24 (rows (slc 1 16 r4X) (rf a0.length fun i=>r5N a0 i i)))]) (by decide) hsc x4c (by simp[rf]) (fun _ _=>⟨.s,trivial⟩) (fun _ _ u=>⟨u,trivial⟩) (by simp) (by simp)) ?_
 rw[h]
 have h:some r=some r:=rfl
 exact rt
theorem u4s(n:Nat)(a0:r4V)(r:Bool)(h:r7k n a0=some r):Pure Tryz.prog gl 37 [.agg [.int .i64 a0.from_.form.kind,.str a0.from_.form.name,.sl false 1 16 (rows r4X a0.from_.form.words),.sl false 4 72 (rows p6w.cells a0.from_.form.subs),.sl false 1 16 (rows r4X a0.from_.words),.sl false 1 16 (rows r4X a0.from_.r5o),.sl false 1 16 (rows r4X a0.from_.parts),.int .i64 a0.to_.kind,.str a0.to_.name,.sl false 1 16 (rows r4X a0.to_.words),.sl false 4 72 (rows p6w.cells a0.to_.subs)]] (.bool r):=by
 intro st
 unfold r7k at h
 have fx:=trivial
 refine fb 113 [.tmp 2] [0,1,2,3,4,5,6,7,8,9,10,11,26,32,42,43,44,45,46,47,48,60,68,76,80,91,92,93,94,95,96,97,98,99,100,101,104,105,106,107,108,109,110,111,112] Tryz.func37 fun hsc=>?_
 refine rn ?_
 refine dw [] 0 ?_
 obtain⟨v1,hv1,h⟩:=r7G h
 refine r8U ((r7A n _ _ _ hv1).up (fun _=>(.cons _ _ _ _ .s (.cons _ _ _ _ .s (.cons _ _ _ _ (.r5g _ _ _ (by decide)) .nil)))) (.inr fun n=>by simp)) ?_
 try simp only[go_sem,fx]
 obtain⟨v2,hv2,h⟩:=r7G h
 refine r8U ((r7A n _ _ _ hv2).up (fun _=>(.cons _ _ _ _ .s (.cons _ _ _ _ .s (.cons _ _ _ _ (.r5g _ _ _ (by decide)) .nil)))) (.inr fun n=>by simp)) ?_
 try simp only[go_sem,fx]
 refine cl h (w5i _) fun v3 h=>?_
 refine cl h (w5i _) fun v4 h=>?_
 refine rn ?_
 refine r5M (body:=r6B n v2 v1 v4 a0 v3) (kk:=r7x) (n:=n) (s0:=0)
  (fun(gs0:Unit) (s0:Int)=>[(1,.ptr st.length 0 0 0),(3,.sl false 5 80 (rows r4U.cells v1)),(4,.sl false 5 80 (rows r4U.cells v2)),(5,.sl false 1 24 (rows (slc 1 16 r4X) v3)),(6,.sl false 1 24 (rows (slc 1 16 r4X) v4)),(7,.int .i64 s0)])
  (fun(gs0:Unit) (s0:Int)=>st++[some (.arr 0 11 0 [[.int .i64 a0.from_.form.kind,.str a0.from_.form.name,.sl false 1 16 (rows r4X a0.from_.form.words),.sl false 4 72 (rows p6w.cells a0.from_.form.subs),.sl false 1 16 (rows r4X a0.from_.words),.sl false 1 16 (rows r4X a0.from_.r5o),.sl false 1 16 (rows r4X a0.from_.parts),.int .i64 a0.to_.kind,.str a0.to_.name,.sl false 1 16 (rows r4X a0.to_.words),.sl false 4 72 (rows p6w.cells a0.to_.subs)]])])
  (fun(gt0:Unit) (t0:Unit)=>[])
  (fun(gt0:Unit) (t0:Unit)=>st)
  () h (bm hsc)
  (fun gs0 s0 b0 h hx0=>?_) (fun gt0 t0 fr1 st1 h hb=>?_)
 ·unfold r6B at h
  refine cd h (fun hc h=>?_) fun hc h=>?_
  ·refine rn ?_
   refine r5M (body:=r6C n v1 s0 v4 v2 a0 v3) (kk:=r7w s0) (n:=n) (s0:=0)
    (fun(gs4:Unit) (s4:Int)=>[(1,.ptr st.length 0 0 0),(3,.sl false 5 80 (rows r4U.cells v1)),(4,.sl false 5 80 (rows r4U.cells v2)),(5,.sl false 1 24 (rows (slc 1 16 r4X) v3)),(6,.sl false 1 24 (rows (slc 1 16 r4X) v4)),(7,.int .i64 s0),(8,.int .i64 s4)])
    (fun(gs4:Unit) (s4:Int)=>st++[some (.arr 0 11 0 [[.int .i64 a0.from_.form.kind,.str a0.from_.form.name,.sl false 1 16 (rows r4X a0.from_.form.words),.sl false 4 72 (rows p6w.cells a0.from_.form.subs),.sl false 1 16 (rows r4X a0.from_.words),.sl false 1 16 (rows r4X a0.from_.r5o),.sl false 1 16 (rows r4X a0.from_.parts),.int .i64 a0.to_.kind,.str a0.to_.name,.sl false 1 16 (rows r4X a0.to_.words),.sl false 4 72 (rows p6w.cells a0.to_.subs)]])])
    (fun(gt4:Unit) (t4:Unit)=>[(1,.ptr st.length 0 0 0),(3,.sl false 5 80 (rows r4U.cells v1)),(4,.sl false 5 80 (rows r4U.cells v2)),(5,.sl false 1 24 (rows (slc 1 16 r4X) v3)),(6,.sl false 1 24 (rows (slc 1 16 r4X) v4)),(7,.int .i64 s0)])
    (fun(gt4:Unit) (t4:Unit)=>st++[some (.arr 0 11 0 [[.int .i64 a0.from_.form.kind,.str a0.from_.form.name,.sl false 1 16 (rows r4X a0.from_.form.words),.sl false 4 72 (rows p6w.cells a0.from_.form.subs),.sl false 1 16 (rows r4X a0.from_.words),.sl false 1 16 (rows r4X a0.from_.r5o),.sl false 1 16 (rows r4X a0.from_.parts),.int .i64 a0.to_.kind,.str a0.to_.name,.sl false 1 16 (rows r4X a0.to_.words),.sl false 4 72 (rows p6w.cells a0.to_.subs)]])])
    () h (bm hsc)
    (fun gs4 s4 b4 h hx4=>?_) (fun gt4 t4 fr1 st1 h hb=>?_)
   ·unfold r6C at h
    refine cd h (fun hc h=>?_) fun hc h=>?_
    ·obtain⟨fx,h⟩:=ck fx h
     refine cd h (fun hc h=>?_) fun hc h=>?_
     ·refine rn ?_
      cases h
      exact r6h () (bm hsc)
     ·obtain⟨fx,h⟩:=ck fx h
      refine cl h (r6o n _ _) fun v60 h=>?_
      refine cd h (fun hc h=>?_) fun hc h=>?_
      ·refine rn ?_
       cases h
       exact r6h () (bm hsc)
      ·obtain⟨fx,h⟩:=ck fx h
       refine cl h (r6o n _ _) fun v62 h=>?_
       refine cd h (fun hc h=>?_) fun hc h=>?_
       ·refine ra ?_
        cases h
        refine u0d ?_;obtain rfl:=hx4 _ rfl;try simp only[go_sem,fx]
        refine u0d ?_;have h:=congrArg some (hx0 _ rfl)
        exact rt
       ·refine rn ?_
        refine dw [] 0 ?_
        obtain⟨v63,hv63,h⟩:=r7G h
        refine r8U (r9X n _ _ _ hv63) ?_
        try simp only[go_sem,fx]
        refine cd h (fun hc h=>?_) fun hc h=>?_
        ·refine rn ?_
         cases h
         exact r6h () (bm hsc)
        ·refine rn ?_
         refine r5M (body:=r6D n v1 a0 v2 s0 v3 s4) (kk:=r7v s4) (n:=n) (s0:=(true,0))
          (fun(gs6:Unit) (s6:Bool×Int)=>[(1,.ptr st.length 0 0 0),(3,.sl false 5 80 (rows r4U.cells v1)),(4,.sl false 5 80 (rows r4U.cells v2)),(5,.sl false 1 24 (rows (slc 1 16 r4X) v3)),(6,.sl false 1 24 (rows (slc 1 16 r4X) v4)),(7,.int .i64 s0),(8,.int .i64 s4),(9,.str ((get v1 s4.toNat).name)),(10,.bool s6.1),(11,.int .i64 s6.2)])
          (fun(gs6:Unit) (s6:Bool×Int)=>st++[some (.arr 0 11 0 [[.int .i64 a0.from_.form.kind,.str a0.from_.form.name,.sl false 1 16 (rows r4X a0.from_.form.words),.sl false 4 72 (rows p6w.cells a0.from_.form.subs),.sl false 1 16 (rows r4X a0.from_.words),.sl false 1 16 (rows r4X a0.from_.r5o),.sl false 1 16 (rows r4X a0.from_.parts),.int .i64 a0.to_.kind,.str a0.to_.name,.sl false 1 16 (rows r4X a0.to_.words),.sl false 4 72 (rows p6w.cells a0.to_.subs)]])])
          (fun(gt6:Unit) (t6:Bool)=>[(1,.ptr st.length 0 0 0),(3,.sl false 5 80 (rows r4U.cells v1)),(4,.sl false 5 80 (rows r4U.cells v2)),(5,.sl false 1 24 (rows (slc 1 16 r4X) v3)),(6,.sl false 1 24 (rows (slc 1 16 r4X) v4)),(7,.int .i64 s0),(8,.int .i64 s4),(10,.bool t6)])
          (fun(gt6:Unit) (t6:Bool)=>st++[some (.arr 0 11 0 [[.int .i64 a0.from_.form.kind,.str a0.from_.form.name,.sl false 1 16 (rows r4X a0.from_.form.words),.sl false 4 72 (rows p6w.cells a0.from_.form.subs),.sl false 1 16 (rows r4X a0.from_.words),.sl false 1 16 (rows r4X a0.from_.r5o),.sl false 1 16 (rows r4X a0.from_.parts),.int .i64 a0.to_.kind,.str a0.to_.name,.sl false 1 16 (rows r4X a0.to_.words),.sl false 4 72 (rows p6w.cells a0.to_.subs)]])])
          () h (bm hsc)
          (fun gs6 s6 b6 h hx6=>?_) (fun gt6 t6 fr1 st1 h hb=>?_)
         ·unfold r6D at h
          refine cd h (fun hc h=>?_) fun hc h=>?_
          ·refine rn ?_
           obtain⟨fx,h⟩:=ck fx h
           refine dw [] 0 ?_
           obtain⟨v71,hv71,h⟩:=r7G h
           refine r8U (r9X n _ _ _ hv71) ?_
           obtain⟨fx,h⟩:=ck fx h
           try simp only[go_sem,fx]
           obtain⟨v74,hv74,h⟩:=r7G h
           refine w2R (fun hG=>(r6o n _ _ _ (w1s hv74 (by simpa using hG)))) ?_
           try simp only[go_sem,fx]
           refine cd h (fun hc h=>?_) fun hc h=>?_
           ·refine rn ?_
            cases h
            exact r6h () (bm hsc)
           ·refine rn ?_
            cases h
            exact r6h () (bm hsc)
          ·refine rn ?_
           cases h
           exact r7i () (bm hsc)
         ·try simp only[go_sem,fx]
          unfold r7v at h
          refine r6O hb ?_
          refine cd h (fun hc h=>?_) fun hc h=>?_
          ·refine ra ?_
           cases h
           refine u0d ?_;obtain rfl:=hx4 _ rfl;try simp only[go_sem,fx]
           refine u0d ?_;have h:=congrArg some (hx0 _ rfl)
           exact rt
          ·refine rn ?_
           cases h
           exact r6h () (bm hsc)
    ·refine rn ?_
     cases h
     exact r7i () (bm hsc)
   ·try simp only[go_sem,fx]
    unfold r7w at h
    refine r6O hb ?_
    refine rn ?_
    cases h
    exact r6h () (bm hsc)
  ·refine rn ?_
   cases h
   exact r7i () (bm0 hsc)
 ·try simp only[go_sem,fx]
  unfold r7x at h
  refine r6O hb ?_
  exact rt
theorem u3f(n:Nat)(a0:(List r4V))(r:r5d)(h:r6u n a0=some r):Pure Tryz.prog gl 12 [.sl false 11 216 (rows r4V.cells a0)] (.agg [.int .i64 r.code,.int .i64 r.index]):=by
 intro st
 unfold r6u at h
 have fx:=trivial
 refine u6K ?_;refine fb 117 [.cell 2 25] [0,2,3,4,5,6,7,8,11,16,28,37,41,47,55,65,66,67,68,69,70,71,81,82,83,84,85,86,87,88,89,90,91,105,106,107,111] Tryz.func12 fun hsc=>?_
 refine cd h (fun hc h=>?_) fun hc h=>?_
 ·exact rt
 ·refine rn ?_
  refine r5M (body:=r6f n a0) (kk:=r6M) (n:=n) (s0:=0)
   (fun(gs0:Unit) (s0:Int)=>[(0,.sl false 11 216 (rows r4V.cells a0)),(2,.ptr st.length 0 0 0),(3,.int .i64 s0)])
   (fun(gs0:Unit) (s0:Int)=>st++[some (.arr 0 2 0 [[.int .i64 0,.int .i64 0]])])
   (fun(gt0:Unit) (t0:Unit)=>[(2,.ptr st.length 0 0 0)])
   (fun(gt0:Unit) (t0:Unit)=>st++[some (.arr 0 2 0 [[.int .i64 0,.int .i64 0]])])
   () h (bm hsc)
   (fun gs0 s0 b0 h hx0=>?_) (fun gt0 t0 fr1 st1 h hb=>?_)
  ·unfold r6f at h
   refine cd h (fun hc h=>?_) fun hc h=>?_
   ·obtain⟨fx,h⟩:=ck fx h
    refine rn ?_
    obtain⟨v58,hv58,h⟩:=r7G h
    refine(u2x (u3H n _ _ hv58)).to ?_
    refine rn ?_
    refine r9E (r5v n a0 s0 v58) b0 (fun(gj6:Unit) (j6:Int)=>[(0,.sl false 11 216 (rows r4V.cells a0)),(2,.ptr st.length 0 0 0),(3,.int .i64 s0),(4,.ptr (st.length+1) 0 0 0),(5,.ptr (st.length+2) 0 0 0)]) (fun(gj6:Unit) (j6:Int)=>st++[some (.arr 0 2 0 [[.int .i64 0,.int .i64 0]]),some (.arr 0 11 0 [[.int .i64 ((get a0 s0.toNat).from_.form.kind),.str ((get a0 s0.toNat).from_.form.name),.sl false 1 16 (rows r4X ((get a0 s0.toNat).from_.form.words)),.sl false 4 72 (rows p6w.cells ((get a0 s0.toNat).from_.form.subs)),.sl false 1 16 (rows r4X ((get a0 s0.toNat).from_.words)),.sl false 1 16 (rows r4X ((get a0 s0.toNat).from_.r5o)),.sl false 1 16 (rows r4X ((get a0 s0.toNat).from_.parts)),.int .i64 ((get a0 s0.toNat).to_.kind),.str ((get a0 s0.toNat).to_.name),.sl false 1 16 (rows r4X ((get a0 s0.toNat).to_.words)),.sl false 4 72 (rows p6w.cells ((get a0 s0.toNat).to_.subs))]]),some (.arr 0 2 0 [[.int .i64 j6,.int .i64 v58.index]])]) (fun gj6 j6 fr1 st1 h hb=>?_) (fun hj6=>?_)
    ·try simp only[go_sem,fx]
     unfold r5v at h
     refine r6O hb ?_
     refine rn ?_
     refine r9E (r5C n a0 s0) b0 (fun(gj7:Unit) (j7:Int×Int)=>[(0,.sl false 11 216 (rows r4V.cells a0)),(2,.ptr st.length 0 0 0),(3,.int .i64 s0),(4,.ptr (st.length+1) 0 0 0),(5,.ptr (st.length+2) 0 0 0)]) (fun(gj7:Unit) (j7:Int×Int)=>st++[some (.arr 0 2 0 [[.int .i64 0,.int .i64 0]]),some (.arr 0 11 0 [[.int .i64 ((get a0 s0.toNat).from_.form.kind),.str ((get a0 s0.toNat).from_.form.name),.sl false 1 16 (rows r4X ((get a0 s0.toNat).from_.form.words)),.sl false 4 72 (rows p6w.cells ((get a0 s0.toNat).from_.form.subs)),.sl false 1 16 (rows r4X ((get a0 s0.toNat).from_.words)),.sl false 1 16 (rows r4X ((get a0 s0.toNat).from_.r5o)),.sl false 1 16 (rows r4X ((get a0 s0.toNat).from_.parts)),.int .i64 ((get a0 s0.toNat).to_.kind),.str ((get a0 s0.toNat).to_.name),.sl false 1 16 (rows r4X ((get a0 s0.toNat).to_.words)),.sl false 4 72 (rows p6w.cells ((get a0 s0.toNat).to_.subs))]]),some (.arr 0 2 0 [[.int .i64 j7.1,.int .i64 j7.2]])]) (fun gj7 j7 fr1 st1 h hb=>?_) (fun hj7=>?_)
     ·try simp only[go_sem,fx]
      unfold r5C at h
      refine r6O hb ?_
      refine rn ?_
      refine r9E (r5B n a0 s0) b0 (fun(gj8:Unit) (j8:Int)=>[(0,.sl false 11 216 (rows r4V.cells a0)),(2,.ptr st.length 0 0 0),(3,.int .i64 s0),(4,.ptr (st.length+1) 0 0 0),(5,.ptr (st.length+2) 0 0 0)]) (fun(gj8:Unit) (j8:Int)=>st++[some (.arr 0 2 0 [[.int .i64 0,.int .i64 0]]),some (.arr 0 11 0 [[.int .i64 ((get a0 s0.toNat).from_.form.kind),.str ((get a0 s0.toNat).from_.form.name),.sl false 1 16 (rows r4X ((get a0 s0.toNat).from_.form.words)),.sl false 4 72 (rows p6w.cells ((get a0 s0.toNat).from_.form.subs)),.sl false 1 16 (rows r4X ((get a0 s0.toNat).from_.words)),.sl false 1 16 (rows r4X ((get a0 s0.toNat).from_.r5o)),.sl false 1 16 (rows r4X ((get a0 s0.toNat).from_.parts)),.int .i64 ((get a0 s0.toNat).to_.kind),.str ((get a0 s0.toNat).to_.name),.sl false 1 16 (rows r4X ((get a0 s0.toNat).to_.words)),.sl false 4 72 (rows p6w.cells ((get a0 s0.toNat).to_.subs))]]),some (.arr 0 2 0 [[.int .i64 j8,.int .i64 j7.2]])]) (fun gj8 j8 fr1 st1 h hb=>?_) (fun hj8=>?_)
      ·try simp only[go_sem,fx]
       unfold r5B at h
       refine r6O hb ?_
       refine rn ?_
       obtain⟨v111,hv111,h⟩:=r7G h
       refine u0C (fun hG=>(u2x (u4s n _ _ (w1s hv111 (by simpa using hG))))) ?_
       refine rn ?_
       refine r9E (r5G s0) b0 (fun(x8E:Unit) (j10:Int)=>[(0,.sl false 11 216 (rows r4V.cells a0)),(2,.ptr st.length 0 0 0),(3,.int .i64 s0),(5,.ptr (st.length+2) 0 0 0)]) (fun(x8E:Unit) (j10:Int)=>st++[some (.arr 0 2 0 [[.int .i64 0,.int .i64 0]]),none,some (.arr 0 2 0 [[.int .i64 j10,.int .i64 j7.2]])]) (fun x8E j10 fr1 st1 h hb=>?_) (fun x3s=>?_)
       ·try simp only[go_sem,fx]
        unfold r5G at h
        refine r6O hb ?_
        refine cd h (fun hc h=>?_) fun hc h=>?_
        ·refine ra ?_
         cases h
         refine u0d ?_;have h:=congrArg some (hx0 _ rfl)
         exact rt
        ·refine rn ?_
         cases h
         exact r6h () (bm hsc)
       ·refine cd h (fun hc h=>?_) fun hc h=>?_
        ·refine r0 ?_
         refine x3s () _ _ _ h ?_;exact(bm hsc)
        ·refine r0 ?_
         refine x3s () _ _ _ h ?_;exact(bm hsc)
      ·refine cd h (fun hc h=>?_) fun hc h=>?_
       ·refine rn ?_
        obtain⟨v63,hv63,h⟩:=r7G h
        refine(u2x ((r7A n _ _ _ hv63).up (fun _=>(.cons _ _ _ _ .s (.cons _ _ _ _ .s (.cons _ _ _ _ (.r5g _ _ _ (by decide)) .nil)))) (.inr fun n=>by simp))).to ?_
        refine rn ?_
        refine r5M (body:=r6g n v63 a0 s0) (kk:=r6L n a0 s0) (n:=n) (s0:=(j7.1,[],0))
         (fun(gs9:Nat) (s9:Int×(List Bs)×Int)=>[(0,.sl false 11 216 (rows r4V.cells a0)),(2,.ptr st.length 0 0 0),(3,.int .i64 s0),(4,.ptr (st.length+1) 0 0 0),(5,.ptr (st.length+2) 0 0 0),(6,.sl false 5 80 (rows r4U.cells v63)),(7,.ref false (st.length+3) gs9 0 s9.2.1.length),(8,.int .i64 s9.2.2)])
         (fun(gs9:Nat) (s9:Int×(List Bs)×Int)=>st++[some (.arr 0 2 0 [[.int .i64 0,.int .i64 0]]),some (.arr 0 11 0 [[.int .i64 ((get a0 s0.toNat).from_.form.kind),.str ((get a0 s0.toNat).from_.form.name),.sl false 1 16 (rows r4X ((get a0 s0.toNat).from_.form.words)),.sl false 4 72 (rows p6w.cells ((get a0 s0.toNat).from_.form.subs)),.sl false 1 16 (rows r4X ((get a0 s0.toNat).from_.words)),.sl false 1 16 (rows r4X ((get a0 s0.toNat).from_.r5o)),.sl false 1 16 (rows r4X ((get a0 s0.toNat).from_.parts)),.int .i64 ((get a0 s0.toNat).to_.kind),.str ((get a0 s0.toNat).to_.name),.sl false 1 16 (rows r4X ((get a0 s0.toNat).to_.words)),.sl false 4 72 (rows p6w.cells ((get a0 s0.toNat).to_.subs))]]),some (.arr 0 2 0 [[.int .i64 s9.1,.int .i64 j7.2]]),some (.arr gs9 1 16 (rows r4X s9.2.1))])
         (fun(gt9:Unit) (t9:Int)=>[(0,.sl false 11 216 (rows r4V.cells a0)),(2,.ptr st.length 0 0 0),(3,.int .i64 s0),(4,.ptr (st.length+1) 0 0 0),(5,.ptr (st.length+2) 0 0 0)])
         (fun(gt9:Unit) (t9:Int)=>st++[some (.arr 0 2 0 [[.int .i64 0,.int .i64 0]]),some (.arr 0 11 0 [[.int .i64 ((get a0 s0.toNat).from_.form.kind),.str ((get a0 s0.toNat).from_.form.name),.sl false 1 16 (rows r4X ((get a0 s0.toNat).from_.form.words)),.sl false 4 72 (rows p6w.cells ((get a0 s0.toNat).from_.form.subs)),.sl false 1 16 (rows r4X ((get a0 s0.toNat).from_.words)),.sl false 1 16 (rows r4X ((get a0 s0.toNat).from_.r5o)),.sl false 1 16 (rows r4X ((get a0 s0.toNat).from_.parts)),.int .i64 ((get a0 s0.toNat).to_.kind),.str ((get a0 s0.toNat).to_.name),.sl false 1 16 (rows r4X ((get a0 s0.toNat).to_.words)),.sl false 4 72 (rows p6w.cells ((get a0 s0.toNat).to_.subs))]]),some (.arr 0 2 0 [[.int .i64 t9,.int .i64 j7.2]])])
         0 h (bm hsc (hu:=(.lv (.lv (.lv (.live _ _ _ _ (by simp only[go_sem,rows,List.map_cons,List.map_nil];exact .same _) (.nil _)))))))
         (fun gs9 s9 b9 h hx9=>?_) (fun gt9 t9 fr1 st1 h hb=>?_)
        ·unfold r6g at h
         refine cd h (fun hc h=>?_) fun hc h=>?_
         ·obtain⟨fx,h⟩:=ck fx h
          refine cd h (fun hc h=>?_) fun hc h=>?_
          ·refine rn ?_
           cases h
           exact r6h gs9 (bm hsc)
          ·refine rn ?_
           refine dw [6] 0 ?_
           obtain⟨v97,hv97,h⟩:=r7G h
           refine u2j [(st.length+3)] (fun st2 h2=>(u9N (u1B n _ _ _ hv97 st2 _ gs9 (by simp) ((h2 _ (by simp)).trans (u4b.trans rfl))))) (by simp) (by simp only[List.mem_cons,List.not_mem_nil,or_false,forall_eq_or_imp,forall_eq];exact⟨by first|omega|(simp<;>omega),_,(u4b.trans rfl),Ob.noConfusion⟩) (by simp) ?_
           try simp only[go_sem,fx]
           obtain⟨v98,hv98,h⟩:=r7G h
           refine w2R (fun hG=>(u2x (r6o n _ _ _ (w1s hv98 (by simpa using hG))))) ?_
           try simp only[go_sem,fx]
           try refine⟨by first|omega|(simp<;>omega),?_⟩
           refine cd h (fun hc h=>?_) fun hc h=>?_
           ·refine r0 ?_
            obtain⟨c100,x8F,h⟩:=u2v h
            have fy:=(show rows r4X s9.2.1++[[.str ((get v63 s9.2.2.toNat).name)]]=rows r4X c100 from by rw[x8F];first|exact r5y (E:=r4X) s9.2.1 [(get v63 s9.2.2.toNat).name]|simp only[go_sem,rows,List.map_append,List.map_cons,List.map_nil])
            have fy:=fa fy (show s9.2.1.length+1=c100.length from by rw[x8F];simp)
            obtain⟨fx,h⟩:=ck fx h
            refine r1 ?_
            refine rn ?_
            cases h
            exact r6h (gs9+1) (bm hsc)
           ·refine r0 ?_
            obtain⟨c106,x8G,h⟩:=u2v h
            have fy:=(show rows r4X s9.2.1++[[.str ((get v63 s9.2.2.toNat).name)]]=rows r4X c106 from by rw[x8G];first|exact r5y (E:=r4X) s9.2.1 [(get v63 s9.2.2.toNat).name]|simp only[go_sem,rows,List.map_append,List.map_cons,List.map_nil])
            have fy:=fa fy (show s9.2.1.length+1=c106.length from by rw[x8G];simp)
            obtain⟨fx,h⟩:=ck fx h
            refine r1 ?_
            refine rn ?_
            cases h
            exact r6h (gs9+1) (bm hsc)
         ·refine rn ?_
          cases h
          exact r7i () (bm hsc)
        ·try simp only[go_sem,fx]
         unfold r6L at h
         refine hj8 () _ _ _ h ?_;exact(hb.trans (bm hsc))
       ·refine r0 ?_
        refine hj8 () _ _ _ h ?_;exact(bm hsc)
     ·refine cd h (fun hc h=>?_) fun hc h=>?_
      ·refine rn ?_
       obtain⟨v62,hv62,h⟩:=r7G h
       refine(u2x (u0W n _ _ hv62)).to ?_
       try simp only[go_sem,fx]
       refine hj7 () _ _ _ h ?_;exact(bm hsc)
      ·refine r0 ?_
       refine hj7 () _ _ _ h ?_;exact(bm hsc)
    ·refine cd h (fun hc h=>?_) fun hc h=>?_
     ·refine rs ?_
      refine dw [] 0 ?_
      obtain⟨v59,hv59,h⟩:=r7G h
      refine r8U (u2x ((r7A n _ _ _ hv59).up (fun _=>(.cons _ _ _ _ .s (.cons _ _ _ _ .s (.cons _ _ _ _ (.r5g _ _ _ (by decide)) .nil)))) (.inr fun n=>by simp))) ?_
      obtain⟨fx,h⟩:=ck fx h
      try simp only[go_sem,fx]
      obtain⟨v61,hv61,h⟩:=r7G h
      refine r8U (u2x (r9X n _ _ _ hv61)) ?_
      try simp only[go_sem,fx]
      refine cd h (fun hc h=>?_) fun hc h=>?_
      ·refine r0 ?_
       refine hj6 () _ _ _ h ?_;exact(bm hsc)
      ·refine r0 ?_
       refine hj6 () _ _ _ h ?_;exact(bm hsc)
     ·refine r0 ?_
      refine hj6 () _ _ _ h ?_;exact(bm hsc)
   ·refine rn ?_
    cases h
    exact r7i () (bm hsc)
  ·try simp only[go_sem,fx]
   unfold r6M at h
   refine r6O hb ?_
   exact rt
end Go.Proofs.YtfacbpehlibilaaGreatDoor
