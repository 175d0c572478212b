import Derived.Test.YtdjnbjnlnjhllaaGreatDoorFIBase
set_option linter.unusedVariables false
set_option linter.unusedSimpArgs false
set_option maxHeartbeats 2000000
set_option maxRecDepth 100000
namespace Go.Proofs.YtdjnbjnlnjhllaaGreatDoor
open Go Go.Am Go.Shelf
theorem y9t{P:Program}{f:FuncId}{B F:Func}(h:P.funcs[f]? =some F)(hn:(F.name== "runtime.NumGoroutine")=false)(e:F= { B with name:=F.name }):Go.Proofs.Bears P f B:=⟨F.name,hn,h.trans (congrArg some e)⟩
def z8c:Ren:=⟨fun x=>if x=4 then 64 else x,
 fun x=>if x=25 then 9 else x,fun x=>x⟩
theorem y9u:Go.Proofs.Lays8.n4 Tryz.prog z8c where
 mixed:=follows
 f4:=y9t Tryz.func64 (by kernel_rfl) (by kernel_rfl)
 t0:=Tryz.underlying0
 a0:=Tryz.isAgg0
 z0:=Tryz.sizeOf0
 v0:=Tryz.zeroValue0
 t3:=Tryz.underlying3
 a3:=Tryz.isAgg3
 z3:=Tryz.sizeOf3
 v3:=Tryz.zeroValue3
 t4:=Tryz.underlying4
 a4:=Tryz.isAgg4
 z4:=Tryz.sizeOf4
 v4:=Tryz.zeroValue4
 t9:=Tryz.underlying9
 a9:=Tryz.isAgg9
 z9:=Tryz.sizeOf9
 v9:=Tryz.zeroValue9
 t20:=Tryz.underlying20
 a20:=Tryz.isAgg20
 z20:=Tryz.sizeOf20
 v20:=Tryz.zeroValue20
 t22:=Tryz.underlying22
 a22:=Tryz.isAgg22
 z22:=Tryz.sizeOf22
 v22:=Tryz.zeroValue22
def x6B(ls:List (List Bs)):Option (List Bs):=chk (ls.length≤8000000∧ls.flatten.length≤8000000) (some ls.flatten)
def tkf(ls:List (List Bs))(k:Nat):List Bs:=(ls.take k).flatten
theorem y4G{ls:List (List Bs)}{k:Nat}(h:k<ls.length):tkf ls (k+1)=tkf ls k++Am.get ls k:=by
 unfold tkf
 rw[List.take_add_one,List.getElem?_eq_getElem h,List.flatten_append]
 simp[Am.get,h]
theorem z0q(ls:List (List Bs))(k:Nat):(tkf ls k).length≤ls.flatten.length:=by
 have:ls.flatten.length=(tkf ls k).length+(ls.drop k).flatten.length:=by
  unfold tkf
  rw[←List.length_append, ←List.flatten_append,List.take_append_drop]
 omega
theorem x7O(ls:List (List Bs))(r:List Bs)(h:x6B ls=some r):Pure Tryz.prog gl 34 [.sl false 1 24 (rows (slc 1 16 w3X) ls)] (.sl false 1 16 (rows w3X r)):=by
 intro st
 obtain⟨⟨hn,hL⟩,h⟩:=z2r h
 obtain rfl:=Option.some.inj h
 have fx:=trivial
 refine fb 36 [.tmp 2] [0,2,3,5,6,8,9,10,11,12,20,25,26,27,28] Tryz.func34 fun hsc=>?_
 refine rn ?_
 refine x9p (fr':=[(0,.sl false 1 24 (rows (slc 1 16 w3X) ls)),(3,.int .i64 ((tkf ls 0).length:Int)),(9,.sl false 1 24 (rows (slc 1 16 w3X) ls)),(10,.int .i64 (ls.length:Int)),(11,.int .i64 ((0:Nat):Int))]) ⟨rfl,rfl,rfl,rfl,rfl,trivial⟩ ?_
 refine y0w (ρ:=Unit) (n:=ls.length) (body:=fun _ (s:Unit)=>some (.nxt s)) (kk:=fun s=>some s) (s0:=()) (e:=())
  (fun(k:Nat) (_:Unit) F S=>F=[(0,.sl false 1 24 (rows (slc 1 16 w3X) ls)),(3,.int .i64 ((tkf ls k).length:Int)),(9,.sl false 1 24 (rows (slc 1 16 w3X) ls)),(10,.int .i64 (ls.length:Int)),(11,.int .i64 (k:Int))]∧st=S)
  (fun(_:Unit) F S=>F=[(0,.sl false 1 24 (rows (slc 1 16 w3X) ls)),(3,.int .i64 (ls.flatten.length:Int))]∧st=S)
  (fun k s b hb=>⟨s,(Option.some.inj hb).symm⟩) (y2h _ _) ⟨rfl,rfl⟩
  (fun k s s' fr S hk hb hi=>?_) (fun s fr S hi=>?_) (fun s F fr S hkk hj hF=>?_)
 ·obtain⟨rfl,rfl⟩:=hi
  have h1:=z0q ls (k+1)
  have h2:=y4G hk
  have h3:(tkf ls (k+1)).length=(tkf ls k).length+(Am.get ls k).length:=by rw[h2,List.length_append]
  have hw:wr .i64 ((↑k:Int)+1)=((k+1:Nat):Int):=z1q hk (by omega)
  have hw2:wr .i64 (((tkf ls k).length:Int)+((Am.get ls k).length:Int))=((tkf ls (k+1)).length:Int):=by rw[w5h (by omega) (by omega),h3];rfl
  have fx:=fa fx (fa hw (fa hw2 hk))
  refine ct ?_
  refine rn ?_
  refine cf ?_
  refine rn ?_
  exact⟨[(0,.sl false 1 24 (rows (slc 1 16 w3X) ls)),(3,.int .i64 ((tkf ls (k+1)).length:Int)),(9,.sl false 1 24 (rows (slc 1 16 w3X) ls)),(10,.int .i64 (ls.length:Int)),(11,.int .i64 ((k+1:Nat):Int))],⟨rfl,rfl,rfl,rfl,rfl,trivial⟩,rfl⟩
 ·obtain⟨rfl,rfl⟩:=hi
  refine cf ?_
  refine x2J ?_
  refine⟨rfl,[(0,.sl false 1 24 (rows (slc 1 16 w3X) ls)),(3,.int .i64 (ls.flatten.length:Int))],⟨rfl,?_,trivial⟩,rfl,rfl⟩
  have e:tkf ls ls.length=ls.flatten:=by unfold tkf;rw[List.take_length]
  rw[←e];rfl
 obtain⟨rfl,rfl⟩:=hj
 try simp only[go_sem,fx]
 refine x9p hF ?_
 refine rn ?_
 have x9T:((Tryz.prog.info? 9).bind fun i=>i.zero.map fun z=>(z.cells.size,i.size,i.bytes))=some (1,1,16):=by kernel_rfl
 obtain⟨i0,hi0,x9T⟩:=Option.bind_eq_some_iff.1 x9T
 obtain⟨z,hz0,x9T⟩:=Option.map_eq_some_iff.1 x9T
 obtain⟨hz1,hz2,hz3⟩:z.cells.size=1∧i0.size=1∧i0.bytes=16:=by simpa using x9T
 refine(y7k (z:=z) y9u hi0 hz0 (by rw[hz1,hz2]) (by omega) (by kernel_rfl) (n:=ls.flatten.length) (by rw[hz3];unfold top;omega) (by omega)).mono ?_
 rintro d1 st1 ⟨rfl,rfl⟩
 rw[hz2,hz3]
 try simp only[go_sem,fx]
 refine rn ?_
 refine x9p (fr':=[(6,.ref false st.length 0 0 0),(25,.sl false 1 24 (rows (slc 1 16 w3X) ls)),(26,.int .i64 (ls.length:Int)),(27,.int .i64 ((0:Nat):Int))]) ⟨rfl,rfl,rfl,rfl,trivial⟩ ?_
 refine y0w (ρ:=Unit) (n:=ls.length) (body:=fun _ (s:Unit)=>some (.nxt s)) (kk:=fun s=>some s) (s0:=()) (e:=())
  (fun(k:Nat) (_:Unit) F S=>∃N o g,F=[(6,.ref false o g 0 (tkf ls k).length),(25,.sl false 1 24 (rows (slc 1 16 w3X) ls)),(26,.int .i64 (ls.length:Int)),(27,.int .i64 (k:Int))]∧S=st++N∧st.length≤o∧Am.look (st++N) o=some (.arr g 1 16 (rows w3X (tkf ls k))))
  (fun(_:Unit) F S=>∃N o g,F=[(6,.ref false o g 0 ls.flatten.length)]∧S=st++N∧st.length≤o∧Am.look (st++N) o=some (.arr g 1 16 (rows w3X ls.flatten)))
  (fun k s b hb=>⟨s,(Option.some.inj hb).symm⟩) (y2h _ _) ⟨[some (.arr 0 1 16 [])],st.length,0,rfl,rfl,Nat.le_refl _,?_⟩
  (fun k s s' fr S hk hb hi=>?_) (fun s fr S hi=>?_) (fun s F fr S hkk hj hF=>?_)
 ·exact x3w.trans rfl
 ·obtain⟨N,o,g,rfl,rfl,hge,hlk⟩:=hi
  have h1:=z0q ls (k+1)
  have h2:=y4G hk
  have h3:(tkf ls (k+1)).length=(tkf ls k).length+(Am.get ls k).length:=by rw[h2,List.length_append]
  have hw:wr .i64 ((↑k:Int)+1)=((k+1:Nat):Int):=z1q hk (by omega)
  have ha1:rows w3X (tkf ls k)++rows w3X (Am.get ls k)=rows w3X (tkf ls (k+1)):=by rw[h2];exact w4k (E:=w3X) _ _
  have ha2:(rows w3X (tkf ls k)).length=(tkf ls k).length:=y2d _
  have ha3:(rows w3X (tkf ls k)).take (tkf ls k).length=rows w3X (tkf ls k):=by rw[←ha2,List.take_length]
  have hb1:((tkf ls k).length+(Am.get ls k).length)*16≤top:=by unfold top;omega
  have hb2:(tkf ls k).length+(Am.get ls k).length≤top:=by unfold top;omega
  obtain⟨S,hS⟩:∃x,x=st++N:=⟨_,rfl⟩
  refine x1L hS ?_
  rw[←hS]at hlk
  have fx:=fa fx (fa hw (fa hk (fa (idf (w5a hlk)) (fa ha1 (fa ha2 (fa ha3 (fa hb1 (fa hb2 h3.symm))))))))
  refine x1L (s':=w4O S [(o,.arr g 1 16 (rows w3X (tkf ls k)))]) (w4w (by simp[hlk])) ?_
  refine ct ?_
  refine rn ?_
  refine⟨⟨by omega,by omega⟩,?_⟩
  refine rn ?_
  have y1A:w4O S [(o,Ob.arr (g+1) 1 16 (rows w3X (tkf ls (k+1))))]=st++N.set (o-st.length) (some (Ob.arr (g+1) 1 16 (rows w3X (tkf ls (k+1))))):=by
   show S.set o _=_
   rw[hS,List.set_append_right _ _ hge]
  refine⟨[(6,.ref false o (g+1) 0 (tkf ls (k+1)).length),(25,.sl false 1 24 (rows (slc 1 16 w3X) ls)),(26,.int .i64 (ls.length:Int)),(27,.int .i64 ((k+1:Nat):Int))],⟨rfl,rfl,rfl,rfl,trivial⟩,N.set (o-st.length) (some (Ob.arr (g+1) 1 16 (rows w3X (tkf ls (k+1))))),o,g+1,rfl,y1A,hge,?_⟩
  rw[←y1A]
  show Am.look (S.set o _) o=_
  unfold Am.look
  rw[List.getElem?_set_self (w5a hlk)]
  rfl
 ·obtain⟨N,o,g,rfl,rfl,hge,hlk⟩:=hi
  have e:tkf ls ls.length=ls.flatten:=by unfold tkf;rw[List.take_length]
  rw[e]at hlk
  refine cf ?_
  refine x2J ?_
  refine⟨rfl,[(6,.ref false o g 0 ls.flatten.length)],⟨?_,trivial⟩,N,o,g,rfl,rfl,hge,hlk⟩
  rw[←e];rfl
 obtain⟨N,o,g,rfl,rfl,hge,hlk⟩:=hj
 try simp only[go_sem,fx]
 refine x9p hF ?_
 refine rr ?_
 refine⟨st,.sl false 1 16 (rows w3X ls.flatten),Nat.le_refl _,x8j hsc,.ref _ _ _ _ _ 1 16 _ _ (w5f hlk) ?_ (by decide) (x4L _) ?_,?_,rfl,rfl⟩
 ·unfold Am.look
  rw[List.getElem?_eq_none hge]
  rfl
 ·rw[List.drop_zero, ←y2d (E:=w3X) ls.flatten,List.take_length]
 ·simp
end Go.Proofs.YtdjnbjnlnjhllaaGreatDoor
