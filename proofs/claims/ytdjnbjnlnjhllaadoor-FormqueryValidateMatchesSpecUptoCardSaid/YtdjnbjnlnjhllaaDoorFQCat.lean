import Derived.Test.YtdjnbjnlnjhllaaDoorFQBase
set_option linter.unusedVariables false
set_option linter.unusedSimpArgs false
set_option maxHeartbeats 2000000
set_option maxRecDepth 100000
namespace Go.Proofs.YtdjnbjnlnjhllaaDoor
open Go Go.Am Go.Shelf
theorem AE{P:Program}{f:FuncId}{B F:Func}(h:P.funcs[f]? =some F)(hn:(F.name== "runtime.NumGoroutine")=false)(e:F= { B with name:=F.name }):Go.Proofs.Bears P f B:=⟨F.name,hn,h.trans (congrArg some e)⟩
def JX:Ren:=⟨fun x=>if x=4 then 51 else x,
 fun x=>if x=25 then 9 else x,fun x=>x⟩
theorem AF:Go.Proofs.Lays8.n4 Tryd.prog JX where
 mixed:=follows
 f4:=AE Tryd.func51 (by kernel_rfl) (by kernel_rfl)
 t0:=Tryd.underlying0
 a0:=Tryd.isAgg0
 z0:=Tryd.sizeOf0
 v0:=Tryd.zeroValue0
 t3:=Tryd.underlying3
 a3:=Tryd.isAgg3
 z3:=Tryd.sizeOf3
 v3:=Tryd.zeroValue3
 t4:=Tryd.underlying4
 a4:=Tryd.isAgg4
 z4:=Tryd.sizeOf4
 v4:=Tryd.zeroValue4
 t9:=Tryd.underlying9
 a9:=Tryd.isAgg9
 z9:=Tryd.sizeOf9
 v9:=Tryd.zeroValue9
 t20:=Tryd.underlying20
 a20:=Tryd.isAgg20
 z20:=Tryd.sizeOf20
 v20:=Tryd.zeroValue20
 t22:=Tryd.underlying22
 a22:=Tryd.isAgg22
 z22:=Tryd.sizeOf22
 v22:=Tryd.zeroValue22
def kB(ls:List (List Bs)):Option (List Bs):=chk (ls.length≤8000000∧ls.flatten.length≤8000000) (some ls.flatten)
def tkf(ls:List (List Bs))(k:Nat):List Bs:=(ls.take k).flatten
theorem ug{ls:List (List Bs)}{k:Nat}(h:k<ls.length):tkf ls (k+1)=tkf ls k++Am.get ls k:=by
 unfold tkf
 rw[List.take_add_one,List.getElem?_eq_getElem h,List.flatten_append]
 simp[Am.get,h]
theorem BK(ls:List (List Bs))(k:Nat):(tkf ls k).length≤ls.flatten.length:=by
 have:ls.flatten.length=(tkf ls k).length+(ls.drop k).flatten.length:=by
  unfold tkf
  rw[←List.length_append, ←List.flatten_append,List.take_append_drop]
 omega
theorem oG(ls:List (List Bs))(r:List Bs)(h:kB ls=some r):Pure Tryd.prog gl 33 [.sl false 1 24 (rows (slc 1 16 w8) ls)] (.sl false 1 16 (rows w8 r)):=by
 intro st
 obtain⟨⟨hn,hL⟩,h⟩:=DF h
 obtain rfl:=Option.some.inj h
 have fx:=trivial
 refine fb 36 [.tmp 2] [0,2,3,5,6,8,9,10,11,12,20,25,26,27,28] Tryd.func33 fun hsc=>?_
 refine rn ?_
 refine mS (fr':=[(0,.sl false 1 24 (rows (slc 1 16 w8) ls)),(3,.int .i64 ((tkf ls 0).length:Int)),(9,.sl false 1 24 (rows (slc 1 16 w8) ls)),(10,.int .i64 (ls.length:Int)),(11,.int .i64 ((0:Nat):Int))]) ⟨rfl,rfl,rfl,rfl,rfl,trivial⟩ ?_
 refine oF (ρ:=Unit) (n:=ls.length) (body:=fun _ (s:Unit)=>some (.nxt s)) (kk:=fun s=>some s) (s0:=()) (e:=())
  (fun(k:Nat) (_:Unit) F S=>F=[(0,.sl false 1 24 (rows (slc 1 16 w8) ls)),(3,.int .i64 ((tkf ls k).length:Int)),(9,.sl false 1 24 (rows (slc 1 16 w8) ls)),(10,.int .i64 (ls.length:Int)),(11,.int .i64 (k:Int))]∧st=S)
  (fun(_:Unit) F S=>F=[(0,.sl false 1 24 (rows (slc 1 16 w8) ls)),(3,.int .i64 (ls.flatten.length:Int))]∧st=S)
  (fun k s b hb=>⟨s,(Option.some.inj hb).symm⟩) (qK _ _) ⟨rfl,rfl⟩
  (fun k s s' fr S hk hb hi=>?_) (fun s fr S hi=>?_) (fun s F fr S hkk hj hF=>?_)
 ·obtain⟨rfl,rfl⟩:=hi
  have h1:=BK ls (k+1)
  have h2:=ug hk
  have h3:(tkf ls (k+1)).length=(tkf ls k).length+(Am.get ls k).length:=by rw[h2,List.length_append]
  have hw:wr .i64 ((↑k:Int)+1)=((k+1:Nat):Int):=CH hk (by omega)
  have hw2:wr .i64 (((tkf ls k).length:Int)+((Am.get ls k).length:Int))=((tkf ls (k+1)).length:Int):=by rw[T8 (by omega) (by omega),h3];rfl
  have fx:=fa fx (fa hw (fa hw2 hk))
  refine ct ?_
  refine rn ?_
  refine cf ?_
  refine rn ?_
  exact⟨[(0,.sl false 1 24 (rows (slc 1 16 w8) ls)),(3,.int .i64 ((tkf ls (k+1)).length:Int)),(9,.sl false 1 24 (rows (slc 1 16 w8) ls)),(10,.int .i64 (ls.length:Int)),(11,.int .i64 ((k+1:Nat):Int))],⟨rfl,rfl,rfl,rfl,rfl,trivial⟩,rfl⟩
 ·obtain⟨rfl,rfl⟩:=hi
  refine cf ?_
  refine gy ?_
  refine⟨rfl,[(0,.sl false 1 24 (rows (slc 1 16 w8) ls)),(3,.int .i64 (ls.flatten.length:Int))],⟨rfl,?_,trivial⟩,rfl,rfl⟩
  have e:tkf ls ls.length=ls.flatten:=by unfold tkf;rw[List.take_length]
  rw[←e];rfl
 obtain⟨rfl,rfl⟩:=hj
 try simp only[go_sem,fx]
 refine mS hF ?_
 refine rn ?_
 have nP:((Tryd.prog.info? 9).bind fun i=>i.zero.map fun z=>(z.cells.size,i.size,i.bytes))=some (1,1,16):=by kernel_rfl
 obtain⟨i0,hi0,nP⟩:=Option.bind_eq_some_iff.1 nP
 obtain⟨z,hz0,nP⟩:=Option.map_eq_some_iff.1 nP
 obtain⟨hz1,hz2,hz3⟩:z.cells.size=1∧i0.size=1∧i0.bytes=16:=by simpa using nP
 refine(xP (z:=z) AF hi0 hz0 (by rw[hz1,hz2]) (by omega) (by kernel_rfl) (n:=ls.flatten.length) (by rw[hz3];unfold top;omega) (by omega)).mono ?_
 rintro d1 st1 ⟨rfl,rfl⟩
 rw[hz2,hz3]
 try simp only[go_sem,fx]
 refine rn ?_
 refine mS (fr':=[(6,.ref false st.length 0 0 0),(25,.sl false 1 24 (rows (slc 1 16 w8) ls)),(26,.int .i64 (ls.length:Int)),(27,.int .i64 ((0:Nat):Int))]) ⟨rfl,rfl,rfl,rfl,trivial⟩ ?_
 refine oF (ρ:=Unit) (n:=ls.length) (body:=fun _ (s:Unit)=>some (.nxt s)) (kk:=fun s=>some s) (s0:=()) (e:=())
  (fun(k:Nat) (_:Unit) F S=>∃N o g,F=[(6,.ref false o g 0 (tkf ls k).length),(25,.sl false 1 24 (rows (slc 1 16 w8) ls)),(26,.int .i64 (ls.length:Int)),(27,.int .i64 (k:Int))]∧S=st++N∧st.length≤o∧Am.look (st++N) o=some (.arr g 1 16 (rows w8 (tkf ls k))))
  (fun(_:Unit) F S=>∃N o g,F=[(6,.ref false o g 0 ls.flatten.length)]∧S=st++N∧st.length≤o∧Am.look (st++N) o=some (.arr g 1 16 (rows w8 ls.flatten)))
  (fun k s b hb=>⟨s,(Option.some.inj hb).symm⟩) (qK _ _) ⟨[some (.arr 0 1 16 [])],st.length,0,rfl,rfl,Nat.le_refl _,?_⟩
  (fun k s s' fr S hk hb hi=>?_) (fun s fr S hi=>?_) (fun s F fr S hkk hj hF=>?_)
 ·exact fq.trans rfl
 ·obtain⟨N,o,g,rfl,rfl,hge,hlk⟩:=hi
  have h1:=BK ls (k+1)
  have h2:=ug hk
  have h3:(tkf ls (k+1)).length=(tkf ls k).length+(Am.get ls k).length:=by rw[h2,List.length_append]
  have hw:wr .i64 ((↑k:Int)+1)=((k+1:Nat):Int):=CH hk (by omega)
  have ha1:rows w8 (tkf ls k)++rows w8 (Am.get ls k)=rows w8 (tkf ls (k+1)):=by rw[h2];exact D8 (E:=w8) _ _
  have ha2:(rows w8 (tkf ls k)).length=(tkf ls k).length:=qI _
  have ha3:(rows w8 (tkf ls k)).take (tkf ls k).length=rows w8 (tkf ls k):=by rw[←ha2,List.take_length]
  have hb1:((tkf ls k).length+(Am.get ls k).length)*16≤top:=by unfold top;omega
  have hb2:(tkf ls k).length+(Am.get ls k).length≤top:=by unfold top;omega
  obtain⟨S,hS⟩:∃x,x=st++N:=⟨_,rfl⟩
  refine dG hS ?_
  rw[←hS]at hlk
  have fx:=fa fx (fa hw (fa hk (fa (idf (J2 hlk)) (fa ha1 (fa ha2 (fa ha3 (fa hb1 (fa hb2 h3.symm))))))))
  refine dG (s':=F2 S [(o,.arr g 1 16 (rows w8 (tkf ls k)))]) (D7 (by simp[hlk])) ?_
  refine ct ?_
  refine rn ?_
  refine⟨⟨by omega,by omega⟩,?_⟩
  refine rn ?_
  have qc:F2 S [(o,Ob.arr (g+1) 1 16 (rows w8 (tkf ls (k+1))))]=st++N.set (o-st.length) (some (Ob.arr (g+1) 1 16 (rows w8 (tkf ls (k+1))))):=by
   show S.set o _=_
   rw[hS,List.set_append_right _ _ hge]
  refine⟨[(6,.ref false o (g+1) 0 (tkf ls (k+1)).length),(25,.sl false 1 24 (rows (slc 1 16 w8) ls)),(26,.int .i64 (ls.length:Int)),(27,.int .i64 ((k+1:Nat):Int))],⟨rfl,rfl,rfl,rfl,trivial⟩,N.set (o-st.length) (some (Ob.arr (g+1) 1 16 (rows w8 (tkf ls (k+1))))),o,g+1,rfl,qc,hge,?_⟩
  rw[←qc]
  show Am.look (S.set o _) o=_
  unfold Am.look
  rw[List.getElem?_set_self (J2 hlk)]
  rfl
 ·obtain⟨N,o,g,rfl,rfl,hge,hlk⟩:=hi
  have e:tkf ls ls.length=ls.flatten:=by unfold tkf;rw[List.take_length]
  rw[e]at hlk
  refine cf ?_
  refine gy ?_
  refine⟨rfl,[(6,.ref false o g 0 ls.flatten.length)],⟨?_,trivial⟩,N,o,g,rfl,rfl,hge,hlk⟩
  rw[←e];rfl
 obtain⟨N,o,g,rfl,rfl,hge,hlk⟩:=hj
 try simp only[go_sem,fx]
 refine mS hF ?_
 refine rr ?_
 refine⟨st,.sl false 1 16 (rows w8 ls.flatten),Nat.le_refl _,kW hsc,.ref _ _ _ _ _ 1 16 _ _ (D6 hlk) ?_ (by decide) (mW _) ?_,?_,rfl,rfl⟩
 ·unfold Am.look
  rw[List.getElem?_eq_none hge]
  rfl
 ·rw[List.drop_zero, ←qI (E:=w8) ls.flatten,List.take_length]
 ·simp
end Go.Proofs.YtdjnbjnlnjhllaaDoor
