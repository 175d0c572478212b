import Derived.Test.YtahjhbkhcaphgaaGreatDoorFTBase
set_option linter.unusedVariables false
set_option linter.unusedSimpArgs false
set_option maxHeartbeats 2000000
set_option maxRecDepth 100000
namespace Go.Proofs.YtahjhbkhcaphgaaGreatDoor
open Go Go.Am Go.Shelf
theorem Cy{P:Program}{f:FuncId}{B F:Func}(h:P.funcs[f]? =some F)(hn:(F.name== "runtime.NumGoroutine")=false)(e:F= { B with name:=F.name }):Go.Proofs.Bears P f B:=⟨F.name,hn,h.trans (congrArg some e)⟩
def MQ:Ren:=⟨fun x=>if x=4 then 83 else x,
 fun x=>if x=25 then 9 else x,fun x=>x⟩
theorem Cz:Go.Proofs.Lays8.n4 Tryz.prog MQ where
 mixed:=follows
 f4:=Cy Tryz.func83 (by kernel_rfl) (by kernel_rfl)
 t0:=Tryz.underlying0
 a0:=Tryz.isAgg0
 z0:=Tryz.sizeOf0
 v0:=Tryz.zeroValue0
 t3:=Tryz.underlying3
 a3:=Tryz.isAgg3
 z3:=Tryz.sizeOf3
 v3:=Tryz.zeroValue3
 t4:=Tryz.underlying4
 a4:=Tryz.isAgg4
 z4:=Tryz.sizeOf4
 v4:=Tryz.zeroValue4
 t9:=Tryz.underlying9
 a9:=Tryz.isAgg9
 z9:=Tryz.sizeOf9
 v9:=Tryz.zeroValue9
 t20:=Tryz.underlying20
 a20:=Tryz.isAgg20
 z20:=Tryz.sizeOf20
 v20:=Tryz.zeroValue20
 t22:=Tryz.underlying22
 a22:=Tryz.isAgg22
 z22:=Tryz.sizeOf22
 v22:=Tryz.zeroValue22
def qW(ls:List (List Bs)):Option (List Bs):=chk (ls.length≤8000000∧ls.flatten.length≤8000000) (some ls.flatten)
def tkf(ls:List (List Bs))(k:Nat):List Bs:=(ls.take k).flatten
theorem vS{ls:List (List Bs)}{k:Nat}(h:k<ls.length):tkf ls (k+1)=tkf ls k++Am.get ls k:=by
 unfold tkf
 rw[List.take_add_one,List.getElem?_eq_getElem h,List.flatten_append]
 simp[Am.get,h]
theorem DG(ls:List (List Bs))(k:Nat):(tkf ls k).length≤ls.flatten.length:=by
 have:ls.flatten.length=(tkf ls k).length+(ls.drop k).flatten.length:=by
  unfold tkf
  rw[←List.length_append, ←List.flatten_append,List.take_append_drop]
 omega
theorem qh(ls:List (List Bs))(r:List Bs)(h:qW ls=some r):Pure Tryz.prog gl 52 [.sl false 1 24 (rows (slc 1 16 w9) ls)] (.sl false 1 16 (rows w9 r)):=by
 intro st
 obtain⟨⟨hn,hL⟩,h⟩:=Br h
 obtain rfl:=Option.some.inj h
 have fx:=trivial
 refine fb 36 [.tmp 2] [0,2,3,5,6,8,9,10,11,12,20,25,26,27,28] Tryz.func52 fun hsc=>?_
 refine rn ?_
 refine oo (fr':=[(0,.sl false 1 24 (rows (slc 1 16 w9) ls)),(3,.int .i64 ((tkf ls 0).length:Int)),(9,.sl false 1 24 (rows (slc 1 16 w9) ls)),(10,.int .i64 (ls.length:Int)),(11,.int .i64 ((0:Nat):Int))]) ⟨rfl,rfl,rfl,rfl,rfl,trivial⟩ ?_
 refine qg (ρ:=Unit) (n:=ls.length) (body:=fun _ (s:Unit)=>some (.nxt s)) (kk:=fun s=>some s) (s0:=()) (e:=())
  (fun(k:Nat) (_:Unit) F S=>F=[(0,.sl false 1 24 (rows (slc 1 16 w9) ls)),(3,.int .i64 ((tkf ls k).length:Int)),(9,.sl false 1 24 (rows (slc 1 16 w9) ls)),(10,.int .i64 (ls.length:Int)),(11,.int .i64 (k:Int))]∧st=S)
  (fun(_:Unit) F S=>F=[(0,.sl false 1 24 (rows (slc 1 16 w9) ls)),(3,.int .i64 (ls.flatten.length:Int))]∧st=S)
  (fun k s b hb=>⟨s,(Option.some.inj hb).symm⟩) (sK _ _) ⟨rfl,rfl⟩
  (fun k s s' fr S hk hb hi=>?_) (fun s fr S hi=>?_) (fun s F fr S hkk hj hF=>?_)
 ·obtain⟨rfl,rfl⟩:=hi
  have h1:=DG ls (k+1)
  have h2:=vS hk
  have h3:(tkf ls (k+1)).length=(tkf ls k).length+(Am.get ls k).length:=by rw[h2,List.length_append]
  have hw:wr .i64 ((↑k:Int)+1)=((k+1:Nat):Int):=EG hk (by omega)
  have hw2:wr .i64 (((tkf ls k).length:Int)+((Am.get ls k).length:Int))=((tkf ls (k+1)).length:Int):=by rw[Z4 (by omega) (by omega),h3];rfl
  have fx:=fa fx (fa hw (fa hw2 hk))
  refine ct ?_
  refine rn ?_
  refine cf ?_
  refine rn ?_
  exact⟨[(0,.sl false 1 24 (rows (slc 1 16 w9) ls)),(3,.int .i64 ((tkf ls (k+1)).length:Int)),(9,.sl false 1 24 (rows (slc 1 16 w9) ls)),(10,.int .i64 (ls.length:Int)),(11,.int .i64 ((k+1:Nat):Int))],⟨rfl,rfl,rfl,rfl,rfl,trivial⟩,rfl⟩
 ·obtain⟨rfl,rfl⟩:=hi
  refine cf ?_
  refine gO ?_
  refine⟨rfl,[(0,.sl false 1 24 (rows (slc 1 16 w9) ls)),(3,.int .i64 (ls.flatten.length:Int))],⟨rfl,?_,trivial⟩,rfl,rfl⟩
  have e:tkf ls ls.length=ls.flatten:=by unfold tkf;rw[List.take_length]
  rw[←e];rfl
 obtain⟨rfl,rfl⟩:=hj
 try simp only[go_sem,fx]
 refine oo hF ?_
 refine rn ?_
 have pq:((Tryz.prog.info? 9).bind fun i=>i.zero.map fun z=>(z.cells.size,i.size,i.bytes))=some (1,1,16):=by kernel_rfl
 obtain⟨i0,hi0,pq⟩:=Option.bind_eq_some_iff.1 pq
 obtain⟨z,hz0,pq⟩:=Option.map_eq_some_iff.1 pq
 obtain⟨hz1,hz2,hz3⟩:z.cells.size=1∧i0.size=1∧i0.bytes=16:=by simpa using pq
 refine(zB (z:=z) Cz hi0 hz0 (by rw[hz1,hz2]) (by omega) (by kernel_rfl) (n:=ls.flatten.length) (by rw[hz3];unfold top;omega) (by omega)).mono ?_
 rintro d1 st1 ⟨rfl,rfl⟩
 rw[hz2,hz3]
 try simp only[go_sem,fx]
 refine rn ?_
 refine oo (fr':=[(6,.ref false st.length 0 0 0),(25,.sl false 1 24 (rows (slc 1 16 w9) ls)),(26,.int .i64 (ls.length:Int)),(27,.int .i64 ((0:Nat):Int))]) ⟨rfl,rfl,rfl,rfl,trivial⟩ ?_
 refine qg (ρ:=Unit) (n:=ls.length) (body:=fun _ (s:Unit)=>some (.nxt s)) (kk:=fun s=>some s) (s0:=()) (e:=())
  (fun(k:Nat) (_:Unit) F S=>∃N o g,F=[(6,.ref false o g 0 (tkf ls k).length),(25,.sl false 1 24 (rows (slc 1 16 w9) ls)),(26,.int .i64 (ls.length:Int)),(27,.int .i64 (k:Int))]∧S=st++N∧st.length≤o∧Am.look (st++N) o=some (.arr g 1 16 (rows w9 (tkf ls k))))
  (fun(_:Unit) F S=>∃N o g,F=[(6,.ref false o g 0 ls.flatten.length)]∧S=st++N∧st.length≤o∧Am.look (st++N) o=some (.arr g 1 16 (rows w9 ls.flatten)))
  (fun k s b hb=>⟨s,(Option.some.inj hb).symm⟩) (sK _ _) ⟨[some (.arr 0 1 16 [])],st.length,0,rfl,rfl,Nat.le_refl _,?_⟩
  (fun k s s' fr S hk hb hi=>?_) (fun s fr S hi=>?_) (fun s F fr S hkk hj hF=>?_)
 ·exact gi.trans rfl
 ·obtain⟨N,o,g,rfl,rfl,hge,hlk⟩:=hi
  have h1:=DG ls (k+1)
  have h2:=vS hk
  have h3:(tkf ls (k+1)).length=(tkf ls k).length+(Am.get ls k).length:=by rw[h2,List.length_append]
  have hw:wr .i64 ((↑k:Int)+1)=((k+1:Nat):Int):=EG hk (by omega)
  have ha1:rows w9 (tkf ls k)++rows w9 (Am.get ls k)=rows w9 (tkf ls (k+1)):=by rw[h2];exact F1 (E:=w9) _ _
  have ha2:(rows w9 (tkf ls k)).length=(tkf ls k).length:=sI _
  have ha3:(rows w9 (tkf ls k)).take (tkf ls k).length=rows w9 (tkf ls k):=by rw[←ha2,List.take_length]
  have hb1:((tkf ls k).length+(Am.get ls k).length)*16≤top:=by unfold top;omega
  have hb2:(tkf ls k).length+(Am.get ls k).length≤top:=by unfold top;omega
  obtain⟨S,hS⟩:∃x,x=st++N:=⟨_,rfl⟩
  refine aO hS ?_
  rw[←hS]at hlk
  have fx:=fa fx (fa hw (fa hk (fa (idf (F2 hlk)) (fa ha1 (fa ha2 (fa ha3 (fa hb1 (fa hb2 h3.symm))))))))
  refine aO (s':=E8 S [(o,.arr g 1 16 (rows w9 (tkf ls k)))]) (C5 (by simp[hlk])) ?_
  refine ct ?_
  refine rn ?_
  refine⟨⟨by omega,by omega⟩,?_⟩
  refine rn ?_
  have rP:E8 S [(o,Ob.arr (g+1) 1 16 (rows w9 (tkf ls (k+1))))]=st++N.set (o-st.length) (some (Ob.arr (g+1) 1 16 (rows w9 (tkf ls (k+1))))):=by
   show S.set o _=_
   rw[hS,List.set_append_right _ _ hge]
  refine⟨[(6,.ref false o (g+1) 0 (tkf ls (k+1)).length),(25,.sl false 1 24 (rows (slc 1 16 w9) ls)),(26,.int .i64 (ls.length:Int)),(27,.int .i64 ((k+1:Nat):Int))],⟨rfl,rfl,rfl,rfl,trivial⟩,N.set (o-st.length) (some (Ob.arr (g+1) 1 16 (rows w9 (tkf ls (k+1))))),o,g+1,rfl,rP,hge,?_⟩
  rw[←rP]
  show Am.look (S.set o _) o=_
  unfold Am.look
  rw[List.getElem?_set_self (F2 hlk)]
  rfl
 ·obtain⟨N,o,g,rfl,rfl,hge,hlk⟩:=hi
  have e:tkf ls ls.length=ls.flatten:=by unfold tkf;rw[List.take_length]
  rw[e]at hlk
  refine cf ?_
  refine gO ?_
  refine⟨rfl,[(6,.ref false o g 0 ls.flatten.length)],⟨?_,trivial⟩,N,o,g,rfl,rfl,hge,hlk⟩
  rw[←e];rfl
 obtain⟨N,o,g,rfl,rfl,hge,hlk⟩:=hj
 try simp only[go_sem,fx]
 refine oo hF ?_
 refine rr ?_
 refine⟨st,.sl false 1 16 (rows w9 ls.flatten),Nat.le_refl _,mA hsc,.ref _ _ _ _ _ 1 16 _ _ (F0 hlk) ?_ (by decide) (ng _) ?_,?_,rfl,rfl⟩
 ·unfold Am.look
  rw[List.getElem?_eq_none hge]
  rfl
 ·rw[List.drop_zero, ←sI (E:=w9) ls.flatten,List.take_length]
 ·simp
end Go.Proofs.YtahjhbkhcaphgaaGreatDoor
