import Derived.Test.YtfogbhjeihkliaaGreatDoorDXSort
set_option linter.unusedVariables false
set_option linter.unusedSimpArgs false
set_option maxHeartbeats 2000000
set_option maxRecDepth 100000
namespace Go.Proofs.YtfogbhjeihkliaaGreatDoor
open Go Go.Am
abbrev dcl:=w5.cells
def tkf(ls:List (List w5))(k:Nat):List w5:=(ls.take k).flatten
theorem FW{ls:List (List w5)}{k:Nat}(h:k<ls.length):tkf ls (k+1)=tkf ls k++Am.get ls k:=by
 unfold tkf
 rw[List.take_add_one,List.getElem?_eq_getElem h,List.flatten_append]
 simp[Am.get,h]
theorem MI(ls:List (List w5))(k:Nat):(tkf ls k).length≤ls.flatten.length:=by
 have:ls.flatten.length=(tkf ls k).length+(ls.drop k).flatten.length:=by
  unfold tkf
  rw[←List.length_append, ←List.flatten_append,List.take_append_drop]
 omega
theorem Et(ls:List (List w5))(hn:ls.length≤1000000)(hL:ls.flatten.length≤1000000)(st:St):
 Am.Spec Tryz.prog gl 52 [.sl false 1 24 (rows (slc 5 40 dcl) ls)] st (fun d st'=>∃N o g,d= .ref false o g 0 ls.flatten.length∧st'=st++N∧st.length≤o∧Am.look (st++N) o=some (.arr g 5 40 (rows dcl ls.flatten))):=by
 have fx:=trivial
 refine fb 36 [.tmp 2] [0,2,3,5,6,8,9,10,11,12,20,25,26,27,28] Tryz.func52 fun hsc=>?_
 refine rn ?_
 refine ql (fr':=[(0,.sl false 1 24 (rows (slc 5 40 dcl) ls)),(3,.int .i64 ((tkf ls 0).length:Int)),(9,.sl false 1 24 (rows (slc 5 40 dcl) ls)),(10,.int .i64 (ls.length:Int)),(11,.int .i64 ((0:Nat):Int))]) ⟨rfl,rfl,rfl,rfl,rfl,trivial⟩ ?_
 refine vu (ρ:=Unit) (n:=ls.length) (body:=fun _ (s:Unit)=>some (.nxt s)) (kk:=fun s=>some s) (s0:=()) (e:=())
  (fun(k:Nat) (_:Unit) F S=>F=[(0,.sl false 1 24 (rows (slc 5 40 dcl) ls)),(3,.int .i64 ((tkf ls k).length:Int)),(9,.sl false 1 24 (rows (slc 5 40 dcl) ls)),(10,.int .i64 (ls.length:Int)),(11,.int .i64 (k:Int))]∧st=S)
  (fun(_:Unit) F S=>F=[(0,.sl false 1 24 (rows (slc 5 40 dcl) ls)),(3,.int .i64 (ls.flatten.length:Int))]∧st=S)
  (fun k s b hb=>⟨s,(Option.some.inj hb).symm⟩) (tT _ _) ⟨rfl,rfl⟩
  (fun k s s' fr S hk hb hi=>?_) (fun s fr S hi=>?_) (fun s F fr S hkk hj hF=>?_)
 ·obtain⟨rfl,rfl⟩:=hi
  have h1:=MI ls (k+1)
  have h2:=FW hk
  have h3:(tkf ls (k+1)).length=(tkf ls k).length+(Am.get ls k).length:=by rw[h2,List.length_append]
  have hw:wr .i64 ((↑k:Int)+1)=((k+1:Nat):Int):=GO hk (by omega)
  have hw2:wr .i64 (((tkf ls k).length:Int)+((Am.get ls k).length:Int))=((tkf ls (k+1)).length:Int):=by rw[H9 (by omega) (by omega),h3];rfl
  have fx:=fa fx (fa hw (fa hw2 hk))
  refine ct ?_
  refine rn ?_
  refine cf ?_
  refine rn ?_
  exact⟨[(0,.sl false 1 24 (rows (slc 5 40 dcl) ls)),(3,.int .i64 ((tkf ls (k+1)).length:Int)),(9,.sl false 1 24 (rows (slc 5 40 dcl) ls)),(10,.int .i64 (ls.length:Int)),(11,.int .i64 ((k+1:Nat):Int))],⟨rfl,rfl,rfl,rfl,rfl,trivial⟩,rfl⟩
 ·obtain⟨rfl,rfl⟩:=hi
  refine cf ?_
  refine gV ?_
  refine⟨rfl,[(0,.sl false 1 24 (rows (slc 5 40 dcl) ls)),(3,.int .i64 (ls.flatten.length:Int))],⟨rfl,?_,trivial⟩,rfl,rfl⟩
  have e:tkf ls ls.length=ls.flatten:=by unfold tkf;rw[List.take_length]
  rw[←e];rfl
 obtain⟨rfl,rfl⟩:=hj
 try simp only[go_sem,fx]
 refine ql hF ?_
 refine rn ?_
 have zj:((Tryz.prog.info? 43).bind fun i=>i.zero.map fun z=>(z.cells.size,i.size,i.bytes))=some (5,5,40):=by kernel_rfl
 obtain⟨i0,hi0,zj⟩:=Option.bind_eq_some_iff.1 zj
 obtain⟨z,hz0,zj⟩:=Option.map_eq_some_iff.1 zj
 obtain⟨hz1,hz2,hz3⟩:z.cells.size=5∧i0.size=5∧i0.bytes=40:=by simpa using zj
 refine(Jk (z:=z) LA hi0 hz0 (by rw[hz1,hz2]) (by omega) (by kernel_rfl) (n:=ls.flatten.length) (by rw[hz3];unfold top;omega) (by omega)).mono ?_
 rintro d1 st1 ⟨rfl,rfl⟩
 rw[hz2,hz3]
 try simp only[go_sem,fx]
 refine rn ?_
 refine ql (fr':=[(6,.ref false st.length 0 0 0),(25,.sl false 1 24 (rows (slc 5 40 dcl) ls)),(26,.int .i64 (ls.length:Int)),(27,.int .i64 ((0:Nat):Int))]) ⟨rfl,rfl,rfl,rfl,trivial⟩ ?_
 refine vu (ρ:=Unit) (n:=ls.length) (body:=fun _ (s:Unit)=>some (.nxt s)) (kk:=fun s=>some s) (s0:=()) (e:=())
  (fun(k:Nat) (_:Unit) F S=>∃N o g,F=[(6,.ref false o g 0 (tkf ls k).length),(25,.sl false 1 24 (rows (slc 5 40 dcl) ls)),(26,.int .i64 (ls.length:Int)),(27,.int .i64 (k:Int))]∧S=st++N∧st.length≤o∧Am.look (st++N) o=some (.arr g 5 40 (rows dcl (tkf ls k))))
  (fun(_:Unit) F S=>∃N o g,F=[(6,.ref false o g 0 ls.flatten.length)]∧S=st++N∧st.length≤o∧Am.look (st++N) o=some (.arr g 5 40 (rows dcl ls.flatten)))
  (fun k s b hb=>⟨s,(Option.some.inj hb).symm⟩) (tT _ _) ⟨[some (.arr 0 5 40 [])],st.length,0,rfl,rfl,Nat.le_refl _,?_⟩
  (fun k s s' fr S hk hb hi=>?_) (fun s fr S hi=>?_) (fun s F fr S hkk hj hF=>?_)
 ·exact tI.trans rfl
 ·obtain⟨N,o,g,rfl,rfl,hge,hlk⟩:=hi
  have h1:=MI ls (k+1)
  have h2:=FW hk
  have h3:(tkf ls (k+1)).length=(tkf ls k).length+(Am.get ls k).length:=by rw[h2,List.length_append]
  have hw:wr .i64 ((↑k:Int)+1)=((k+1:Nat):Int):=GO hk (by omega)
  have ha1:rows dcl (tkf ls k)++rows dcl (Am.get ls k)=rows dcl (tkf ls (k+1)):=by rw[h2];exact U8 (E:=dcl) _ _
  have ha2:(rows dcl (tkf ls k)).length=(tkf ls k).length:=Ae _
  have ha3:(rows dcl (tkf ls k)).take (tkf ls k).length=rows dcl (tkf ls k):=by rw[←ha2,List.take_length]
  have hb1:((tkf ls k).length+(Am.get ls k).length)*40≤top:=by unfold top;omega
  have hb2:(tkf ls k).length+(Am.get ls k).length≤top:=by unfold top;omega
  obtain⟨S,hS⟩:∃x,x=st++N:=⟨_,rfl⟩
  refine mJ hS ?_
  rw[←hS]at hlk
  have fx:=fa fx (fa hw (fa hk (fa (idf (T6 hlk)) (fa ha1 (fa ha2 (fa ha3 (fa hb1 (fa hb2 h3.symm))))))))
  refine mJ (s':=aZ S [(o,.arr g 5 40 (rows dcl (tkf ls k)))]) (N5 (by simp[hlk])) ?_
  refine ct ?_
  refine rn ?_
  refine⟨⟨by omega,by omega⟩,?_⟩
  refine rn ?_
  have DA:aZ S [(o,Ob.arr (g+1) 5 40 (rows dcl (tkf ls (k+1))))]=st++N.set (o-st.length) (some (Ob.arr (g+1) 5 40 (rows dcl (tkf ls (k+1))))):=by
   show S.set o _=_
   rw[hS,List.set_append_right _ _ hge]
  refine⟨[(6,.ref false o (g+1) 0 (tkf ls (k+1)).length),(25,.sl false 1 24 (rows (slc 5 40 dcl) ls)),(26,.int .i64 (ls.length:Int)),(27,.int .i64 ((k+1:Nat):Int))],⟨rfl,rfl,rfl,rfl,trivial⟩,N.set (o-st.length) (some (Ob.arr (g+1) 5 40 (rows dcl (tkf ls (k+1))))),o,g+1,rfl,DA,hge,?_⟩
  rw[←DA]
  show Am.look (S.set o _) o=_
  unfold Am.look
  rw[List.getElem?_set_self (T6 hlk)]
  rfl
 ·obtain⟨N,o,g,rfl,rfl,hge,hlk⟩:=hi
  have e:tkf ls ls.length=ls.flatten:=by unfold tkf;rw[List.take_length]
  rw[e]at hlk
  refine cf ?_
  refine gV ?_
  refine⟨rfl,[(6,.ref false o g 0 ls.flatten.length)],⟨?_,trivial⟩,N,o,g,rfl,rfl,hge,hlk⟩
  rw[←e];rfl
 obtain⟨N,o,g,rfl,rfl,hge,hlk⟩:=hj
 try simp only[go_sem,fx]
 refine ql hF ?_
 refine Eh (p:=qN _ _) (fun _ _ _ hs _=>hs.sc) fun hT=>?_
 refine rr ?_
 refine⟨_,_,?_,vo hT,.same _,?_,N,o,g,rfl,rfl,hge,hlk⟩
 ·simp
 ·exact T6 hlk
end Go.Proofs.YtfogbhjeihkliaaGreatDoor
