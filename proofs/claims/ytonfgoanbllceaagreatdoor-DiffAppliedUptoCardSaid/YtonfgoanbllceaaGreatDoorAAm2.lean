/-
 AM, part 21: what is shown of a function's code, at the data level; from a body to a contract.
-/
import Derived.Orders
import Derived.Test.YtonfgoanbllceaaGreatDoorAAm1
set_option linter.unusedVariables false
set_option linter.unusedSimpArgs false
namespace Go.Am
open Go
theorem VR.sc{w:World}{μ:Mu}{st:St}{v:Value}{d:D}(h:VR w μ st v d):D.sc st.length d:=by
 induction h with
 |any v=>trivial
 |tr h=>exact h.sc _
 |agg vs cs hs hc ih=>exact rS ih
 |tup vs cs hs hc ih=>exact rS ih
 |fn f vf vc first cap hf hc hfc hcc ih1 ih2=>exact⟨rS ih1,rS ih2⟩
 |ref v full o g off len hv ho=>exact ho
 |ptr v o g i c hv ho=>exact ho
 |mp v o hv ho=>exact ho
 |it v o hv ho=>exact ho
 |cond v g d h h0 ih=>exact ih
theorem Sim.sc{w:World}{μ:Mu}{st:St}(h:Sim w μ st):nQ st.length st:=fun o ob ho=>by
 have:=h.obj o ob ho
 cases ob with
 |arr g n b es=>
  obtain⟨_,_,h3⟩:=(this:tw w μ st (μ o) n b es)
  intro e he
  rcases h3 with⟨_,h3⟩|⟨blk,base,c,ty,em,hh,hsz,hc⟩
  ·rw[h3]at he;simp at he
  ·obtain⟨i,hi,rfl⟩:=List.getElem_of_mem he
   exact rS fun j hj=>by obtain⟨v,_,hv,_⟩:=hc i j hi hj;exact hv.sc
 |mps ag es=>
  obtain⟨blk,ents,clock,em,hh,hsz,hc⟩:=(this:rG _ ag w μ _ (μ o) es).loc
  intro e he
  obtain⟨i,hi,rfl⟩:=List.getElem_of_mem he
  obtain⟨e,_,_,e3⟩:=hc i hi
  cases ag with
  |true=>exact VR.sc e3
  |false=>obtain⟨d,a,b⟩:=e3;rw[a];exact⟨b.sc,trivial⟩
 |mpi ag k es=>
  obtain⟨blk,ents,clock,em,hh,hsz,hc⟩:=(this:rG _ ag w μ _ (μ o) es).loc
  intro e he
  obtain⟨i,hi,rfl⟩:=List.getElem_of_mem he
  obtain⟨e,_,_,e3⟩:=hc i hi
  cases ag with
  |true=>exact VR.sc e3
  |false=>obtain⟨d,a,b⟩:=e3;rw[a];exact⟨b.sc,trivial⟩
 |sit=>trivial
 |resv=>trivial
theorem VR.Dy{w:World}{μ:Mu}{s t:St}{v:Value}{d:D}(h:VR w μ (s++t) v d)(hd:D.sc s.length d):VR w μ s v d:=by
 have lk:∀o,o<s.length→(s++t)[o]? =s[o]? :=fun o h=>List.getElem?_append_left h
 have ow:∀blk,own μ s blk→own μ (s++t) blk:=by
  rintro blk ⟨o,ob,base,h1,h2⟩
  exact⟨o,ob,base,by rw[lk o (List.getElem?_eq_some_iff.1 h1).1];exact h1,h2⟩
 induction h with
 |any v=>exact .any v
 |tr h=>exact .tr (h.mono (fun blk _ hn=>⟨rfl,fun h=>hn (ow blk h)⟩) (Nat.le_refl _))
 |agg vs cs hs hc ih=>exact .agg vs cs hs (fun j hj=>ih j hj (fq hd j hj))
 |tup vs cs hs hc ih=>exact .tup vs cs hs (fun j hj=>ih j hj (fq hd j hj))
 |fn f vf vc first cap hf hc hfc hcc ih1 ih2=>exact .fn f vf vc first cap hf hc (fun j hj=>ih1 j hj (fq hd.1 j hj)) (fun j hj=>ih2 j hj (fq hd.2 j hj))
 |ref v full o g off len hv ho hr hg h=>
  rw[lk o hd]at hr
  exact .ref v full o g off len hv hd hr (fun g' n b es e=>hg g' n b es (by rw[lk o hd];exact e)) (fun n b es e=>h n b es (by rw[lk o hd];exact e))
 |ptr v o g i c hv ho hr hg h=>
  rw[lk o hd]at hr
  exact .ptr v o g i c hv hd hr (fun g' n b es e=>hg g' n b es (by rw[lk o hd];exact e)) (fun n b es e=>h n b es (by rw[lk o hd];exact e))
 |mp v o hv ho hr h1 h2=>
  rw[lk o hd]at hr
  exact .mp v o hv hd hr (fun ag es e=>h1 ag es (by rw[lk o hd];exact e)) (fun ag k es e=>h2 ag k es (by rw[lk o hd];exact e))
 |it v o hv ho hr h=>
  rw[lk o hd]at hr
  exact .it v o hv hd hr (fun s p e=>h s p (by rw[lk o hd];exact e))
 |cond v g d h h0 ih=>exact .cond v g d (fun e=>ih e (hd e)) h0
theorem Sim.Dy{w:World}{μ:Mu}{s t:St}(hs:Sim w μ (s++t))(hsc:nQ s.length s):Sim w μ s:=by
 have lk:∀o ob,s[o]? =some (some ob)→(s++t)[o]? =some (some ob):=fun o ob h=>by
  rw[List.getElem?_append_left (List.getElem?_eq_some_iff.1 h).1];exact h
 refine⟨fun o ob h=>?_,fun o1 o2 ob1 ob2 blk b1 b2 h1 h2 m1 m2=>hs.inj o1 o2 ob1 ob2 blk b1 b2 (lk _ _ h1) (lk _ _ h2) m1 m2⟩
 have:=hs.obj o ob (lk o ob h)
 have hob:=hsc o ob h
 cases ob with
 |arr g n b es=>
  obtain⟨h1,h2,h3⟩:=(this:tw w μ (s++t) (μ o) n b es)
  refine(⟨h1,h2,?_⟩:tw w μ s (μ o) n b es)
  rcases h3 with h3|⟨blk,base,c,ty,em,hh,hsz,hc⟩
  ·exact .inl h3
  ·exact .inr ⟨blk,base,c,ty,em,hh,hsz,fun i j hi hj=>let ⟨v,e,hv,h1⟩:=hc i j hi hj;⟨v,e,hv.Dy (fq (hob _ (List.getElem_mem hi)) j hj),h1⟩⟩
 |mps ag es=>
  obtain⟨blk,ents,clock,em,hh,hsz,hc⟩:=(this:rG _ ag w μ _ (μ o) es).loc
  refine(⟨⟨blk,ents,clock,em,hh,hsz,fun i hi=>?_⟩⟩:rG _ ag w μ s (μ o) es)
  obtain⟨e,e1,e2,e3⟩:=hc i hi
  refine⟨e,e1,e2,?_⟩
  have Dz:=hob _ (List.getElem_mem hi)
  cases ag with
  |true=>exact VR.Dy e3 Dz
  |false=>obtain⟨d,a,b⟩:=e3;rw[a]at Dz;exact⟨d,a,b.Dy Dz.1⟩
 |mpi ag k es=>
  obtain⟨blk,ents,clock,em,hh,hsz,hc⟩:=(this:rG _ ag w μ _ (μ o) es).loc
  refine(⟨⟨blk,ents,clock,em,hh,hsz,fun i hi=>?_⟩⟩:rG _ ag w μ s (μ o) es)
  obtain⟨e,e1,e2,e3⟩:=hc i hi
  refine⟨e,e1,e2,?_⟩
  have Dz:=hob _ (List.getElem_mem hi)
  cases ag with
  |true=>exact VR.Dy e3 Dz
  |false=>obtain⟨d,a,b⟩:=e3;rw[a]at Dz;exact⟨d,a,b.Dy Dz.1⟩
 |sit=>exact this
 |resv=>exact this
theorem Step.Dy{w w':World}{μ μ':Mu}{st s t:St}(hl:st.length≤s.length)(h:Step w μ st w' μ' (s++t)):Step w μ st w' μ' s where
 size:=h.size
 os:=h.os
 output:=h.output
 tape:=h.tape
 imm:=h.imm
 own:=fun blk ⟨o,ob,base,h1,h2⟩=>h.own blk ⟨o,ob,base,by rw[List.getElem?_append_left (List.getElem?_eq_some_iff.1 h1).1];exact h1,h2⟩
 len:=hl
 keep:=fun o ob' ho h1=>h.keep o ob' ho (by rw[List.getElem?_append_left (List.getElem?_eq_some_iff.1 h1).1];exact h1)
inductive Kd where
 |normal
 |exit (id:Nat)
 |ret
abbrev AQ:=Kd→Fr→St→Prop
def AQ.then(next:Fr→St→Prop)(Q:AQ):AQ
 | .normal,fr,st=>next fr st
 |e,fr,st=>Q e fr st
def AQ.block(id:Nat)(Q:AQ):AQ
 | .exit i,fr,st=>if i=id then Q .normal fr st else Q (.exit i) fr st
 |e,fr,st=>Q e fr st
def cq(gl:Gl)(N:Nat)(w0:World)(μ0:Mu)(st0:St)(Q:AQ):Exit→Act→World→Prop
 | .normal,a,w=>∃fr st,Q .normal fr st∧Bc gl N w0 μ0 st0 fr st a w
 | .exit id,a,w=>∃fr st,Q (.exit id) fr st∧Bc gl N w0 μ0 st0 fr st a w
 | .ret,a,w=>∃fr st,Q .ret fr st∧Bc gl N w0 μ0 st0 fr st a w
 | _,_,_=>False
def AWp(P:Program)(gl:Gl)(N n0:Nat)(keep:List Nat)(c:Code)(Q:AQ)(fr:Fr)(st:St):Prop:=
 ∀(w0:World) (μ0:Mu) (st0:St),st0.length=n0→∀(a:Act) (w:World),Bc gl N w0 μ0 st0 fr st a w→c.wp P (cq gl N w0 μ0 st0 Q) a w
section
variable {P:Program} {gl:Gl} {N n0:Nat} {keep:List Nat} {Q:AQ} {fr:Fr} {st:St}
theorem GZ{w0:World}{μ0:Mu}{st0:St}{b:Code}(hl:st0.length=n0){e:Exit}{a:Act}{w:World}(h:cq gl N w0 μ0 st0 (AQ.then (AWp P gl N n0 keep b Q) Q) e a w):
 Exit.then (b.wp P (cq gl N w0 μ0 st0 Q)) (cq gl N w0 μ0 st0 Q) e a w:=by
 cases e with
 |normal=>obtain⟨fr,st,h1,h2⟩:=h;exact h1 w0 μ0 st0 hl a w h2
 |exit id=>exact h
 |ret=>exact h
 |goto=>exact h
 |panic=>exact h
 |outgrown=>exact h
theorem sq_{x y:Code}(h:AWp P gl N n0 keep x (AQ.then (AWp P gl N n0 keep y Q) Q) fr st):AWp P gl N n0 keep (.seq x y) Q fr st:=
 fun w0 μ0 st0 hl a w hc=>wp_seq (wp_mono (h w0 μ0 st0 hl a w hc) fun _ _ _=>GZ hl)
theorem Bd:∀(k k':List Item) (id:Nat),exitTo id k=some k'→k'.length<k.length
 | [],_,_,h=>by simp[exitTo]at h
 |x::k,k',id,h=>by
  by_cases hx:x= .inBlock id
  ·subst hx
   simp[exitTo]at h
   subst h;simp
  ·have:exitTo id k=some k':=by
    cases x<;>simp[exitTo]at h<;>first|exact h|skip
    rename_i id'
    split at h
    ·rename_i e;exact absurd (by rw[e]) hx
    ·exact h
   have:=Bd k k' id this
   simp;omega
theorem Bf{b:Frame}{a a':Act}{k k':List Item}{cs:List Frame}{w w':World}(h:lone (b.at a k) cs w=lone (b.at a' k') cs w'):k=k':=by
 simp only[lone,Machine.mk.injEq]at h
 have:=h.2.1
 simp[Frame.at]at this
 exact this.2.1
theorem rT{c:Code}(h:AWp P gl N n0 keep c (AQ.then (AWp P gl N n0 keep (.loop c) Q) Q) fr st):AWp P gl N n0 keep (.loop c) Q fr st:=by
 intro w0 μ0 st0 hl a w hc b k cs
 obtain⟨e,a',w',hq0,harr⟩:=h w0 μ0 st0 hl a w hc b (.inLoop c::k) cs
 have hq:=GZ (P:=P) (gl:=gl) (N:=N) (keep:=keep) hl hq0
 have pass:∀e',e'≠Exit.normal→cq gl N w0 μ0 st0 Q e' a' w'→Arrives P (lone (b.at a (.code c:: .inLoop c::k)) cs w) b (.inLoop c::k) cs e' a' w'→
  ∃e a'' w'',cq gl N w0 μ0 st0 Q e a'' w''∧Arrives P (lone (b.at a (.code (.loop c)::k)) cs w) b k cs e a'' w'':=fun e' hne hq' RA=>
  ⟨e',a',w',hq',.of_steps (.one step_loop) (.pass (x:=.inLoop c) rfl (fun _ _=>.inl hne) RA)⟩
 cases e with
 |normal=>
  obtain⟨e2,a2,w2,hq2,Mh⟩:=hq b k cs
  have hs2:step P (lone (b.at a' (.code (.loop c)::k)) cs w')= .next (lone (b.at a' (.code c:: .inLoop c::k)) cs w'):=step_loop
  have hs3:step P (lone (b.at a' (.inLoop c::k)) cs w')= .next (lone (b.at a' (.code c:: .inLoop c::k)) cs w'):=step_inLoop
  have same:∀m,Steps P (lone (b.at a' (.code (.loop c)::k)) cs w') m→m≠lone (b.at a' (.code (.loop c)::k)) cs w'→Steps P (lone (b.at a' (.inLoop c::k)) cs w') m:=by
   intro m ⟨n,hn⟩ hne
   cases n with
   |zero=>simp[runN]at hn;exact absurd hn.symm hne
   |succ n=>
    simp only[runN,hs2]at hn
    exact⟨n+1,by simp only[runN,hs3];exact hn⟩
  refine⟨e2,a2,w2,hq2,.of_steps (.head step_loop harr) ?_⟩
  cases e2 with
  |normal=>exact same _ Mh (fun e=>by have:=congrArg List.length (Bf e);simp at this)
  |exit id=>exact fun k' hk=>same _ (Mh k' hk) (fun e=>by have:=congrArg List.length (Bf e);have:=Bd k k' id hk;simp at *; omega)
  |ret=>
   obtain⟨todo,hs⟩:=Mh
   refine⟨todo,same _ hs (fun e=>?_)⟩
   simp only[lone,Machine.mk.injEq]at e
   have:=e.2.1
   simp[Frame.at]at this
  |goto=>exact hq2.elim
  |panic=>exact hq2.elim
  |outgrown=>exact hq2.elim
 |exit id=>exact pass (.exit id) (by simp) hq harr
 |ret=>exact pass .ret (by simp) hq harr
 |goto l=>exact pass (.goto l) (by simp) hq harr
 |panic ch=>exact pass (.panic ch) (by simp) hq harr
 |outgrown=>exact pass .outgrown (by simp) hq harr
theorem uW(h:Q .normal fr st):AWp P gl N n0 keep .skip Q fr st:=fun _ _ _ _ _ _ hc=>wp_skip ⟨fr,st,h,hc⟩
theorem He(h:Q .ret fr st):AWp P gl N n0 keep .ret Q fr st:=fun _ _ _ _ _ _ hc=>wp_ret ⟨fr,st,h,hc⟩
theorem X5{id:Nat}(h:Q (.exit id) fr st):AWp P gl N n0 keep (.exit id) Q fr st:=fun _ _ _ _ _ _ hc=>wp_exit ⟨fr,st,h,hc⟩
theorem yQ{id:Nat}{c:Code}(h:AWp P gl N n0 keep c (AQ.block id Q) fr st):AWp P gl N n0 keep (.block id c) Q fr st:=
 fun w0 μ0 st0 hl a w hc=>wp_block (wp_mono (h w0 μ0 st0 hl a w hc) fun e a' w' hq=>by
  cases e with
  |normal=>exact hq
  |exit i=>
   obtain⟨fr',st',h1,h2⟩:=hq
   simp only[AQ.block]at h1
   simp only[Exit.inBlock]
   split
   ·rename_i e;rw[if_pos e]at h1;exact⟨fr',st',h1,h2⟩
   ·rename_i e;rw[if_neg e]at h1;exact⟨fr',st',h1,h2⟩
  |ret=>exact hq
  |goto=>exact hq
  |panic=>exact hq
  |outgrown=>exact hq)
theorem tv{c:Operand}{x y:Code}{t:Bool}(hc:ev gl fr c= .bool t)(hx:t=true→AWp P gl N n0 keep x Q fr st)(hy:t=false→AWp P gl N n0 keep y Q fr st):AWp P gl N n0 keep (.cond c x y) Q fr st:=by
 intro w0 μ0 st0 hl a w hcc
 obtain⟨μ,hcn⟩:=hcc
 have hv:=Et hcn.fr hcn.glob c
 rw[hc]at hv
 exact wp_cond_split (kO hv) (fun e=>hx e w0 μ0 st0 hl a w ⟨μ,hcn⟩) (fun e=>hy e w0 μ0 st0 hl a w ⟨μ,hcn⟩)
theorem FM{id:Nat}{l:List Oper}(h:Run P gl N l.toArray l ⟨fr,st,True⟩ (fun fr st=>Q .normal (Fr.only keep fr) st)):AWp P gl N n0 keep (.region id l.toArray false) Q fr st:=by
 intro w0 μ0 st0 hl a w ⟨μ,hc⟩
 refine wp_region ?_
 have:=ni (P:=P) (gl:=gl) (N:=N) (ops:=l.toArray) (w0:=w0) (μ0:=μ0) (st0:=st0) (Q:=cq gl N w0 μ0 st0 Q) (fun fr st a w μ hk hc=>⟨_,_,hk,μ,hc.sim,hc.glob,hc.fr.only keep,hc.size,hc.defers,hc.step⟩) l 0 rfl ⟨fr,st,True⟩ a w μ hc h
 rw[List.range_eq_range']
 simpa using this
theorem rU{c:Code}{Q':AQ}(h:AWp P gl N n0 keep c Q fr st)(hq:∀e fr st,Q e fr st→Q' e fr st):AWp P gl N n0 keep c Q' fr st:=
 fun w0 μ0 st0 hl a w hc=>wp_mono (h w0 μ0 st0 hl a w hc) fun e a' w' hq'=>by
  cases e with
  |normal=>obtain⟨f,s,h1,h2⟩:=hq';exact⟨f,s,hq _ _ _ h1,h2⟩
  |exit i=>obtain⟨f,s,h1,h2⟩:=hq';exact⟨f,s,hq _ _ _ h1,h2⟩
  |ret=>obtain⟨f,s,h1,h2⟩:=hq';exact⟨f,s,hq _ _ _ h1,h2⟩
  |goto=>exact hq'
  |panic=>exact hq'
  |outgrown=>exact hq'
theorem Hf{c:Code}{p:Prop}(hp:∀(w:World) (μ:Mu) (tmps:Array Value),Sim w μ st→FR w μ st tmps fr→p)(h:p→AWp P gl N n0 keep c Q fr st):AWp P gl N n0 keep c Q fr st:=
 fun w0 μ0 st0 hl a w ⟨μ,hc⟩=>h (hp w μ a.tmps hc.sim hc.fr) w0 μ0 st0 hl a w ⟨μ,hc⟩
def Fr.leq:Fr→Fr→Prop
 | [],_=>True
 |(k,d)::r,fr=>fr.get k=d∧Fr.leq r fr
theorem Fr.Hg:∀(r fr:Fr),Fr.leq r fr→∀t,r.get t=fr.get t∨r.get t= .any
 | [],_,_,_=>.inr rfl
 |(k,d)::r,fr,h,t=>by
  simp only[Fr.get]
  split
  ·rename_i e;subst e;exact .inl h.1.symm
  ·exact Fr.Hg r fr h.2 t
theorem mN{c:Code}{fr':Fr}(hl:Fr.leq fr' fr)(h:AWp P gl N n0 keep c Q fr' st):AWp P gl N n0 keep c Q fr st:=
 fun w0 μ0 st0 hl0 a w ⟨μ,hc⟩=>h w0 μ0 st0 hl0 a w ⟨μ,hc.sim,hc.glob,fun t=>by
  rcases Fr.Hg fr' fr hl t with e|e
  ·rw[e];exact hc.fr t
  ·rw[e];exact .any _,hc.size,hc.defers,hc.step⟩
def Fr.sc(n:Nat):Fr→Prop
 | []=>True
 |(_,d)::r=>D.sc n d∧Fr.sc n r
theorem Fr.Hi{n:Nat}:∀(fr:Fr),Fr.sc n fr→∀t,D.sc n (fr.get t)
 | [],_,_=>trivial
 |(k,d)::r,h,t=>by
  simp only[Fr.get]
  split
  ·exact h.1
  ·exact Fr.Hi r h.2 t
def kQ(P:Program)(st:St)(fr:Fr):ResultVar→LR
 | .tmp t=>{ d:=fr.get t,ok:=True }
 | .cell a t=>(xY (y6 P t) (look st) (fr.get a)).and ((y6 P t).k≠ .none)
def SK(P:Program)(fn:Func)(fr:Fr)(st:St):D:=
 match fn.results.toList with
 | [r]=>(kQ P st fr r).d
 |rs=>.tup (rs.map fun r=>(kQ P st fr r).d)
def RB(P:Program)(fn:Func)(fr:Fr)(st:St):Prop:=∀r∈fn.results.toList,(kQ P st fr r).ok
def zM:Nat→List D→Fr
 | _,[]=>[]
 |i,d::r=>(i,d)::zM (i+1) r
theorem Bg:∀(l:List D) (i t:Nat),(zM i l).get t=if h:i≤t∧t-i<l.length then l[t-i]else .any
 | [],i,t=>by simp[zM,Fr.get]
 |d::r,i,t=>by
  simp only[zM,Fr.get]
  by_cases h:i=t
  ·subst h;simp
  ·rw[if_neg h,Bg r (i+1) t]
   by_cases h2:i+1≤t∧t-(i+1)<r.length
   ·rw[dif_pos h2,dif_pos ⟨by omega,by simp;omega⟩]
    have:t-i=(t-(i+1))+1:=by omega
    simp[this]
   ·rw[dif_neg h2,dif_neg (by simp;omega)]
def Eu(tmps:Array Value):ResultVar→Sem Value
 | .tmp t=>pure (tmps.getD t undef)
 | .cell a t=>do loadVar t (←asAddr (tmps.getD a undef))
theorem Hj{fn:Func}{w:World}{μ:Mu}{tmps:Array Value}(hs:Sim w μ st)(hf:FR w μ st tmps fr)(hok:RB P fn fr st):
 ∃v,(results fn tmps).run P w= .ok v w∧VR w μ st v (SK P fn fr st):=by
 have one:∀r:ResultVar,(kQ P st fr r).ok→∃v,(Eu tmps r).run P w= .ok v w∧VR w μ st v (kQ P st fr r).d:=by
  intro r hr
  cases r with
  |tmp t=>exact⟨_,rfl,hf t⟩
  |cell a t=>
   obtain⟨hk,hok⟩:=hr
   obtain⟨v,h1,h2⟩:=yJ (P:=P) (t:=t) hs (hf a) hok hk
   refine⟨v,?_,h2⟩
   have:∃ad,tmps.getD a undef= .pointer (some ad):=by
    cases hd:fr.get a<;>rw[hd]at hok<;>first|(exact hok.elim)|skip
    ·have:=hf a;rw[hd]at this;obtain⟨ad,e,_⟩:=yI this;exact⟨ad,e⟩
    ·have:=hf a;rw[hd]at this
     generalize tmps.getD a undef=u at this
     cases this with
     |tr h=>cases h
     |ptr _ _ _ _ _ hv=>exact hv
   obtain⟨ad,e⟩:=this
   simp only[Eu]
   rw[e]at h1⊢
   simpa[Instr.loadAt,Instr.sureAddr,asAddr]using h1
 have many:∀rs:List ResultVar,(∀r∈rs,(kQ P st fr r).ok)→∃vs:List Value,(rs.mapM (Eu tmps)).run P w= .ok vs w∧
  vs.length=rs.length∧∀j (h:j<rs.length) (h2:j<vs.length),VR w μ st (vs[j]) (kQ P st fr rs[j]).d:=by
  intro rs
  induction rs with
  |nil=>exact fun _=>⟨[],rfl,rfl,fun j h=>absurd h (Nat.not_lt_zero _)⟩
  |cons r rs ih=>
   intro h
   obtain⟨v,h1,h2⟩:=one r (h r (by simp))
   obtain⟨vs,h3,h4,h5⟩:=ih (fun r hr=>h r (by simp[hr]))
   refine⟨v::vs,by simp only[List.mapM_cons,Sem.run_bind,h1,h3,Result.andThen_ok];rfl,by simp[h4],fun j hj hj2=>?_⟩
   cases j with
   |zero=>exact h2
   |succ j=>exact h5 j (by simpa using hj) (by simpa using hj2)
 obtain⟨vs,h1,h2,h3⟩:=many fn.results.toList hok
 have Ug:results fn tmps=(fn.results.mapM (Eu tmps) >>= fun vs=>pure (if h:vs.size=1 then vs[0]else .tuple vs)):=by
  unfold results
  congr 2
 have hrun:(results fn tmps).run P w= .ok (if h:vs.toArray.size=1 then vs.toArray[0]else .tuple vs.toArray) w:=by
  rw[Ug,Array.mapM_eq_mapM_toList]
  simp only[Sem.run_bind,Sem.run_map,h1,Result.andThen_ok,Sem.run_pure]
 refine⟨_,hrun,?_⟩
 unfold SK
 by_cases hl:vs.length=1
 ·rw[dif_pos (by simpa using hl)]
  obtain⟨r,hr⟩:=List.length_eq_one_iff.1 (h2.symm.trans hl)
  rw[hr]at h3
  simp only[hr]
  exact h3 0 (by simp) (by omega)
 ·rw[dif_neg (by simpa using hl)]
  have hm:∀rs:List ResultVar,rs.length≠1→(match rs with| [r]=>(kQ P st fr r).d|rs=>.tup (rs.map fun r=>(kQ P st fr r).d))= .tup (rs.map fun r=>(kQ P st fr r).d):=by
   intro rs hn
   match rs,hn with
   | [],_=>rfl
   | [r],hn=>simp at hn
   | _::_::_,_=>rfl
  rw[hm _ (by rw[←h2];exact hl)]
  refine .tup _ _ (fun j hj _=>by simpa[h2]using hj) (fun j hj=>?_)
  simp at hj
  have hj2:j<vs.length:=by rw[h2];simpa using hj
  rw[mJ (v:=vs[j]) (by simp[hj2])]
  have h4:=h3 j (by simpa using hj) hj2
  simpa using h4
end
def opk:Op→Nat
 | .call { callee:=.value _,.. }=>2
 | .alloc _| .box _ _| .buildSlice _ _ _| .makeMap _ _| .makeSlice _ _ _| .range _ _| .call { callee:=.builtin .append,.. }=>1
 | _=>0
section
variable {P:Program} {gl:Gl} {N n0:Nat} {ops:Array Oper} {keep:List Nat} {Q:AQ} {fr:Fr} {st:St}
theorem qm(op:Op):(opk op=0→gZ op=none∧needs op=false)∧(opk op=1→gZ op=none∧needs op=true):=by
 cases op<;>first|exact⟨fun _=>⟨rfl,rfl⟩,fun h=>by cases h⟩|exact⟨fun h=>(by cases h),fun _=>⟨rfl,rfl⟩⟩|skip
 rename_i c
 obtain⟨callee,args,argTypes⟩:=c
 cases callee with
 |builtin b=>cases b<;>first|exact⟨fun _=>⟨rfl,rfl⟩,fun h=>by cases h⟩|exact⟨fun h=>(by cases h),fun _=>⟨rfl,rfl⟩⟩
 |value f=>exact⟨fun h=>(by cases h),fun h=>by cases h⟩
 |invoke r m=>exact⟨fun _=>⟨rfl,rfl⟩,fun h=>by cases h⟩
def OD(want:Bool):D→Option Bool
 | .bool b=>some (b==want)
 | .cond c (.bool b)=>some (c&&(b==want))
 | _=>none
def dlt(N:Nat):Option Nat→Prop
 |some t=>t<N
 |none=>True
def gslot(ops:Array Oper)(j:Nat):Option Nat:=(ops[j]?).bind (·.dst)
def EvR(N:Nat)(dst:Option Nat)(fr:Fr)(st:St)(k:Fr→St→Prop)(r:LR):Prop:=r.ok∧dlt N dst∧k (fr.mV dst r.d) (r.Dv st)
def EvC(P:Program)(gl:Gl)(N:Nat)(dst:Option Nat)(fr:Fr)(st:St)(k:Fr→St→Prop)(ok:Prop)(f:D)(args:List D):Prop:=
 match f with
 | .fn g first cap=>dlt N dst∧ok∧Spec P gl g (first++args++cap) st fun d st'=>k (fr.mV dst d) st'
 | _=>False
def cX(G:Bool)(p:Prop):Prop:=G=true→p
def OE(N:Nat)(G:Bool)(dst:Option Nat)(fr:Fr)(st:St)(k:Fr→St→Prop)(r:LR):Prop:=
 cX G r.ok∧dlt N dst∧k (fr.mV dst (.cond G r.d)) (bif G then r.Dv st else st)
def Hl(P:Program)(gl:Gl)(G:Bool)(dst:Option Nat)(fr:Fr)(st:St)(k:Fr→St→Prop)(g:FuncId)(args:List D):Prop:=
 ∃r ups,(G=true→Spec P gl g args st fun d st'=>d=r∧st'=puts st ups)∧(G=false→puts st ups=st)∧k (fr.mV dst (.cond G r)) (puts st ups)
def NQ(P:Program)(gl:Gl)(N:Nat)(G:Bool)(dst:Option Nat)(fr:Fr)(st:St)(k:Fr→St→Prop)(ok:Prop)(f:D)(args:List D):Prop:=
 match f with
 | .fn g first cap=>dlt N dst∧ok∧Hl P gl G dst fr st k g (first++args++cap)
 | _=>False
def Ev0(P:Program)(gl:Gl)(N:Nat)(k:Fr→St→Prop)(dst:Option Nat)(op:Op)(fr:Fr)(st:St):Nat→Prop
 |0=>EvR N dst fr st k (aop P gl true op fr (look st) 0)
 |1=>EvR N dst fr st k (aop P gl true op fr (look (st++[some .resv])) st.length)
 | _=>match op with
  | .call ⟨.value f,args,_⟩=>EvC P gl N dst fr st k (eok gl true fr f∧(∀x∈args.toList,eok gl true fr x)) (ev1 gl fr f) (args.toList.map (ev1 gl fr))
  | _=>False
def EvG(P:Program)(gl:Gl)(N:Nat)(k:Fr→St→Prop)(dst:Option Nat)(op:Op)(fr:Fr)(st:St):Nat→Option Bool→Prop
 |0,some G=>OE N G dst fr st k (aop P gl G op fr (look st) 0)
 |2,some G=>match op with
  | .call ⟨.value f,args,_⟩=>NQ P gl N G dst fr st k (eok gl G fr f∧(∀x∈args.toList,eok gl G fr x)) (ev1 gl fr f) (args.toList.map (ev1 gl fr))
  | _=>False
 | _,_=>False
def Ke(fr:Fr)(want:Bool):Option Nat→Option Bool
 |some t=>OD want (fr.get t)
 |none=>none
def Ev(P:Program)(gl:Gl)(N:Nat)(ops:Array Oper)(K:Fr→St→Prop):List Oper→Fr→St→Prop
 | [],fr,st=>K fr st
 |⟨dst,op,_,_,_,none⟩::l,fr,st=>Ev0 P gl N (Ev P gl N ops K l) dst op fr st (opk op)
 |⟨dst,op,_,_,_,some (j,want)⟩::l,fr,st=>EvG P gl N (Ev P gl N ops K l) dst op fr st (opk op) (Ke fr want (gslot ops j))
theorem Ho{fr:Fr}{dst:Option Nat}{op:Op}{ty:TypeId}{pos:String}{af:Array Edge}{j:Nat}{want G:Bool}(hg:Ke fr want (gslot ops j)=some G):
 guardOf ops fr ⟨dst,op,ty,pos,af,some (j,want)⟩=G∧jh ops fr ⟨dst,op,ty,pos,af,some (j,want)⟩=True:=by
 unfold gslot at hg
 cases hj:(ops[j]?).bind (·.dst)with
 |none=>rw[hj]at hg;cases hg
 |some t=>
  rw[hj]at hg
  simp only[guardOf,jh,hj]
  simp only[Ke]at hg
  cases hd:fr.get t<;>rw[hd]at hg<;>simp only[OD]at hg<;>first|(cases hg;done)|skip
  ·cases hg;exact⟨rfl,rfl⟩
  ·rename_i c d
   cases d<;>simp only at hg<;>first|(cases hg;done)|skip
   cases hg;exact⟨rfl,rfl⟩
theorem nS{op:Op}(h:opk op≠0)(h1:opk op≠1):∃f args ats,op= .call ⟨.value f,args,ats⟩:=by
 cases op<;>first|exact absurd rfl h|exact absurd rfl h1|skip
 rename_i c
 obtain⟨callee,args,argTypes⟩:=c
 cases callee with
 |builtin b=>cases b<;>first|exact absurd rfl h|exact absurd rfl h1
 |value f=>exact⟨f,args,argTypes,rfl⟩
 |invoke r m=>exact absurd rfl h
theorem yR{K:Fr→St→Prop}:∀(l:List Oper) (fr:Fr) (st:St) (ok:Prop),ok→Ev P gl N ops K l fr st→Run P gl N ops l ⟨fr,st,ok⟩ K
 | [],fr,st,ok,hok,h=>⟨hok,h⟩
 |⟨dst,op,ty,pos,af,none⟩::l,fr,st,ok,hok,h=>by
  simp only[Ev]at h
  by_cases h0:opk op=0
  ·rw[h0]at h
   obtain⟨a,b,c⟩:=h
   obtain⟨h1,h2⟩:=(qm op).1 h0
   simp only[Run,h1]
   have:=yR l _ _ (ok∧qX N ⟨dst,op,ty,pos,af,none⟩∧True∧(true=true→(aop P gl true op fr (look st) 0).ok)) ⟨hok,b,trivial,fun _=>a⟩ c
   simpa only[FK,h2,guardOf,jh,Gz,cond_true,Bool.false_eq_true,if_false]using this
  ·by_cases h1:opk op=1
   ·rw[h1]at h
    obtain⟨a,b,c⟩:=h
    obtain⟨h1,h2⟩:=(qm op).2 h1
    simp only[Run,h1]
    have:=yR l _ _ (ok∧qX N ⟨dst,op,ty,pos,af,none⟩∧True∧(true=true→(aop P gl true op fr (look (st++[some .resv])) st.length).ok)) ⟨hok,b,trivial,fun _=>a⟩ c
    simpa only[FK,h2,guardOf,jh,Gz,cond_true,if_true]using this
   ·obtain⟨f,args,ats,rfl⟩:=nS h0 h1
    simp only[opk,Ev0,EvC]at h
    simp only[Run,gZ,guardOf,jh]
    cases hf:ev1 gl fr f<;>rw[hf]at h<;>first|exact h.elim|skip
    obtain⟨a,⟨b,c⟩,d⟩:=h
    exact⟨hok,a,trivial,b,c,d.mono fun d st' h=>yR l _ _ True trivial h⟩
 |⟨dst,op,ty,pos,af,some (j,want)⟩::l,fr,st,ok,hok,h=>by
  simp only[Ev]at h
  cases hg:Ke fr want (gslot ops j)with
  |none=>rw[hg]at h;unfold EvG at h;split at h<;>first|exact h.elim|(rename_i e;cases e)
  |some G=>
   rw[hg]at h
   obtain⟨g1,g2⟩:=Ho (dst:=dst) (op:=op) (ty:=ty) (pos:=pos) (af:=af) hg
   by_cases h0:opk op=0
   ·rw[h0]at h
    obtain⟨a,b,c⟩:=h
    obtain⟨h1,h2⟩:=(qm op).1 h0
    simp only[Run,h1]
    have:=yR l _ _ (ok∧qX N ⟨dst,op,ty,pos,af,some (j,want)⟩∧True∧(G=true→(aop P gl G op fr (look st) 0).ok)) ⟨hok,b,trivial,a⟩ c
    simpa only[FK,h2,g1,g2,Gz,Bool.false_eq_true,if_false]using this
   ·by_cases h1:opk op=1
    ·rw[h1]at h;exact h.elim
    ·obtain⟨f,args,ats,rfl⟩:=nS h0 h1
     simp only[opk,EvG,NQ]at h
     simp only[Run,gZ,g1,g2]
     cases hf:ev1 gl fr f<;>rw[hf]at h<;>first|exact h.elim|skip
     obtain⟨a,⟨b,c⟩,r,ups,d,d2,e⟩:=h
     exact⟨hok,a,trivial,b,c,r,ups,d,d2,yR l _ _ True trivial e⟩
theorem er_{id:Nat}{l:List Oper}(h:Ev P gl N l.toArray (fun fr st=>Q .normal (Fr.only keep fr) st) l fr st):AWp P gl N n0 keep (.region id l.toArray false) Q fr st:=
 FM (yR _ _ _ _ trivial h)
def Then(P:Program)(gl:Gl)(N n0:Nat)(keep:List Nat)(c:Code)(Q:AQ)(fr:Fr)(st:St):Prop:=AWp P gl N n0 keep c Q (Fr.only keep fr) st
theorem then_eq{c:Code}:Then P gl N n0 keep c Q fr st=AWp P gl N n0 keep c Q (Fr.only keep fr) st:=rfl
@[congr] theorem QT{l:List Oper}{K:Fr→St→Prop}{fr fr':Fr}{st st':St}(h:fr=fr')(h2:st=st'):Ev P gl N ops K l fr st=Ev P gl N ops K l fr' st':=by rw[h,h2]
@[congr] theorem OG{dst:Option Nat}{k:Fr→St→Prop}{r r':LR}(h:r=r'):EvR N dst fr st k r=EvR N dst fr st k r':=by rw[h]
@[congr] theorem NR{G:Bool}{dst:Option Nat}{k:Fr→St→Prop}{r r':LR}(h:r=r'):OE N G dst fr st k r=OE N G dst fr st k r':=by rw[h]
@[congr] theorem OH{dst:Option Nat}{op:Op}{k:Fr→St→Prop}{n n':Nat}(h:n=n'):Ev0 P gl N k dst op fr st n=Ev0 P gl N k dst op fr st n':=by rw[h]
@[congr] theorem OI{dst:Option Nat}{op:Op}{k:Fr→St→Prop}{n n':Nat}{g g':Option Bool}(h:n=n')(h2:g=g'):EvG P gl N k dst op fr st n g=EvG P gl N k dst op fr st n' g':=by rw[h,h2]
@[congr] theorem OJ{dst:Option Nat}{k:Fr→St→Prop}{a a':Prop}{f f':D}{args args':List D}(h:a=a')(h2:f=f')(h3:args=args'):EvC P gl N dst fr st k a f args=EvC P gl N dst fr st k a' f' args':=by rw[h,h2,h3]
@[congr] theorem NS{G:Bool}{dst:Option Nat}{k:Fr→St→Prop}{a a':Prop}{f f':D}{args args':List D}(h:a=a')(h2:f=f')(h3:args=args'):NQ P gl N G dst fr st k a f args=NQ P gl N G dst fr st k a' f' args':=by rw[h,h2,h3]
@[congr] theorem OL{c:Code}{fr fr':Fr}{st st':St}(h:fr=fr')(h2:st=st'):AWp P gl N n0 keep c Q fr st=AWp P gl N n0 keep c Q fr' st':=by rw[h,h2]
@[congr] theorem NT{f:FuncId}{args args':List D}{st st':St}{R:D→St→Prop}(h:args=args')(h2:st=st'):Spec P gl f args st R=Spec P gl f args' st' R:=by rw[h,h2]
def rsD(P:Program)(fr:Fr)(st:St):List ResultVar→D
 | [r]=>(kQ P st fr r).d
 |rs=>.tup (rs.map fun r=>(kQ P st fr r).d)
def NU(P:Program)(fr:Fr)(st:St):List ResultVar→Prop
 | []=>True
 |r::l=>(kQ P st fr r).ok∧NU P fr st l
def ends(n0:Nat)(R:D→St→Prop)(d:D)(st:St):Prop:=∃s t,st=s++t∧n0≤s.length∧D.sc s.length d∧nQ s.length s∧R d s
def RD(P:Program)(rs:List ResultVar)(n0:Nat)(R:D→St→Prop):AQ
 | .exit _,_,_=>False
 | _,fr,st=>NU P fr st rs∧ends n0 R (rsD P fr st rs) st
theorem Ew{fr:Fr}{st:St}:∀(rs:List ResultVar),NU P fr st rs→∀r∈rs,(kQ P st fr r).ok
 |r::l,h,x,hx=>by
  rcases List.mem_cons.1 hx with e|e
  ·subst e;exact h.1
  ·exact Ew l h.2 x e
@[congr] theorem NV{n:Nat}{st st':St}{R:D→St→Prop}{d d':D}(h:d=d')(h2:st=st'):ends n R d st=ends n R d' st':=by rw[h,h2]
variable {dst:Option Nat} {k:Fr→St→Prop} {p:Prop} {d:D} {rd:List Nat} {o:Nat} {ob:Ob} {G:Bool} {K:Fr→St→Prop} {op:Op} {l:List Oper}
@[congr] theorem Mi{f:FuncId}{args args':List D}(h:args=args'):Hl P gl G dst fr st k f args=Hl P gl G dst fr st k f args':=by rw[h]
theorem SL:Ev P gl N ops K [] fr st=K fr st:=rfl
theorem SM{o:Oper}{l':List Oper}:Ev P gl N ops K (List.append (o::l) l') fr st=Ev P gl N ops K (o::List.append l l') fr st:=rfl
theorem RE{l':List Oper}:Ev P gl N ops K (List.append [] l') fr st=Ev P gl N ops K l' fr st:=rfl
theorem RF{ty:TypeId}{pos:String}{af:Array Edge}:Ev P gl N ops K (⟨dst,op,ty,pos,af,none⟩::l) fr st=Ev0 P gl N (Ev P gl N ops K l) dst op fr st (opk op):=rfl
theorem QU{ty:TypeId}{pos:String}{af:Array Edge}{j:Nat}{want:Bool}:Ev P gl N ops K (⟨dst,op,ty,pos,af,some (j,want)⟩::l) fr st=EvG P gl N (Ev P gl N ops K l) dst op fr st (opk op) (Ke fr want (gslot ops j)):=rfl
theorem Uh:Ev0 P gl N k dst op fr st 0=EvR N dst fr st k (aop P gl true op fr (look st) 0):=rfl
theorem Ui:Ev0 P gl N k dst op fr st 1=EvR N dst fr st k (aop P gl true op fr (look (st++[some .resv])) st.length):=rfl
theorem Uj{f:Operand}{args:Array Operand}{ats:Array TypeId}:Ev0 P gl N k dst (.call ⟨.value f,args,ats⟩) fr st 2=EvC P gl N dst fr st k (eok gl true fr f∧(∀x∈args.toList,eok gl true fr x)) (ev1 gl fr f) (args.toList.map (ev1 gl fr)):=rfl
theorem Uk:EvG P gl N k dst op fr st 0 (some G)=OE N G dst fr st k (aop P gl G op fr (look st) 0):=rfl
theorem Ul{f:Operand}{args:Array Operand}{ats:Array TypeId}:EvG P gl N k dst (.call ⟨.value f,args,ats⟩) fr st 2 (some G)=NQ P gl N G dst fr st k (eok gl G fr f∧(∀x∈args.toList,eok gl G fr x)) (ev1 gl fr f) (args.toList.map (ev1 gl fr)):=rfl
theorem OM{t:Nat}{want:Bool}:Ke fr want (some t)=OD want (fr.get t):=rfl
theorem OO{b want:Bool}:OD want (.bool b)=some (b==want):=rfl
theorem OP{c b want:Bool}:OD want (.cond c (.bool b))=some (c&&(b==want)):=rfl
theorem Um:EvR N dst fr st k ⟨d,p,rd,none,none⟩=(p∧dlt N dst∧k (fr.mV dst d) st):=rfl
theorem Un:EvR N dst fr st k ⟨d,p,rd,some (o,ob),none⟩=(p∧dlt N dst∧k (fr.mV dst d) (st.set o (some ob))):=rfl
theorem Uo:EvR N dst fr st k ⟨d,p,rd,none,some ob⟩=(p∧dlt N dst∧k (fr.mV dst d) (st++[some ob])):=rfl
theorem SN:OE N G dst fr st k ⟨d,p,rd,none,none⟩=(cX G p∧dlt N dst∧k (fr.mV dst (.cond G d)) st):=by cases G<;>rfl
theorem SQ{g:FuncId}{first cap args:List D}:EvC P gl N dst fr st k p (.fn g first cap) args=(dlt N dst∧p∧Spec P gl g (first++args++cap) st fun d st'=>k (fr.mV dst d) st'):=rfl
theorem RG{g:FuncId}{first cap args:List D}:NQ P gl N G dst fr st k p (.fn g first cap) args=(dlt N dst∧p∧Hl P gl G dst fr st k g (first++args++cap)):=rfl
theorem P4{f:FuncId}{args:List D}{r:D}(h:G=true→Pure P gl f args r)(hk:k (fr.mV dst (.cond G r)) st):
 Hl P gl G dst fr st k f args:=
 ⟨r,[],fun e=>h e st,fun _=>rfl,hk⟩
theorem QV{t:Nat}:dlt N (some t)=(t<N):=rfl
theorem QW:dlt N none=True:=rfl
theorem SR{up:Option (Nat×Ob)}{nw:Option Ob}{q:Prop}:(LR.mk d p rd up nw).and q=⟨d,q∧p,rd,up,nw⟩:=rfl
variable {keep:List Nat}
theorem get_nil{t:Nat}:Fr.get [] t= .any:=rfl
theorem Kf{t k':Nat}{fr:Fr}:Fr.get ((k',d)::fr) t=if k'=t then d else Fr.get fr t:=rfl
theorem Mj{t:Nat}:Fr.put [] t d=[(t,d)]:=rfl
theorem Kg{t k':Nat}{e:D}{fr:Fr}:Fr.put ((k',e)::fr) t d=if k'=t then(k',d)::fr else(k',e)::Fr.put fr t d:=rfl
theorem Hq{t:Nat}:Fr.mV fr (some t) d=fr.put t d:=rfl
theorem Hr:Fr.mV fr none d=fr:=rfl
theorem Kh:Fr.only keep []=[]:=rfl
theorem Hs{t:Nat}{fr:Fr}:Fr.only keep ((t,d)::fr)=if keep.contains t then(t,d)::Fr.only keep fr else Fr.only keep fr:=rfl
theorem cV{s t:St}{k':Nat}:look (s++t) (s.length+k')=look t k':=by
 unfold look;rw[List.getElem?_append_right (by omega)];congr 2;omega
theorem Ht{s t:St}:look (s++t) s.length=look t 0:=by
 unfold look;rw[List.getElem?_append_right (by omega)];simp
theorem FN{x:Option Ob}{t:St}:look (x::t) 0=x:=by cases x<;>rfl
theorem FP{x:Option Ob}{t:St}{k':Nat}:look (x::t) (k'+1)=look t k':=rfl
theorem Hu{s t:St}{k':Nat}{x:Option Ob}:(s++t).set (s.length+k') x=s++t.set k' x:=by
 rw[List.set_append_right _ _ (by omega)];congr 2;omega
theorem Ki{s t:St}{x:Option Ob}:(s++t).set s.length x=s++t.set 0 x:=by
 rw[List.set_append_right _ _ (by omega)];simp
theorem Kj{b:Bool}:D.one (.bool b)=true:=rfl
theorem Mk{k:IntKind}{n:Int}:D.one (.int k n)=true:=rfl
theorem Ml{s:Bs}:D.one (.str s)=true:=rfl
theorem Kk:D.one .rH=true:=rfl
theorem Kl:D.one .B3=true:=rfl
theorem Km:D.one .kJ=true:=rfl
theorem Kn:D.one .En=true:=rfl
theorem OQ{f:Bool}{n b:Nat}{es:List (List D)}:D.one (.sl f n b es)=true:=rfl
theorem OT{f:Nat}{a b:List D}:D.one (.fn f a b)=true:=rfl
theorem Ko{cs:List D}:D.one (.rI cs)=true:=rfl
theorem Mn{f:Bool}{o g a b:Nat}:D.one (.ref f o g a b)=true:=rfl
theorem Mp{o g i c:Nat}:D.one (.ptr o g i c)=true:=rfl
theorem OU{o:Nat}:D.one (.mp o)=true:=rfl
theorem OV{o:Nat}:D.one (.it o)=true:=rfl
theorem Kp{cs:List D}:D.one (.agg cs)=false:=rfl
theorem RH{cs:List D}:mkv true cs= .agg cs:=rfl
theorem RI{x:D}{cs:List D}:mkv false (x::cs)=x:=rfl
end
attribute [go_sem] SM RE SL RF QU Uh Ui Uj Uk Ul OM OO OP Um Un Uo SN SQ RG QV QW SR
 then_eq opk aop ev1 ev eok strip zJ get_nil Kf Mj Kg Hq Hr Kh Hs cV Ht FN FP Hu Ki
 zM yG xY qJ Ox dW rJ V0 lW oD rM rP kL aD gH qN uV kM bq tC aEq aUn iG fj ke W3 GK JO JQ rQ
 D.plain cellsOf jN splice mX AP kK iE mH oE JN xOk FC tB assoc L5 qV yL mI P2 AO RH RI Kj Mk Ml Kk Kl Km Kn OQ OT Ko Mn Mp OU OV Kp wu elemOf keyOf TK.agg
 AQ.then AQ.block RD kQ rsD NU IntKind.signed
 eq_self true_and and_true and_self implies_true forall_const List.map_cons List.map_nil List.length_cons List.length_nil List.take_succ_cons List.take_zero List.drop_succ_cons List.drop_zero FB List.cons_append List.nil_append List.append_nil List.all_cons List.all_nil Bool.and_self Bool.and_true Bool.true_and Bool.and_false Bool.false_and
 List.getD_cons_zero List.getD_cons_succ List.getD_nil List.set_cons_zero List.set_cons_succ List.getElem?_cons_zero List.getElem?_cons_succ ne_eq not_false_eq_true Bool.false_eq_true if_true if_false cond_true cond_false List.mem_cons List.not_mem_nil or_false forall_eq forall_eq_or_imp List.append_assoc List.length_append List.replicate_zero List.replicate_succ not_true_eq_false beq_self_eq_true Bool.not_true Bool.not_false List.contains_cons List.contains_nil Bool.or_true Bool.true_or Bool.or_false Bool.false_or
section
variable {P:Program} {gl:Gl} {fr fr':Fr} {lk lk':Look} {q:Nat} {g:Bool} {op:Op}
theorem OW(H:∀x∈op.operands,ev gl fr x=ev gl fr' x):aop P gl g op fr lk q=aop P gl g op fr' lk q:=by
 have H1:∀x∈op.operands,ev1 gl fr x=ev1 gl fr' x:=fun x h=>by simp only[ev1,H x h]
 have H2:∀g x,x∈op.operands→eok gl g fr x=eok gl g fr' x:=fun g x h=>by simp only[eok,H x h]
 cases op with
 |pick c a b=>
  have k1:=H1 c (by simp[Op.operands])
  have k2:=H1 a (by simp[Op.operands])
  have k3:=H1 b (by simp[Op.operands])
  simp only[aop,k1,k2,k3,fun g=>H2 g c (by simp[Op.operands]),fun g=>H2 g a (by simp[Op.operands]),fun g=>H2 g b (by simp[Op.operands])]
 |build t ps=>
  have h1:(ps.toList.map fun p=>(p.1,ev1 gl fr p.2))=ps.toList.map fun p=>(p.1,ev1 gl fr' p.2):=List.map_congr_left fun p hp=>by rw[H1 p.2 (by simp only[Op.operands,List.mem_toArray,List.mem_map];exact⟨p,hp,rfl⟩)]
  have h2:(∀p∈ps.toList,eok gl g fr p.2)= ∀p∈ps.toList,eok gl g fr' p.2:=forall_congr fun p=>propext ⟨fun h hp=>by rw[←H2 g p.2 (by simp only[Op.operands,List.mem_toArray,List.mem_map];exact⟨p,hp,rfl⟩)];exact h hp,fun h hp=>by rw[H2 g p.2 (by simp only[Op.operands,List.mem_toArray,List.mem_map];exact⟨p,hp,rfl⟩)];exact h hp⟩
  simp only[aop,h1,h2]
 |buildSlice t len ps=>
  have h1:(ps.toList.map fun p=>(p.1,ev1 gl fr p.2))=ps.toList.map fun p=>(p.1,ev1 gl fr' p.2):=List.map_congr_left fun p hp=>by rw[H1 p.2 (by simp only[Op.operands,List.mem_toArray,List.mem_map];exact⟨p,hp,rfl⟩)]
  have h2:(∀p∈ps.toList,eok gl g fr p.2)= ∀p∈ps.toList,eok gl g fr' p.2:=forall_congr fun p=>propext ⟨fun h hp=>by rw[←H2 g p.2 (by simp only[Op.operands,List.mem_toArray,List.mem_map];exact⟨p,hp,rfl⟩)];exact h hp,fun h hp=>by rw[H2 g p.2 (by simp only[Op.operands,List.mem_toArray,List.mem_map];exact⟨p,hp,rfl⟩)];exact h hp⟩
  simp only[aop,h1,h2]
 |makeFunc f a b=>
  cases f with
  |func f=>
   have h1:∀c:Array Operand,(∀x∈c.toList,x∈(Op.makeFunc (.func f) a b).operands)→c.toList.map (ev1 gl fr)=c.toList.map (ev1 gl fr'):=fun c hc=>List.map_congr_left fun x hx=>H1 x (hc x hx)
   have h2:∀c:Array Operand,(∀x∈c.toList,x∈(Op.makeFunc (.func f) a b).operands)→(∀x∈c.toList,eok gl g fr x)= ∀x∈c.toList,eok gl g fr' x:=fun c hc=>
    forall_congr fun x=>propext ⟨fun h hx=>by rw[←H2 g x (hc x hx)];exact h hx,fun h hx=>by rw[H2 g x (hc x hx)];exact h hx⟩
   have ha:∀x∈a.toList,x∈(Op.makeFunc (.func f) a b).operands:=fun x hx=>by simp only[Op.operands,Array.mem_append];exact .inl (by simpa using hx)
   have hb:∀x∈b.toList,x∈(Op.makeFunc (.func f) a b).operands:=fun x hx=>by simp only[Op.operands,Array.mem_append];exact .inr (by simpa using hx)
   simp only[aop,h1 a ha,h1 b hb,h2 a ha,h2 b hb]
  | _=>rfl
 |makeMap t r=>cases r<;>rfl
 |slice t x lo hi mx=>
  have hx:=H1 x (by simp[Op.operands])
  have hx2:=H2 g x (by simp[Op.operands])
  have key:∀z:Option Operand,(∀y∈z,y∈(Op.slice t x lo hi mx).operands)→z.map (ev1 gl fr)=z.map (ev1 gl fr')∧(∀y∈z,eok gl g fr y)= ∀y∈z,eok gl g fr' y:=fun z hz=>by
   cases z with
   |none=>simp
   |some y=>have:=hz y rfl;simp[H1 y this,H2 g y this]
  obtain⟨a1,a2⟩:=key lo (fun y hy=>by cases hy;simp[Op.operands])
  obtain⟨b1,b2⟩:=key hi (fun y hy=>by cases hy;simp[Op.operands])
  obtain⟨c1,c2⟩:=key mx (fun y hy=>by cases hy;simp[Op.operands])
  simp only[aop,hx,hx2,a1,a2,b1,b2,c1,c2]
 |call c=>
  obtain⟨callee,args,ats⟩:=c
  cases callee with
  |value f=>rfl
  |invoke r m=>rfl
  |builtin b=>
   have h1:∀x∈args.toList,ev1 gl fr x=ev1 gl fr' x:=fun x hx=>H1 x (by simp only[Op.operands,Call.operands];simpa using hx)
   have h2:∀x∈args.toList,eok gl g fr x=eok gl g fr' x:=fun x hx=>H2 g x (by simp only[Op.operands,Call.operands];simpa using hx)
   simp only[aop]
   generalize args.toList=l at h1 h2
   split
   ·simp only[List.mem_cons,List.not_mem_nil,or_false,forall_eq]at h1 h2;rw[h1,h2]
   ·simp only[List.mem_cons,List.not_mem_nil,or_false,forall_eq_or_imp,forall_eq]at h1 h2;rw[h1.1,h1.2,h2.1,h2.2]
   ·simp only[List.mem_cons,List.not_mem_nil,or_false,forall_eq_or_imp,forall_eq]at h1 h2;rw[h1.1,h1.2,h2.1,h2.2]
   ·simp only[List.mem_cons,List.not_mem_nil,or_false,forall_eq_or_imp,forall_eq]at h1 h2;rw[h1.1,h1.2,h2.1,h2.2]
   ·rfl
 | _=>first|rfl|(simp only[Op.operands,List.mem_toArray,List.mem_cons,List.not_mem_nil,or_false,forall_eq_or_imp,forall_eq]at H1 H2;simp only[aop,H1,H2 g,true_or,or_true])
end
def D.top:D→Option Nat
 | .ref _ o _ _ _=>some o
 | .ptr o _ _ _=>some o
 | .mp o=>some o
 | .it o=>some o
 | _=>none
def Loc(f:Look→LR)(ds:List D):Prop:=
 ∀lk,(f lk).ok→(∀o∈(f lk).rd,(∃d∈ds,d.top=some o)∧∃ob,lk o=some ob∧ob≠ .resv)∧∀lk',(∀o∈(f lk).rd,lk' o=lk o)→f lk'=f lk
theorem M4{r:LR}{ds:List D}(h:r.rd=[]):Loc (fun _=>r) ds:=fun _ _=>⟨fun o ho=>(by simp only at ho;rw[h]at ho;cases ho),fun _ _=>rfl⟩
theorem Loc.and{f:Look→LR}{ds:List D}(h:Loc f ds)(p:Prop):Loc (fun lk=>(f lk).and p) ds:=fun lk hok=>
 ⟨(h lk hok.2).1,fun lk' h'=>by show(f lk').and p=(f lk).and p;rw[(h lk hok.2).2 lk' h']⟩
theorem Loc.sub{f:Look→LR}{ds ds':List D}(h:Loc f ds)(hd:∀d∈ds,d∈ds'):Loc f ds':=fun lk hok=>
 ⟨fun o ho=>by obtain⟨⟨d,h1,h2⟩,h3⟩:=(h lk hok).1 o ho;exact⟨⟨d,hd d h1,h2⟩,h3⟩,(h lk hok).2⟩
section
variable {i e:TI} {d x key:D} {n q:Nat}
theorem Ey:Loc (fun lk=>xY i lk d) [d]:=fun lk hok=>by
 cases d with
 |ptr o g k c=>
  simp only[xY]at hok⊢
  cases h:lk o with
  |none=>rw[h]at hok;exact hok.elim
  |some ob=>
   rw[h]at hok
   cases ob with
   |arr g' n' b es=>
    simp only[List.mem_singleton,forall_eq]
    exact⟨⟨⟨_,rfl,rfl⟩,_,h,Ob.noConfusion⟩,fun lk' h'=>by rw[h',h]⟩
   | _=>exact hok.elim
 |rI cs=>exact⟨fun o ho=>(by cases ho),fun _ _=>rfl⟩
 | _=>exact hok.elim
theorem Bh:Loc (fun lk=>qJ i lk x d) [d]:=fun lk hok=>by
 cases d with
 |ptr o g k c=>
  simp only[qJ]at hok⊢
  cases h:lk o with
  |none=>rw[h]at hok;exact hok.elim
  |some ob=>
   rw[h]at hok
   cases ob with
   |arr g' n' b es=>
    simp only[List.mem_singleton,forall_eq]
    exact⟨⟨⟨_,rfl,rfl⟩,_,h,Ob.noConfusion⟩,fun lk' h'=>by rw[h',h]⟩
   | _=>exact hok.elim
 | _=>exact hok.elim
theorem rV{y:D}:Loc (fun lk=>V0 i e lk x y) [x]:=fun lk hok=>by
 cases y with
 |int kk m=>
  simp only[V0]at hok⊢
  generalize i.k=ik at hok⊢
  cases ik with
  |slice e=>
   cases x with
   |ref full o g off len=>
    simp only at hok⊢
    cases h:lk o with
    |none=>rw[h]at hok;exact hok.elim
    |some ob=>
     rw[h]at hok
     cases ob with
     |arr g' n' b es=>
      simp only[List.mem_singleton,forall_eq]
      exact⟨⟨⟨_,rfl,rfl⟩,_,h,Ob.noConfusion⟩,fun lk' h'=>by rw[h',h]⟩
     | _=>exact hok.elim
   |sl full n' b es=>exact⟨fun o ho=>(by cases ho),fun _ _=>rfl⟩
   | _=>exact hok.elim
  |arr len e=>
   cases x with
   |ptr o g k c=>exact⟨fun o ho=>(by cases ho),fun _ _=>rfl⟩
   |rI cs=>exact⟨fun o ho=>(by cases ho),fun _ _=>rfl⟩
   | _=>exact hok.elim
  | _=>exact hok.elim
 | _=>exact hok.elim
theorem Bj{lo hi mx:Option D}:Loc (fun lk=>oD i n lk x lo hi mx) [x]:=fun lk hok=>by
 cases x with
 |ref full o g off len=>
  simp only[oD]at hok⊢
  cases h:lk o with
  |none=>rw[h]at hok;exact hok.elim
  |some ob=>
   rw[h]at hok
   cases ob with
   |arr g' n' b es=>
    simp only[List.mem_singleton,forall_eq]
    exact⟨⟨⟨_,rfl,rfl⟩,_,h,Ob.noConfusion⟩,fun lk' h'=>by rw[h',h]⟩
   | _=>exact hok.elim
 |str s=>exact⟨fun o ho=>(by cases ho),fun _ _=>rfl⟩
 |sl full n' b es=>exact⟨fun o ho=>(by cases ho),fun _ _=>rfl⟩
 |B3=>exact⟨fun o ho=>(by cases ho),fun _ _=>rfl⟩
 | _=>exact hok.elim
theorem yS{ki vi:TI}{c:Bool}:Loc (fun lk=>kM i ki vi lk c key d) [d]:=fun lk hok=>by
 cases d with
 |mp o=>
  simp only[kM]at hok⊢
  cases h:lk o with
  |none=>rw[h]at hok;exact hok.elim
  |some ob=>
   rw[h]at hok
   cases ob<;>first|(exact hok.elim)|skip
   all_goals
    cases key<;>first|(exact hok.elim)|skip
    simp only[List.mem_singleton,forall_eq]
    exact⟨⟨⟨_,rfl,rfl⟩,_,h,Ob.noConfusion⟩,fun lk' h'=>by rw[h',h]⟩
 | _=>exact hok.elim
theorem Ez{b:Bool}:Loc (fun lk=>uV lk b d) [d]:=fun lk hok=>by
 cases b with
 |false=>exact hok.elim
 |true=>
  cases d with
  |it o=>
   simp only[uV]at hok⊢
   cases h:lk o with
   |none=>rw[h]at hok;exact hok.elim
   |some ob=>
    rw[h]at hok
    cases ob<;>first|(exact hok.elim)|skip
    all_goals
     simp only[List.mem_singleton,forall_eq]
     exact⟨⟨⟨_,rfl,rfl⟩,_,h,Ob.noConfusion⟩,fun lk' h'=>by rw[h',h]⟩
  | _=>exact hok.elim
theorem rW{ki vi:TI}:Loc (fun lk=>bq i ki vi lk key x d) [d]:=fun lk hok=>by
 cases d with
 |mp o=>
  simp only[bq]at hok⊢
  cases h:lk o with
  |none=>rw[h]at hok;exact hok.elim
  |some ob=>
   rw[h]at hok
   cases ob<;>first|(exact hok.elim)|skip
   all_goals
    cases key<;>first|(exact hok.elim)|skip
    simp only[List.mem_singleton,forall_eq]
    exact⟨⟨⟨_,rfl,rfl⟩,_,h,Ob.noConfusion⟩,fun lk' h'=>by rw[h',h]⟩
 | _=>exact hok.elim
theorem Hv:Loc (fun lk=>GK i lk d) [d]:=fun lk hok=>by
 cases d with
 |ref full o g off len=>
  simp only[GK]at hok⊢
  cases h:lk o with
  |none=>rw[h]at hok;exact hok.elim
  |some ob=>
   rw[h]at hok
   cases ob with
   |arr g' n' b es=>
    simp only[List.mem_singleton,forall_eq]
    exact⟨⟨⟨_,rfl,rfl⟩,_,h,Ob.noConfusion⟩,fun lk' h'=>by rw[h',h]⟩
   | _=>exact hok.elim
 |mp o=>
  simp only[GK]at hok⊢
  cases h:lk o with
  |none=>rw[h]at hok;exact hok.elim
  |some ob=>
   rw[h]at hok
   cases ob<;>first|(exact hok.elim)|skip
   all_goals
    simp only[List.mem_singleton,forall_eq]
    exact⟨⟨⟨_,rfl,rfl⟩,_,h,Ob.noConfusion⟩,fun lk' h'=>by rw[h',h]⟩
 |str s=>exact⟨fun o ho=>(by cases ho),fun _ _=>rfl⟩
 |sl full n' b es=>exact⟨fun o ho=>(by cases ho),fun _ _=>rfl⟩
 |B3=>exact⟨fun o ho=>(by cases ho),fun _ _=>rfl⟩
 |En=>exact⟨fun o ho=>(by cases ho),fun _ _=>rfl⟩
 | _=>exact hok.elim
theorem Kq{lk:Look}{news:List (List D)}(h:oE lk e x=some news):(∀o∈JN x,x.top=some o∧∃ob,lk o=some ob∧ob≠ .resv)∧∀lk',(∀o∈JN x,lk' o=lk o)→oE lk' e x=some news:=by
 cases x with
 |ref full o g off len=>
  simp only[oE]at h
  simp only[JN,List.mem_singleton,forall_eq]
  cases hl:lk o with
  |none=>rw[hl]at h;cases h
  |some ob=>
   rw[hl]at h
   cases ob with
   |arr g' n' b es=>exact⟨⟨rfl,_,rfl,Ob.noConfusion⟩,fun lk' h'=>by simp only[oE,h'];exact h⟩
   | _=>cases h
 | _=>exact⟨fun o ho=>(by cases ho),fun _ _=>h⟩
theorem yT{xk:TK}{s:D}:Loc (fun lk=>W3 i e xk lk s x q) [s,x]:=fun lk hok=>by
 simp only[W3]at hok⊢
 cases hn:oE lk e x with
 |none=>rw[hn]at hok;exact hok.elim
 |some news=>
  rw[hn]at hok
  obtain⟨n1,n2⟩:=Kq hn
  have hx:∀o∈JN x,(∃d∈ [s,x],d.top=some o)∧∃ob,lk o=some ob∧ob≠ .resv:=fun o ho=>⟨⟨x,by simp,(n1 o ho).1⟩,(n1 o ho).2⟩
  cases s with
  |B3=>exact⟨hx,fun lk' h'=>by simp only[n2 lk' h']⟩
  |sl full n' b es=>
   cases full with
   |true=>exact⟨hx,fun lk' h'=>by simp only[n2 lk' h']⟩
   |false=>exact hok.elim
  |ref full o g off len=>
   cases full<;>
   ·simp only at hok⊢
    cases hl:lk o with
    |none=>rw[hl]at hok;exact hok.elim
    |some ob=>
     rw[hl]at hok
     cases ob with
     |arr g' n' b es=>
      simp only[List.mem_cons,forall_eq_or_imp]
      exact⟨⟨⟨⟨_,.inl rfl,rfl⟩,_,hl,Ob.noConfusion⟩,fun o ho=>by simpa using hx o ho⟩,fun lk' h'=>by simp only[n2 lk' h'.2,h'.1,hl]⟩
     | _=>exact hok.elim
  | _=>exact hok.elim
theorem zN{parts:List (Nat×D)}:(rM i e parts).rd=[]:=by unfold rM;split<;>rfl
theorem zO{f:Nat}:(rJ i f x).rd=[]:=by unfold rJ;(repeat' split)<;>rfl
theorem oU{f:Nat}:(dW i f x).rd=[]:=by unfold dW;(repeat' split)<;>rfl
theorem zP{y:D}:(lW i e x y).rd=[]:=by unfold lW;(repeat' split)<;>rfl
theorem Hw{o:BinOp}{y:D}:(tC o x y).rd=[]:=by
 unfold tC
 split
 ·split<;>first|rfl|skip
  split<;>first|rfl|skip
  split<;>first|rfl
 ·split<;>rfl
 ·rfl
theorem Mq{fl:Option (List Nat)}{b:Bool}{y:D}:(aEq i fl b x y).rd=[]:=by unfold aEq;(repeat' split)<;>rfl
theorem Mr{o:UnOp}:(aUn o x).rd=[]:=by
 unfold aUn;split
 ·rfl
 ·rfl
 ·rfl
theorem qZ{x:D}:(fj x).rd=[]:=by unfold fj;(repeat' split)<;>rfl
theorem tI{i e e2:TI}{x:D}:(iG i e e2 x).rd=[]:=by unfold iG;(repeat' split)<;>rfl
theorem tJ{ix:Nat}:(ke ix x).rd=[]:=by unfold ke;(repeat' split)<;>rfl
theorem Hy{y:D}:(JO x y).rd=[]:=by unfold JO;split<;>rfl
theorem Hz{y:D}:(JQ x y).rd=[]:=by unfold JQ;split<;>rfl
theorem DA{y z:D}:(rQ x y z).rd=[]:=by unfold rQ;split<;>rfl
theorem zQ:(qN i q x).rd=[]:=by unfold qN;split<;>rfl
theorem tK{b:Bool}:(gH i e b q).rd=[]:=by unfold gH;(repeat' split)<;>rfl
theorem oV{y:D}:(aD i e x y q).rd=[]:=by unfold aD;split<;>rfl
end
theorem HA{P:Program}{gl:Gl}{fr:Fr}{q:Nat}{g:Bool}{op:Op}:Loc (fun lk=>aop P gl g op fr lk q) (op.operands.toList.map (ev1 gl fr)):=by
 have mem:∀x,x∈op.operands.toList→ev1 gl fr x∈op.operands.toList.map (ev1 gl fr):=fun x hx=>List.mem_map.2 ⟨x,hx,rfl⟩
 have one:∀ {f:Look→LR} {x:Operand},x∈op.operands.toList→Loc f [ev1 gl fr x]→Loc f (op.operands.toList.map (ev1 gl fr)):=fun hx h=>h.sub fun d hd=>by
  rw[List.mem_singleton]at hd;subst hd;exact mem _ hx
 cases op with
 |load t a=>exact one (by simp[Op.operands]) (Ey.and _)
 |store t a x=>exact one (x:=a) (by simp[Op.operands]) (Bh.and _)
 |indexAddr t x y=>exact one (x:=x) (by simp[Op.operands]) (rV.and _)
 |slice t x lo hi mx=>exact one (x:=x) (by simp[Op.operands]) (Bj.and _)
 |lookup t m k c=>exact one (x:=m) (by simp[Op.operands]) (yS.and _)
 |mapUpdate t m k x=>exact one (x:=m) (by simp[Op.operands]) (rW.and _)
 |call c=>
  obtain⟨callee,args,ats⟩:=c
  cases callee with
  |value f=>exact M4 rfl
  |invoke r m=>exact M4 rfl
  |builtin b=>
   have hmem:∀x,x∈args.toList→x∈(Op.call ⟨.builtin b,args,ats⟩).operands.toList:=fun x hx=>by simp only[Op.operands,Call.operands];simpa using hx
   simp only[aop]
   generalize hl:args.toList=l at hmem
   split
   ·exact one (hmem _ (by simp)) (Hv.and _)
   ·rename_i s x t u _
    exact(yT.and _).sub fun d hd=>by
     simp only[List.mem_cons,List.not_mem_nil,or_false]at hd
     rcases hd with rfl|rfl
     ·exact mem _ (hmem _ (by simp))
     ·exact mem _ (hmem _ (by simp))
   ·exact(M4 Hy).and _
   ·exact(M4 Hz).and _
   ·exact M4 rfl
 |pick c a b=>exact(M4 DA).and _
 |box t x=>exact(M4 rfl).and _
 |build t ps=>exact(M4 zN).and _
 |buildSlice t len ps=>
  simp only[aop]
  cases gl.imm t<;>exact(M4 rfl).and _
 |binOp o t x y u=>
  simp only[aop]
  split<;>first|exact(M4 Mq).and _|exact(M4 Hw).and _
 |unOp o t x=>exact(M4 Mr).and _
 |nilCheck x=>exact(M4 qZ).and _
 |convert s t x=>exact(M4 tI).and _
 |makeFunc f a b=>cases f<;>exact M4 rfl
 |makeMap t r=>cases r with
  |none=>exact M4 tK
  |some r=>exact M4 rfl
 |makeSlice t l c=>exact(M4 oV).and _
 |range t x=>exact(M4 zQ).and _
 |next x b=>exact one (x:=x) (by simp[Op.operands]) (Ez.and _)
 |fieldAddr t x f=>exact(M4 oU).and _
 |field t x f=>exact(M4 zO).and _
 |index t x y=>exact(M4 zP).and _
 |extract x j=>exact(M4 tJ).and _
 | _=>exact M4 rfl
section
variable {P:Program} {gl:Gl} {fr fr':Fr} {q:Nat} {g:Bool} {op:Op} {lk:Look}
theorem oW{f:Look→LR}{d:D}(h:Loc f [d]){o:Nat}(hok:(f lk).ok)(ho:o∈(f lk).rd):d.top=some o:=by
 obtain⟨⟨e,h1,h2⟩,_⟩:=(h lk hok).1 o ho
 rw[List.mem_singleton]at h1;subst h1;exact h2
theorem Ms{o:Nat}(hok:(aop P gl g op fr lk q).ok)(ho:o∈(aop P gl g op fr lk q).rd):∃x∈op.operands.toList,eok gl g fr x∧(ev1 gl fr x).top=some o:=by
 have none:∀ {r:LR},r.rd=[]→o∈r.rd→∃x∈op.operands.toList,eok gl g fr x∧(ev1 gl fr x).top=some o:=fun h ho=>by rw[h]at ho;cases ho
 cases op with
 |load t a=>exact⟨a,by simp[Op.operands],hok.1.1,oW Ey hok.2 ho⟩
 |store t a x=>exact⟨a,by simp[Op.operands],hok.1.1,oW (Bh) hok.2 ho⟩
 |indexAddr t x y=>exact⟨x,by simp[Op.operands],hok.1.1,oW (rV) hok.2 ho⟩
 |slice t x lo hi mx=>exact⟨x,by simp[Op.operands],hok.1.1,oW (Bj) hok.2 ho⟩
 |lookup t m k c=>exact⟨m,by simp[Op.operands],hok.1.1,oW (yS) hok.2 ho⟩
 |mapUpdate t m k x=>exact⟨m,by simp[Op.operands],hok.1.1,oW (rW) hok.2 ho⟩
 |next x b=>exact⟨x,by simp[Op.operands],hok.1,oW (Ez) hok.2 ho⟩
 |range t x=>exact none zQ ho
 |call c=>
  obtain⟨callee,args,ats⟩:=c
  cases callee with
  |value f=>cases ho
  |invoke r m=>cases ho
  |builtin b=>
   have hmem:∀x,x∈args.toList→x∈(Op.call ⟨.builtin b,args,ats⟩).operands.toList:=fun x hx=>by simp only[Op.operands,Call.operands];simpa using hx
   simp only[aop]at hok ho
   generalize args.toList=l at hmem hok ho
   revert hok ho
   split<;>intro hok ho
   ·exact⟨_,hmem _ (by simp),hok.1,oW Hv hok.2 ho⟩
   ·obtain⟨⟨d,h1,h2⟩,_⟩:=(yT _ hok.2).1 o ho
    simp only[List.mem_cons,List.not_mem_nil,or_false]at h1
    rcases h1 with rfl|rfl
    ·exact⟨_,hmem _ (by simp),hok.1.1,h2⟩
    ·exact⟨_,hmem _ (by simp),hok.1.2,h2⟩
   ·exact none Hy ho
   ·exact none Hz ho
   ·cases ho
 |pick c a b=>exact none DA ho
 |box t x=>cases ho
 |build t ps=>exact none zN ho
 |buildSlice t len ps=>revert ho;simp only[aop];cases gl.imm t<;>(intro ho;cases ho)
 |binOp o' t x y u=>
  simp only[aop]at ho
  split at ho<;>first|exact none Mq ho|exact none Hw ho
 |unOp o t x=>exact none Mr ho
 |nilCheck x=>exact none qZ ho
 |convert s t x=>exact none tI ho
 |makeFunc f a b=>cases f<;>cases ho
 |makeMap t r=>cases r with
  |none=>exact none tK ho
  |some r=>cases ho
 |makeSlice t l c=>exact none oV ho
 |fieldAddr t x f=>exact none oU ho
 |field t x f=>exact none zO ho
 |index t x y=>exact none zP ho
 |extract x j=>exact none tJ ho
 | _=>cases ho
theorem VR.Kr{w:World}{μ:Mu}{st:St}{v:Value}{d:D}{o:Nat}(h:VR w μ st v d)(ht:d.top=some o):st[o]? ≠some (some .resv):=by
 cases h with
 |tr h=>cases h<;>cases ht
 |ref=>cases ht;assumption
 |ptr=>cases ht;assumption
 |mp=>cases ht;assumption
 |it=>cases ht;assumption
 | _=>cases ht
def EA(r:LR):Prop:=∀o ob,r.up=some (o,ob)→o∈r.rd
theorem W4{r:LR}(h:r.up=none):EA r:=fun o ob e=>by rw[h]at e;cases e
theorem V9{r:LR}{p:Prop}(h:r.still):EA (r.and p):=W4 (by simp only[LR.and];exact h.1)
theorem zR:EA (aop P gl g op fr lk q):=by
 cases op with
 |store t a x=>
  refine fun o ob e=>?_
  simp only[aop,LR.and,qJ]at e⊢
  revert e
  cases ev1 gl fr a<;>try (intro e;cases e;done)
  rename_i o' g' k c
  simp only
  cases lk o' with
  |none=>intro e;cases e
  |some ob'=>cases ob'<;>(intro e;cases e)<;>simp
 |mapUpdate t m k x=>
  refine fun o ob e=>?_
  simp only[aop,LR.and,bq]at e⊢
  revert e
  cases ev1 gl fr m<;>try (intro e;cases e;done)
  rename_i o'
  simp only
  cases lk o' with
  |none=>intro e;cases e
  |some ob'=>cases ob'<;>try (intro e;cases e;done)
             all_goals (cases ev1 gl fr k<;>(intro e;cases e)<;>simp)
 |next x b=>
  refine fun o ob e=>?_
  simp only[aop,LR.and]at e⊢
  cases b with
  |false=>cases e
  |true=>
   revert e
   cases ev1 gl fr x<;>try (intro e;cases e;done)
   simp only[uV]
   rename_i o'
   cases lk o' with
   |none=>intro e;cases e
   |some ob'=>cases ob'<;>(intro e;cases e)<;>simp
 |range t x=>exact W4 (wC _ _ _)
 |call c=>
  obtain⟨callee,args,ats⟩:=c
  cases callee with
  |value f=>exact W4 rfl
  |invoke r m=>exact W4 rfl
  |builtin b=>
   simp only[aop]
   generalize args.toList=l
   split
   ·refine W4 ?_
    simp only[LR.and]
    exact(nh _ _ _).1
   ·refine fun o ob e=>?_
    rename_i s x t u _
    simp only[LR.and,W3]at e⊢
    revert e
    cases oE lk (y6 P (elemOf (y6 P t))) (ev1 gl fr x)with
    |none=>intro e;cases e
    |some news=>
     simp only
     cases ev1 gl fr s<;>try (intro e;cases e;done)
     ·rename_i full _ _ _;cases full<;>(intro e;cases e)
     ·rename_i full o' _ _ _
      cases full<;>simp only
      ·cases lk o' with
       |none=>intro e;cases e
       |some ob'=>cases ob'<;>(intro e;cases e)<;>simp
      ·cases lk o' with
       |none=>intro e;cases e
       |some ob'=>cases ob'<;>(intro e;cases e)
   ·refine W4 ?_
    simp only[LR.and];exact(qj _ _).1
   ·refine W4 ?_
    simp only[LR.and];exact(qk _ _).1
   ·exact W4 rfl
 |pick c a b=>exact V9 (oT _ _ _)
 |box t x=>exact W4 rfl
 |build t ps=>exact V9 (oS _ _ _)
 |buildSlice t len ps=>simp only[aop];cases gl.imm t<;>exact W4 rfl
 |load t a=>exact V9 (nP _ _ _)
 |binOp o t x y u=>
  simp only[aop]
  split<;>first|exact V9 (wA _ _ _ _ _)|exact V9 (tG _ _ _)
 |unOp o t x=>exact V9 (wB _ _)
 |nilCheck x=>exact V9 (kP _)
 |convert s t x=>exact V9 (mK _ _ _ _)
 |makeFunc f a b=>cases f<;>exact W4 rfl
 |makeMap t r=>cases r with
  |none=>simp only[aop,gH];(repeat' split)<;>exact W4 rfl
  |some r=>exact W4 rfl
 |makeSlice t l c=>simp only[aop,aD];split<;>exact W4 rfl
 |slice t x lo hi mx=>exact V9 (lX _ _ _ _ _ _ _)
 |fieldAddr t x f=>exact V9 (jQ _ _ _)
 |field t x f=>exact V9 (oQ _ _ _)
 |indexAddr t x y=>exact V9 (gJ _ _ _ _ _)
 |index t x y=>exact V9 (oR _ _ _ _)
 |lookup t m k c=>exact V9 (kf _ _ _ _ _ _ _)
 |extract x j=>exact V9 (mL _ _)
 | _=>exact W4 rfl
end
theorem EB{o:Nat}:∀ {m:List (Nat×Ob)} {s:St},o∉m.map (·.1)→(puts s m)[o]? =s[o]?
 | [],_,_=>rfl
 |(a,x)::m,s,h=>by
  simp only[List.map_cons,List.mem_cons,not_or]at h
  simp only[puts]
  rw[List.getElem?_set,if_neg (fun e=>h.1 e.symm),EB h.2]
theorem yU{o:Nat}:∀ {m:List (Nat×Ob)} {s s':St},s[o]? =s'[o]? →(puts s m)[o]? =(puts s' m)[o]?
 | [],_,_,h=>h
 |(a,x)::m,s,s',h=>by
  have ih:=yU (m:=m) h
  simp only[puts]
  have sg:∀(l:St) (v:Option Ob),(l.set a v)[o]? =if a=o then(l[o]?).map (fun _=>v)else l[o]? :=fun l v=>by
   rw[List.getElem?_set]
   by_cases h:a=o
   ·subst h
    rw[if_pos rfl,if_pos rfl]
    by_cases hl:a<l.length
    ·rw[if_pos hl,List.getElem?_eq_getElem hl];rfl
    ·rw[if_neg hl,List.getElem?_eq_none (by simpa using hl)];rfl
   ·rw[if_neg h,if_neg h]
  rw[sg,sg,ih]
def zS(P:Program)(G:Gl)(f:FuncId)(args:List D)(rd:List Nat)(st0:St)(r:D)(ups:List (Nat×Ob)):Prop:=
 ∀st,(∀o∈rd,look st o=look st0 o)→Spec P G f args st fun d st'=>d=r∧st'=puts st ups
theorem Pure.loc{P:Program}{G:Gl}{f:FuncId}{args:List D}{st0:St}{r:D}(h:Pure P G f args r):zS P G f args [] st0 r []:=fun st _=>h st
structure Row where
 o:Oper
 q:Nat
 G:Bool
 r:LR
 ups:List (Nat×Ob)
def Row.d(x:Row):D:=match x.o.guard with
 |none=>x.r.d
 |some _=>.cond x.G x.r.d
def Row.fr(x:Row)(fr:Fr):Fr:=fr.mV x.o.dst x.d
def Row.st(x:Row)(st:St):St:=bif x.G then puts (x.r.app x.q st) x.ups else st
def Row.rd(x:Row):List Nat:=bif x.G then x.r.rd else []
def Row.wr(x:Row):List Nat:=bif x.G then(match x.r.up with|some (o,_)=>[o]|none=>[])++x.ups.map (·.1)else []
structure Fits(P:Program)(gl:Gl)(N:Nat)(ops:Array Oper)(b:Nat)(x:Row)(fr:Fr)(st:St):Prop where
 dst:qX N x.o
 gok:jh ops fr x.o
 hG:x.G=guardOf ops fr x.o
 EA:EA x.r∧∀p∈x.ups,p.1∈x.r.rd
 does:x.G=true→(gZ x.o.op=none∧x.r=aop P gl true x.o.op fr (look st) x.q∧x.r.ok∧(needs x.o.op=true→st[x.q]? =some (some .resv))∧x.ups=[])∨
  ∃f xs g first cap d rd,gZ x.o.op=some (f,xs)∧eok gl true fr f∧(∀y∈xs,eok gl true fr y)∧ev1 gl fr f= .fn g first cap∧zS P gl g (first++xs.map (ev1 gl fr)++cap) rd st d x.ups∧
   x.r=⟨d,True,rd,none,none⟩∧∀o∈rd,o<b∧∃ob,st[o]? =some (some ob)∧ob≠ .resv
 makes:x.r.new≠none→needs x.o.op=true
section
variable {P:Program} {gl:Gl} {N:Nat} {ops:Array Oper} {w0:World} {μ0:Mu} {st0:St} {x:Row} {b:Nat} {fr fr':Fr} {st st':St} {Q:Exit→Act→World→Prop}
theorem qo{o:Nat}{ob:Ob}:look st o=some ob↔st[o]? =some (some ob):=by
 unfold look
 cases h:st[o]? with
 |none=>simp
 |some y=>cases y<;>simp
theorem EC{a:Act}{w:World}{μ:Mu}{o:Oper}{q:Nat}(h:tu gl N w0 μ0 st0 fr st a w μ)(hok:(aop P gl true o.op fr (look st) q).ok)(hd:qX N o)(hq:needs o.op=true→st[q]? =some (some .resv)):
 ∃nx v w' μ',(execOp a.eval o).run P w= .ok nx w'∧(nx= .value v∨(nx= .skip∧v=undef))∧
  tu gl N w0 μ0 st0 (fr.mV o.dst (aop P gl true o.op fr (look st) q).d) ((aop P gl true o.op fr (look st) q).app q st) (a.put o.dst v) w' μ':=by
 obtain⟨nx,v,w',μ',h1,h2,h3,h4,h5⟩:=wE (P:=P) (G:=gl) (q:=q) h.sim h.fr h.glob hq hok
 refine⟨nx,v,w',μ',h1,h2,h3,h.glob.step h4,?_,?_,?_,h.step.trans h4⟩
 ·cases uH:o.dst with
  |none=>exact h.fr.step h4
  |some t=>
   have ht:t<N:=by simpa[qX,uH]using hd
   exact(h.fr.step h4).put h5 (by rw[h.size];exact ht)
 ·cases uH:o.dst with
  |none=>exact h.size
  |some t=>simp[Act.put,h.size]
 ·cases uH:o.dst with
  |none=>exact h.defers
  |some t=>simp[Act.put,h.defers]
theorem Ks{a:Act}{w:World}{μ:Mu}{K:Act→World→Prop}(hc:tu gl N w0 μ0 st0 fr st a w μ)(h:Fits P gl N ops b x fr st)
 (hK:∀a' w' μ',tu gl N w0 μ0 st0 (x.fr fr) (x.st st) a' w' μ'→K a' w'):
 if Region.wanted x.o (yielded ops a.tmps)then x.o.wp P a w K Q∨(x.o.asks P a w∧LetsOut Q)else K (a.put x.o.dst undef) w:=by
 rw[qY hc.fr h.gok, ←h.hG]
 cases hG:x.G with
 |false=>
  simp only[Bool.false_eq_true,if_false]
  have hgs:∃p,x.o.guard=some p:=by
   cases hgd:x.o.guard with
   |none=>have:=h.hG;simp[guardOf,hgd,hG]at this
   |some p=>exact⟨p,rfl⟩
  obtain⟨p,hgs⟩:=hgs
  refine hK _ _ μ ?_
  simp only[Row.fr,Row.st,Row.d,hgs,hG,cond_false]
  exact wF hc h.dst _
 |true=>
  simp only[if_true]
  left
  have wrap:∀ {d:D} {a' w' μ' st'} {v:Value},tu gl N w0 μ0 st0 (fr.mV x.o.dst d) st' (a.put x.o.dst v) w' μ'→x.r.d=d→a'=a.put x.o.dst v→tu gl N w0 μ0 st0 (x.fr fr) st' a' w' μ':=by
   intro d a' w' μ' st' v hc' hd ha
   subst ha;subst hd
   have:=wG hc' true rfl
   unfold Gz at this
   simp only[Row.fr,Row.d]
   split at this
   ·rename_i e;rw[e];exact this
   ·rename_i e;rw[e];simp only[hG];exact this
  rcases h.does hG with⟨nR,hr,hok,hq,Mt⟩|⟨f,xs,g,first,cap,d,rd,nR,hf,hx,hev,hp,hr,hrd⟩
  ·rw[hr]at hok
   obtain⟨nx,v,w',μ',h1,h2,h3⟩:=EC (P:=P) (o:=x.o) hc hok h.dst hq
   unfold Oper.wp
   rw[h1]
   have next:K (a.put x.o.dst v) w':=by
    refine hK _ _ μ' ?_
    simp only[Row.st,hG,cond_true,Mt,puts]
    rw[←hr]at h3
    exact wrap h3 rfl rfl
   rcases h2 with rfl|⟨rfl,rfl⟩<;>exact next
  ·obtain⟨_,hspec⟩:=hp st fun _ _=>rfl
   obtain⟨vs,h1,h2,h3⟩:=zL (P:=P) nR hc.fr hc.glob hf hx hev
   unfold Oper.wp
   rw[h1]
   refine(hspec w μ vs hc.sim hc.glob h2 h3).upon fun e w' ⟨v,d',st',μ',he,⟨hd1,hd2⟩,hs',CW,hv⟩=>?_
   subst he;subst hd1;subst hd2
   refine hK _ _ μ' ?_
   have hst:x.st st=puts st x.ups:=by simp[Row.st,hG,hr,LR.app]
   rw[hst]
   refine wrap (d:=d') ?_ (by rw[hr]) rfl
   refine⟨hs',hc.glob.step CW,?_,?_,?_,hc.step.trans CW⟩
   ·cases uH:x.o.dst with
    |none=>exact hc.fr.step CW
    |some t=>
     have ht:t<N:=by simpa[qX,uH]using h.dst
     exact(hc.fr.step CW).put hv (by rw[hc.size];exact ht)
   ·cases uH:x.o.dst with
    |none=>exact hc.size
    |some t=>simp[Act.put,hc.size]
   ·cases uH:x.o.dst with
    |none=>exact hc.defers
    |some t=>simp[Act.put,hc.defers]
theorem ED(hs:∀t∈x.o.looksAt ops,fr'.get t=fr.get t):∀y∈x.o.op.operands,ev gl fr y=ev gl fr' y:=by
 intro y hy
 cases y with
 |tmp t=>exact(hs t (by simp only[Oper.looksAt,List.mem_append,List.mem_filterMap];exact .inl ⟨.tmp t,by simpa using hy,rfl⟩)).symm
 | _=>rfl
theorem DB(hs:∀t∈x.o.looksAt ops,fr'.get t=fr.get t):guardOf ops fr' x.o=guardOf ops fr x.o∧(jh ops fr' x.o↔jh ops fr x.o):=by
 unfold guardOf jh
 cases hg:x.o.guard with
 |none=>exact⟨rfl,Iff.rfl⟩
 |some p=>
  obtain⟨j,want⟩:=p
  simp only
  cases hd:(ops[j]?).bind (·.dst)with
  |none=>exact⟨rfl,Iff.rfl⟩
  |some t=>
   have:=hs t (by simp only[Oper.looksAt,hg,hd,List.mem_append];exact .inr (by simp))
   simp only[this]
   exact⟨trivial,trivial⟩
theorem zT{o:Op}{f:Operand}{xs:List Operand}(h:gZ o=some (f,xs)):f∈o.operands∧∀y∈xs,y∈o.operands:=by
 cases o<;>simp only[gZ]at h<;>first|(cases h;done)|skip
 rename_i c
 obtain⟨callee,args,ats⟩:=c
 cases callee<;>simp only at h<;>first|(cases h;done)|skip
 cases h
 exact⟨by simp[Op.operands,Call.operands],fun y hy=>by simp only[Op.operands,Call.operands,Array.mem_append];exact .inr (by simpa using hy)⟩
theorem HB{a:Act}{w:World}{μ:Mu}(hc:tu gl N w0 μ0 st0 fr' st' a w μ)(h:Fits P gl N ops b x fr st)(hs:∀t∈x.o.looksAt ops,fr'.get t=fr.get t):
 ∀o∈x.rd,st'[o]? ≠some (some .resv)∨o<b:=by
 intro o ho
 unfold Row.rd at ho
 cases hG:x.G with
 |false=>rw[hG]at ho;cases ho
 |true=>
  rw[hG]at ho
  rcases h.does hG with⟨nR,hr,hok,hq,Mt⟩|⟨f,xs,g,first,cap,d,rd,nR,hf,hx,hev,hp,hr,hrd⟩
  ·rw[hr]at hok
   simp only[cond_true,hr]at ho
   obtain⟨y,h1,h2,h3⟩:=Ms hok ho
   have e:=ED (gl:=gl) hs y (by simpa using h1)
   have h2':eok gl true fr' y:=by unfold eok at h2 ⊢; rw[←e];exact h2
   have h3':(ev1 gl fr' y).top=some o:=by unfold ev1 at h3 ⊢; rw[←e];exact h3
   exact .inl ((ng hc.fr hc.glob h2').Kr h3')
  ·simp only[hr,cond_true]at ho
   exact .inr (hrd o ho).1
theorem tL(h:Fits P gl N ops b x fr st):∀o∈x.rd,∃ob,st[o]? =some (some ob)∧ob≠ .resv:=by
 intro o ho
 unfold Row.rd at ho
 cases hG:x.G with
 |false=>rw[hG]at ho;cases ho
 |true=>
  rw[hG]at ho
  rcases h.does hG with⟨nR,hr,hok,hq,Mt⟩|⟨f,xs,g,first,cap,d,rd,nR,hf,hx,hev,hp,hr,hrd⟩
  ·rw[hr]at hok
   simp only[cond_true,hr]at ho
   obtain⟨_,ob,h1,h2⟩:=(HA (look st) hok).1 o ho
   exact⟨ob,qo.1 h1,h2⟩
  ·simp only[hr,cond_true]at ho
   exact(hrd o ho).2
theorem FQ(h:Fits P gl N ops b x fr st)(hs:∀t∈x.o.looksAt ops,fr'.get t=fr.get t)(hm:∀o∈x.rd,look st' o=look st o)
 (hq:needs x.o.op=true→st'[x.q]? =some (some .resv)):Fits P gl N ops b x fr' st':=by
 obtain⟨g1,g2⟩:=DB hs
 refine⟨h.dst,g2.2 h.gok,by rw[g1];exact h.hG,h.EA,fun hG=>?_,h.makes⟩
 have hev:=ED (gl:=gl) hs
 rcases h.does hG with⟨nR,hr,hok,_,Mt⟩|⟨f,xs,g,first,cap,d,rd,nR,hf,hx,he,hp,hr,hrd⟩
 ·refine .inl ⟨nR,?_,hok,hq,Mt⟩
  rw[hr]at hok
  have:x.rd=(aop P gl true x.o.op fr (look st) x.q).rd:=by simp[Row.rd,hG, ←hr]
  rw[this]at hm
  have k:=(HA (look st) hok).2 (look st') hm
  rw[hr]
  exact k.symm.trans (OW hev)
 ·obtain⟨m1,m2⟩:=zT nR
  have e1:∀y∈x.o.op.operands,ev1 gl fr' y=ev1 gl fr y:=fun y hy=>by unfold ev1;rw[hev y hy]
  have e2:∀y∈x.o.op.operands,eok gl true fr y→eok gl true fr' y:=fun y hy=>by unfold eok;rw[hev y hy];exact id
  have hm':∀o∈rd,look st' o=look st o:=fun o ho=>hm o (by simp[Row.rd,hG,hr];exact ho)
  refine .inr ⟨f,xs,g,first,cap,d,rd,nR,e2 f m1 hf,fun y hy=>e2 y (m2 y hy) (hx y hy),by rw[e1 f m1];exact he,?_,hr,fun o ho=>⟨(hrd o ho).1,?_⟩⟩
  ·rw[List.map_congr_left fun y hy=>e1 y (m2 y hy)]
   exact fun st2 h2=>hp st2 fun o ho=>(h2 o ho).trans (hm' o ho)
  ·obtain⟨ob,h1,h2⟩:=(hrd o ho).2
   exact⟨ob,qo.1 ((hm' o ho).trans (qo.2 h1)),h2⟩
end
def Row.ap(x:Row)(s:Fr×St):Fr×St:=(x.fr s.1,x.st s.2)
def Row.tch(x:Row):List Nat:=x.wr++(bif x.G&&x.r.new.isSome then [x.q]else [])
theorem tM{α:Type}(l:List α)(i o:Nat)(v:α):(l.set i v)[o]? =if i=o then(l[o]?).map (fun _=>v)else l[o]? :=by
 rw[List.getElem?_set]
 by_cases h:i=o
 ·subst h
  rw[if_pos rfl,if_pos rfl]
  by_cases hl:i<l.length
  ·rw[if_pos hl,List.getElem?_eq_getElem hl];rfl
  ·rw[if_neg hl,List.getElem?_eq_none (by simpa using hl)];rfl
 ·rw[if_neg h,if_neg h]
theorem vC{x:Row}{st st':St}{o:Nat}(h:st[o]? =st'[o]?):(x.st st)[o]? =(x.st st')[o]? :=by
 unfold Row.st
 cases x.G with
 |false=>exact h
 |true=>
  simp only[cond_true,LR.app]
  refine yU ?_
  cases x.r.up with
  |none=>cases x.r.new with
   |none=>exact h
   |some ob=>simp only[tM,h]
  |some p=>cases x.r.new with
   |none=>simp only[tM,h]
   |some ob=>simp only[tM,h]
theorem oX{x:Row}{st:St}{o:Nat}(h:o∉x.tch):(x.st st)[o]? =st[o]? :=by
 unfold Row.st
 unfold Row.tch Row.wr at h
 cases hG:x.G with
 |false=>rfl
 |true=>
  rw[hG]at h
  simp only[cond_true,LR.app,List.mem_append,not_or]at h⊢
  obtain⟨⟨h,Mt⟩,h'⟩:=h
  rw[EB Mt]
  have h:o∉ (match x.r.up with|some (o,_)=>[o]|none=>[])++(bif true&&x.r.new.isSome then [x.q]else []):=by
   simp only[List.mem_append,not_or];exact⟨h,h'⟩
  cases hu:x.r.up with
  |none=>cases hn:x.r.new with
   |none=>rfl
   |some ob=>
    simp[hu,hn]at h
    simp only[tM,if_neg (Ne.symm h)]
  |some p=>cases hn:x.r.new with
   |none=>
    simp[hu,hn]at h
    simp only[tM,if_neg (Ne.symm h)]
   |some ob=>
    simp[hu,hn]at h
    simp only[tM,if_neg (Ne.symm h.1),if_neg (Ne.symm h.2)]
theorem tN{x:Row}{fr:Fr}{t:Nat}(h:x.o.dst≠some t):(x.fr fr).get t=fr.get t:=by
 unfold Row.fr
 cases hd:x.o.dst with
 |none=>rfl
 |some u=>
  simp only[Fr.mV,Fr.wv]
  rw[if_neg]
  intro e;exact h (by rw[hd,e])
theorem vD{x:Row}{fr fr':Fr}{t:Nat}(h:fr.get t=fr'.get t):(x.fr fr).get t=(x.fr fr').get t:=by
 unfold Row.fr
 cases hd:x.o.dst with
 |none=>exact h
 |some u=>simp only[Fr.mV,Fr.wv,h]
def Eqv(s s':Fr×St):Prop:=(∀t,s.1.get t=s'.1.get t)∧∀o:Nat,s.2[o]? =s'.2[o]?
theorem Eqv.refl(s:Fr×St):Eqv s s:=⟨fun _=>rfl,fun _=>rfl⟩
theorem Eqv.trans{a b c:Fr×St}(h:Eqv a b)(h':Eqv b c):Eqv a c:=⟨fun t=>(h.1 t).trans (h'.1 t),fun o=>(h.2 o).trans (h'.2 o)⟩
theorem Eqv.symm{a b:Fr×St}(h:Eqv a b):Eqv b a:=⟨fun t=>(h.1 t).symm,fun o=>(h.2 o).symm⟩
theorem Eqv.ap{s s':Fr×St}(h:Eqv s s')(x:Row):Eqv (x.ap s) (x.ap s'):=⟨fun t=>vD (h.1 t),fun o=>vC (h.2 o)⟩
theorem Mv{x y:Row}(hd:∀t,x.o.dst=some t→y.o.dst≠some t)(hm:∀o∈x.tch,o∉y.tch)(s:Fr×St):Eqv (x.ap (y.ap s)) (y.ap (x.ap s)):=by
 refine⟨fun t=>?_,fun o=>?_⟩
 ·simp only[Row.ap]
  by_cases h:x.o.dst=some t
  ·rw[tN (x:=y) (hd t h)]
   exact vD (tN (hd t h))
  ·rw[tN (x:=x) h]
   exact vD (tN h).symm
 ·simp only[Row.ap]
  by_cases h:o∈x.tch
  ·rw[oX (x:=y) (hm o h)]
   exact vC (oX (hm o h))
  ·rw[oX (x:=x) h]
   exact vC (oX h).symm
def full:List Row→Fr×St→Fr×St
 | [],s=>s
 |x::l,s=>full l (x.ap s)
def sel(L:Nat→Bool):Nat→List Row→Fr×St→Fr×St
 | _,[],s=>s
 |i,x::l,s=>sel L (i+1) l (bif L i then x.ap s else s)
theorem DC{L:Nat→Bool}:∀(l:List Row) (i:Nat) (s s':Fr×St),Eqv s s'→Eqv (sel L i l s) (sel L i l s')
 | [],_,_,_,h=>h
 |x::l,i,s,s',h=>by
  simp only[sel]
  cases L i with
  |true=>exact DC l _ _ _ (h.ap x)
  |false=>exact DC l _ _ _ h
theorem tO{L:Nat→Bool}:∀(l1 l2:List Row) (i:Nat) (s:Fr×St),sel L i (l1++l2) s=sel L (i+l1.length) l2 (sel L i l1 s)
 | [],_,_,_=>rfl
 |x::l1,l2,i,s=>by
  simp only[List.cons_append,sel,List.length_cons]
  rw[tO l1 l2 (i+1)]
  congr 1
  omega
theorem wH{L L':Nat→Bool}:∀(l:List Row) (i:Nat) (s:Fr×St),(∀k,i≤k→k<i+l.length→L k=L' k)→sel L i l s=sel L' i l s
 | [],_,_,_=>rfl
 |x::l,i,s,h=>by
  simp only[sel]
  rw[h i (Nat.le_refl _) (by simp)]
  exact wH l _ _ fun k h1 h2=>h k (by omega) (by simp at h2 ⊢; omega)
theorem HD{L:Nat→Bool}:∀(l:List Row) (i:Nat) (s:Fr×St),(∀k,i≤k→k<i+l.length→L k=true)→sel L i l s=full l s
 | [],_,_,_=>rfl
 |x::l,i,s,h=>by
  simp only[sel,full]
  rw[h i (Nat.le_refl _) (by simp),cond_true]
  exact HD l _ _ fun k h1 h2=>h k (by omega) (by simp at h2 ⊢; omega)
theorem EF{L:Nat→Bool}:∀(l:List Row) (i:Nat) (s:Fr×St),(∀k,i≤k→k<i+l.length→L k=false)→sel L i l s=s
 | [],_,_,_=>rfl
 |x::l,i,s,h=>by
  simp only[sel]
  rw[h i (Nat.le_refl _) (by simp),cond_false]
  exact EF l _ _ fun k h1 h2=>h k (by omega) (by simp at h2 ⊢; omega)
theorem EG{L:Nat→Bool}{x:Row}:∀(l:List Row) (i:Nat) (s:Fr×St),
 (∀k (h:k<l.length),L (i+k)=true→(∀t,x.o.dst=some t→(l[k]).o.dst≠some t)∧∀o∈x.tch,o∉ (l[k]).tch)→Eqv (sel L i l (x.ap s)) (x.ap (sel L i l s))
 | [],_,s,_=>Eqv.refl _
 |y::l,i,s,h=>by
  have hl:∀s,Eqv (sel L (i+1) l (x.ap s)) (x.ap (sel L (i+1) l s)):=fun s=>EG l (i+1) s fun k hk hL=>by
   have:=h (k+1) (by simpa using hk) (by rw[←hL];congr 1;omega)
   simpa using this
  simp only[sel]
  cases hL:L i with
  |false=>exact hl s
  |true=>
   simp only[cond_true]
   obtain⟨h1,h2⟩:=h 0 (by simp) hL
   exact(DC l (i+1) _ _ (Mv h1 h2 s).symm).trans (hl (y.ap s))
theorem EH{L:Nat→Bool}{t:Nat}:∀(l:List Row) (i:Nat) (s:Fr×St),(∀k (h:k<l.length),L (i+k)=true→(l[k]).o.dst≠some t)→(sel L i l s).1.get t=s.1.get t
 | [],_,_,_=>rfl
 |y::l,i,s,h=>by
  have hl:∀s,(sel L (i+1) l s).1.get t=s.1.get t:=fun s=>EH l (i+1) s fun k hk hL=>by
   have:=h (k+1) (by simpa using hk) (by rw[←hL];congr 1;omega)
   simpa using this
  simp only[sel]
  rw[hl]
  cases hL:L i with
  |false=>rfl
  |true=>exact tN (h 0 (by simp) hL)
theorem DE{L:Nat→Bool}{o:Nat}:∀(l:List Row) (i:Nat) (s:Fr×St),(∀k (h:k<l.length),L (i+k)=true→o∉ (l[k]).tch)→(sel L i l s).2[o]? =s.2[o]?
 | [],_,_,_=>rfl
 |y::l,i,s,h=>by
  have hl:∀s,(sel L (i+1) l s).2[o]? =s.2[o]? :=fun s=>DE l (i+1) s fun k hk hL=>by
   have:=h (k+1) (by simpa using hk) (by rw[←hL];congr 1;omega)
   simpa using this
  simp only[sel]
  rw[hl]
  cases hL:L i with
  |false=>rfl
  |true=>exact oX (h 0 (by simp) hL)
theorem Bl{L:Nat→Bool}{t:Nat}:∀(l:List Row) (i:Nat) (s s':Fr×St),s.1.get t=s'.1.get t→(∀k (h:k<l.length),L (i+k)=false→(l[k]).o.dst≠some t)→(sel L i l s).1.get t=(full l s').1.get t
 | [],_,_,_,h,_=>h
 |y::l,i,s,s',he,h=>by
  simp only[sel,full]
  refine Bl l (i+1) _ _ ?_ fun k hk hL=>by
   have:=h (k+1) (by simpa using hk) (by rw[←hL];congr 1;omega)
   simpa using this
  cases hL:L i with
  |true=>exact vD he
  |false=>exact he.trans (tN (h 0 (by simp) hL)).symm
theorem EI{L:Nat→Bool}{o:Nat}:∀(l:List Row) (i:Nat) (s s':Fr×St),s.2[o]? =s'.2[o]? →(∀k (h:k<l.length),L (i+k)=false→o∉ (l[k]).tch)→(sel L i l s).2[o]? =(full l s').2[o]?
 | [],_,_,_,h,_=>h
 |y::l,i,s,s',he,h=>by
  simp only[sel,full]
  refine EI l (i+1) _ _ ?_ fun k hk hL=>by
   have:=h (k+1) (by simpa using hk) (by rw[←hL];congr 1;omega)
   simpa using this
  cases hL:L i with
  |true=>exact vC he
  |false=>exact he.trans (oX (h 0 (by simp) hL)).symm
def Trace(P:Program)(gl:Gl)(N:Nat)(ops:Array Oper)(b:Nat):List Row→Fr×St→Prop
 | [],_=>True
 |x::l,s=>Fits P gl N ops b x s.1 s.2∧Trace P gl N ops b l (x.ap s)
def Ord(ops:Array Oper)(i j:Nat):Prop:=
 ∀L:Nat→Bool,(∀k o,L k=true→ops[k]? =some o→∀e∈o.after,Region.binds .any e=true→L e.on=true)→
  (∀o,ops[j]? =some o→∀e∈o.after,Region.binds .any e=true→L e.on=true)→L i=true
def Ind(ops:Array Oper)(x y:Row):Prop:=Oper.apart ops x.o y.o=true∧(∀o∈x.wr,o∉y.rd)∧∀o∈y.wr,o∉x.rd
structure Good(P:Program)(gl:Gl)(N:Nat)(ops:Array Oper)(b:Nat)(rows:List Row)(s0:Fr×St):Prop where
 hO:ops.toList=rows.map (·.o)
 tr:Trace P gl N ops b rows s0
 qs:∀i j (hi:i<rows.length) (hj:j<rows.length),i≠j→needs (rows[i]).o.op=true→needs (rows[j]).o.op=true→(rows[i]).q≠(rows[j]).q
 kept:∀x∈rows,needs x.o.op=true→s0.2[x.q]? =some (some .resv)∧b≤x.q
 fwd:∀i o,ops[i]? =some o→∀e∈o.after,Region.binds .any e=true→e.on<i
 ind:∀i j (hi:i<rows.length) (hj:j<rows.length),i<j→Ord ops i j∨Ind ops (rows[i]) (rows[j])
section
variable {P:Program} {gl:Gl} {N b:Nat} {ops:Array Oper} {w0:World} {μ0:Mu} {st0:St} {rows:List Row} {s0:Fr×St} {Q:Exit→Act→World→Prop}
theorem DF{x:Row}(h:EA x.r∧∀p∈x.ups,p.1∈x.r.rd){o:Nat}(ho:o∈x.wr):o∈x.rd:=by
 unfold Row.wr at ho
 unfold Row.rd
 cases hG:x.G with
 |false=>rw[hG]at ho;cases ho
 |true=>
  rw[hG]at ho
  simp only[cond_true,List.mem_append]at ho⊢
  rcases ho with ho|ho
  ·cases hu:x.r.up with
   |none=>rw[hu]at ho;cases ho
   |some p=>
    rw[hu]at ho
    simp only[List.mem_singleton]at ho
    exact h.1 o p.2 (by rw[hu,ho])
  ·obtain⟨p,hp,e⟩:=List.mem_map.1 ho
   rw[←e];exact h.2 p hp
theorem kR{x:Row}{o:Nat}(h:o∈x.tch):o∈x.wr∨(o=x.q∧x.r.new≠none):=by
 unfold Row.tch at h
 rcases List.mem_append.1 h with h|h
 ·exact .inl h
 ·right
  cases hG:x.G<;>cases hn:x.r.new<;>simp[hG,hn]at h⊢
  exact h
theorem rX:∀(l1:List Row) {x:Row} {l2:List Row} {s:Fr×St},Trace P gl N ops b (l1++x::l2) s→Fits P gl N ops b x (full l1 s).1 (full l1 s).2
 | [],_,_,_,h=>h.1
 | _::l1,_,_,_,h=>rX l1 h.2
theorem Bm:∀(l1 l2:List Row) (s:Fr×St),Trace P gl N ops b (l1++l2) s→(∀x∈l1,∀y∈l2,needs x.o.op=true→needs y.o.op=true→x.q≠y.q)→
 (∀y∈l2,needs y.o.op=true→s.2[y.q]? =some (some .resv))→∀y∈l2,needs y.o.op=true→(full l1 s).2[y.q]? =some (some .resv)
 | [],_,_,_,_,h=>h
 |x::l1,l2,s,ht,hq,h=>by
  refine Bm l1 l2 (x.ap s) ht.2 (fun z hz=>hq z (by simp[hz])) fun y hy hn=>?_
  have:y.q∉x.tch:=fun hm=>by
   rcases kR hm with hm|⟨e,hm⟩
   ·obtain⟨ob,h1,h2⟩:=tL ht.1 _ (DF ht.1.EA hm)
    rw[h y hy hn]at h1
    cases h1;exact h2 rfl
   ·exact hq x (by simp) y hy (ht.1.makes hm) hn e.symm
  simp only[Row.ap]
  rw[oX this]
  exact h y hy hn
def cnt(L:Nat→Bool):Nat→Nat
 |0=>0
 |n+1=>cnt L n+(bif L n then 0 else 1)
theorem EJ{L:Nat→Bool}:∀ {n:Nat},cnt L n=0→∀k,k<n→L k=true
 |n+1,h,k,hk=>by
  simp only[cnt]at h
  cases hL:L n with
  |false=>simp[hL]at h
  |true=>
   rcases Nat.lt_or_ge k n with hk'|hk'
   ·exact EJ (by simp[hL]at h;exact h) k hk'
   ·have:k=n:=by omega
    rw[this];exact hL
theorem EK{L L':Nat→Bool}:∀ {n:Nat},(∀k,k<n→L k=L' k)→cnt L n=cnt L' n
 |0,_=>rfl
 |n+1,h=>by simp only[cnt];rw[EK fun k hk=>h k (by omega),h n (by omega)]
theorem EL{L L':Nat→Bool}{i:Nat}(hi:L i=false)(hi':L' i=true)(hs:∀k,k≠i→L k=L' k):∀ {n:Nat},i<n→cnt L' n+1=cnt L n
 |n+1,h=>by
  simp only[cnt]
  rcases Nat.lt_or_ge i n with h1|h1
  ·rw[←EL hi hi' hs h1,hs n (by omega)];omega
  ·have:i=n:=by omega
   subst this
   rw[hi,hi',EK (L:=L') (L':=L) fun k hk=>(hs k (by omega)).symm]
   simp
def lst(listed:Array Bool)(i:Nat):Bool:=listed.getD i false
theorem Kt{s s':Fr×St}{a:Act}{w:World}{μ:Mu}(h:Eqv s s')(hc:tu gl N w0 μ0 st0 s.1 s.2 a w μ):tu gl N w0 μ0 st0 s'.1 s'.2 a w μ:=by
 have e:s.2=s'.2:=List.ext_getElem? h.2
 rw[e]at hc
 exact⟨hc.sim,hc.glob,fun t=>by rw[←h.1 t];exact hc.fr t,hc.size,hc.defers,hc.step⟩
set_option maxHeartbeats 1000000 in
theorem HE(hg:Good P gl N ops b rows s0)(hQ:∀a w μ,tu gl N w0 μ0 st0 (full rows s0).1 (full rows s0).2 a w μ→Q .normal a w):
 ∀(fuel:Nat) (listed:Array Bool) (a:Act) (w:World) (μ:Mu),listed.size=rows.length→cnt (lst listed) rows.length≤fuel→
  (∀k o,lst listed k=true→ops[k]? =some o→∀e∈o.after,Region.binds .any e=true→lst listed e.on=true)→
  (∀i j (hi:i<rows.length) (hj:j<rows.length),lst listed j=true→lst listed i=false→needs (rows[i]).o.op=true→(rows[i]).q∉ (rows[j]).rd)→
  tu gl N w0 μ0 st0 (sel (lst listed) 0 rows s0).1 (sel (lst listed) 0 rows s0).2 a w μ→wpAny P .any ops Q fuel listed a w:=by
 have hsz:ops.size=rows.length:=by have:=congrArg List.length hg.hO;simpa using this
 have hop:∀i (h:i<rows.length),ops[i]? =some (rows[i]).o:=fun i h=>by
  have:ops.toList[i]? =(rows.map (·.o))[i]? :=by rw[hg.hO]
  simpa[h]using this
 have hall:∀(listed:Array Bool) (a:Act) (w:World) (μ:Mu),(∀k,k<rows.length→lst listed k=true)→
  tu gl N w0 μ0 st0 (sel (lst listed) 0 rows s0).1 (sel (lst listed) 0 rows s0).2 a w μ→Q .normal a w:=fun listed a w μ h hc=>by
  rw[HD rows 0 s0 fun k _ hk=>h k (by omega)]at hc
  exact hQ a w μ hc
 have HF:∀(listed:Array Bool) (i:Nat),listed.size=rows.length→(i∈Region.ready .any ops listed↔i<rows.length∧lst listed i=false∧∀o,ops[i]? =some o→∀e∈o.after,Region.binds .any e=true→lst listed e.on=true):=by
  intro listed i hls
  unfold Region.ready
  simp only[List.mem_filter,List.mem_range,hsz]
  constructor
  ·rintro⟨h1,h2⟩
   rw[hop i h1]at h2⊢
   simp only[Option.map_some,Option.getD_some,Bool.and_eq_true,Bool.not_eq_true',Array.all_eq_true_iff_forall_mem]at h2
   refine⟨h1,?_,fun o ho e he hb=>?_⟩
   ·have:=h2.1
    unfold lst
    simp[Array.getD_eq_getD_getElem?, hls,h1]at this⊢
    exact this
   ·cases ho
    have:=h2.2 e he
    simp only[Bool.or_eq_true,Bool.not_eq_true',hb,Bool.true_eq_false,false_or]at this
    exact this
  ·rintro⟨h1,h2,h3⟩
   refine⟨h1,?_⟩
   rw[hop i h1]at h3⊢
   simp only[Option.map_some,Option.getD_some,Bool.and_eq_true,Bool.not_eq_true',Array.all_eq_true_iff_forall_mem]
   refine⟨?_,fun e he=>?_⟩
   ·unfold lst at h2
    simp[Array.getD_eq_getD_getElem?, hls,h1]at h2⊢
    exact h2
   ·cases hb:Region.binds .any e with
    |false=>simp
    |true=>
     have:=h3 _ rfl e he hb
     unfold lst at this
     rw[this];rfl
 have hnone:∀(listed:Array Bool),listed.size=rows.length→Region.ready .any ops listed=[]→∀k,k<rows.length→lst listed k=true:=by
  intro listed hls hr k
  induction k using Nat.strongRecOn with
  | _ k ih=>
   intro hk
   cases hL:lst listed k with
   |true=>rfl
   |false=>
    exfalso
    have:k∈Region.ready .any ops listed:=(HF listed k hls).2 ⟨hk,hL,fun o ho e he hb=>by
     have:=hg.fwd k o ho e he hb
     exact ih e.on this (by omega)⟩
    rw[hr]at this;cases this
 intro fuel
 induction fuel with
 |zero=>
  intro listed a w μ hls hc hcl hh hcc
  have ha:=EJ (Nat.le_zero.1 hc)
  refine⟨?_,hall listed a w μ ha hcc⟩
  rw[List.eq_nil_iff_forall_not_mem]
  intro i hi
  obtain⟨h1,h2,_⟩:=(HF listed i hls).1 hi
  rw[ha i h1]at h2;cases h2
 |succ fuel ih=>
  intro listed a w μ hls hc hcl hh hcc
  refine⟨fun hr=>hall listed a w μ (hnone listed hls hr) hcc,fun i hi=>?_⟩
  obtain⟨hil,hLi,haf⟩:=(HF listed i hls).1 hi
  generalize hx:rows[i]=x
  have qW:rows=rows.take i++x::rows.drop (i+1):=by rw[←hx,List.getElem_cons_drop,List.take_append_drop]
  have Ku:(rows.take i).length=i:=by simp;omega
  have HG:∀k (hk:k<i),lst listed k=false→Ind ops (rows[k]'(by omega)) x:=fun k hk hL=>by
   rcases hg.ind k i (by omega) hil hk with h|h
   ·have:=h (lst listed) hcl haf
    rw[this]at hL;cases hL
   ·rw[hx]at h;exact h
  have HI:∀k (hk:i<k) (hkl:k<rows.length),lst listed k=true→Ind ops x (rows[k]):=fun k hk hkl hL=>by
   rcases hg.ind i k hil hkl hk with h|h
   ·have:=h (lst listed) hcl (fun o ho=>hcl k o hL ho)
    rw[this]at hLi;cases hLi
   ·rw[hx]at h;exact h
  have HJ:Fits P gl N ops b x (full (rows.take i) s0).1 (full (rows.take i) s0).2:=by
   have ht:=hg.tr
   rw[qW]at ht
   exact rX _ ht
  have OX:∀k (hk:i≤k) (hkl:k<rows.length),needs (rows[k]).o.op=true→(full (rows.take i) s0).2[(rows[k]).q]? =some (some .resv):=fun k hk hkl hn=>by
   refine Bm (P:=P) (gl:=gl) (N:=N) (ops:=ops) (rows.take i) (rows.drop i) s0 (by rw[List.take_append_drop];exact hg.tr) (fun z hz y hy h1 h2=>?_) (fun y hy hn=>(hg.kept y (List.mem_of_mem_drop hy) hn).1) _ ?_ hn
   ·obtain⟨a',ha',e1⟩:=List.getElem_of_mem hz
    obtain⟨b',hb',e2⟩:=List.getElem_of_mem hy
    simp only[List.getElem_take]at e1
    simp only[List.getElem_drop]at e2
    simp only[List.length_take]at ha'
    simp only[List.length_drop]at hb'
    have:=hg.qs a' (i+b') (by omega) (by omega) (by omega)
    rw[e1,e2]at this
    exact this h1 h2
   ·have:rows[k]=(rows.drop i)[k-i]'(by simp;omega):=by
     rw[List.getElem_drop];congr 1;omega
    rw[this];exact List.getElem_mem _
  have SS:∀j (h:j<rows.length),EA (rows[j]).r∧∀p∈(rows[j]).ups,p.1∈(rows[j]).r.rd:=fun j h=>by
   have ht:=hg.tr
   have e:rows=rows.take j++rows[j]::rows.drop (j+1):=by rw[List.getElem_cons_drop,List.take_append_drop]
   rw[e]at ht
   exact(rX _ ht).EA
  have hmk:∀j (h:j<rows.length),(rows[j]).r.new≠none→needs (rows[j]).o.op=true:=fun j h=>by
   have ht:=hg.tr
   have e:rows=rows.take j++rows[j]::rows.drop (j+1):=by rw[List.getElem_cons_drop,List.take_append_drop]
   rw[e]at ht
   exact(rX _ ht).makes
  have hR:∀k (hk:k<rows.length),lst listed k=false→needs (rows[k]).o.op=true→(sel (lst listed) 0 rows s0).2[(rows[k]).q]? =some (some .resv):=fun k hk hL hn=>by
   rw[DE rows 0 s0]
   ·exact(hg.kept _ (List.getElem_mem _) hn).1
   ·intro j hj hLj hm
    rw[Nat.zero_add]at hLj
    rcases kR hm with hm|⟨e,hm⟩
    ·exact hh k j hk hj hLj hL hn (DF (SS j hj) hm)
    ·have hne:k≠j:=fun e=>by subst e;rw[hL]at hLj;cases hLj
     exact hg.qs k j hk hj hne hn (hmk j hj hm) e
  have hsel:sel (lst listed) 0 rows s0=sel (lst listed) (i+1) (rows.drop (i+1)) (sel (lst listed) 0 (rows.take i) s0):=by
   conv=>lhs;rw[qW]
   rw[tO,Ku]
   simp only[sel,Nat.zero_add,hLi,cond_false]
  have Lm:∀t∈x.o.looksAt ops,(sel (lst listed) 0 rows s0).1.get t=(full (rows.take i) s0).1.get t:=fun t ht=>by
   rw[hsel,EH]
   ·refine Bl _ _ _ _ rfl fun k hk hL hd=>?_
    simp only[List.length_take]at hk
    rw[Nat.zero_add]at hL
    simp only[List.getElem_take]at hd
    exact(Oper.apart_spec (HG k (by omega) hL).1).1 t hd ht
   ·intro k hk hL hd
    simp only[List.length_drop]at hk
    simp only[List.getElem_drop]at hd
    exact(Oper.apart_spec (HI (i+1+k) (by omega) (by omega) hL).1).2.2 t hd ht
  have jd:∀o∈x.rd,∀k (hk:k<rows.length),lst listed k=false→needs (rows[k]).o.op=true→o≠(rows[k]).q:=fun o ho k hk hL hn e=>by
   rcases HB hcc HJ Lm o ho with h|h
   ·rw[e]at h;exact h (hR k hk hL hn)
   ·have:=(hg.kept _ (List.getElem_mem hk) hn).2
    omega
  have OY:=tL HJ
  have EM:∀o∈x.rd,∀k (hk:i<k) (hkl:k<rows.length),lst listed k=true→o∉ (rows[k]).tch:=fun o ho k hk hkl hL hm=>by
   rcases kR hm with hm|⟨e,hm⟩
   ·exact(HI k hk hkl hL).2.2 o hm ho
   ·obtain⟨ob,h1,h2⟩:=OY o ho
    rw[e,OX k (by omega) hkl (hmk k hkl hm)]at h1
    cases h1;exact h2 rfl
  have RJ:∀o∈x.rd,(sel (lst listed) 0 rows s0).2[o]? =(full (rows.take i) s0).2[o]? :=fun o ho=>by
   rw[hsel]
   have e2:(sel (lst listed) (i+1) (rows.drop (i+1)) (sel (lst listed) 0 (rows.take i) s0)).2[o]? =(sel (lst listed) 0 (rows.take i) s0).2[o]? :=DE _ _ _ fun k hk hL=>by
    simp only[List.length_drop]at hk
    simp only[List.getElem_drop]
    exact EM o ho (i+1+k) (by omega) (by omega) hL
   rw[e2]
   refine EI _ _ _ _ rfl fun k hk hL hm=>?_
   simp only[List.length_take]at hk
   rw[Nat.zero_add]at hL
   simp only[List.getElem_take]at hm
   rcases kR hm with hm|⟨e,hm⟩
   ·exact(HG k (by omega) hL).2.1 o hm ho
   ·exact jd o ho k (by omega) hL (hmk k (by omega) hm) e
  have OZ:Fits P gl N ops b x (sel (lst listed) 0 rows s0).1 (sel (lst listed) 0 rows s0).2:=
   FQ HJ Lm (fun o ho=>by unfold look;rw[RJ o ho]) (fun hn=>by have:=hR i hil hLi (by rw[hx];exact hn);rw[hx]at this;exact this)
  have hL':∀k,lst (listed.setIfInBounds i true) k=if k=i then true else lst listed k:=fun k=>by
   unfold lst
   by_cases e:k=i
   ·subst e;rw[if_pos rfl];simp[Array.getD_eq_getD_getElem?, hls,hil]
   ·rw[if_neg e];simp[Array.getD_eq_getD_getElem?, Array.getElem?_setIfInBounds_ne (Ne.symm e)]
  unfold wpOp
  rw[hop i hil,hx]
  refine Ks hcc OZ fun a' w' μ' hc'=>?_
  refine ih _ a' w' μ' (by simpa using hls) ?_ ?_ ?_ ?_
  ·have:=EL (L:=lst listed) (L':=lst (listed.setIfInBounds i true)) hLi (by rw[hL',if_pos rfl]) (fun k hk=>by rw[hL',if_neg hk]) hil
   omega
  ·intro k o hk ho e he hb
   rw[hL']at hk⊢
   split
   ·rfl
   ·by_cases hki:k=i
    ·subst hki;exact haf o ho e he hb
    ·rw[if_neg hki]at hk;exact hcl k o hk ho e he hb
  ·intro k j hk hj hLj hLk hn
   rw[hL']at hLj hLk
   have hki:k≠i:=fun e=>by rw[if_pos e]at hLk;cases hLk
   rw[if_neg hki]at hLk
   by_cases hji:j=i
   ·subst hji
    rw[hx]
    intro hm
    exact jd _ hm k hk hLk hn rfl
   ·rw[if_neg hji]at hLj
    exact hh k j hk hj hLj hLk hn
  ·refine Kt (s:=x.ap (sel (lst listed) 0 rows s0)) ?_ hc'
   have e1:sel (lst (listed.setIfInBounds i true)) 0 rows s0=sel (lst listed) (i+1) (rows.drop (i+1)) (x.ap (sel (lst listed) 0 (rows.take i) s0)):=by
    conv=>lhs;rw[qW]
    rw[tO,Ku]
    simp only[sel,Nat.zero_add]
    rw[hL',if_pos rfl,cond_true]
    rw[wH (L':=lst listed) (rows.take i) 0 s0 fun k _ hk=>by
     simp only[List.length_take]at hk
     rw[hL',if_neg (by omega)]]
    exact wH _ _ _ fun k hk _=>by rw[hL',if_neg (by omega)]
   rw[e1,hsel]
   refine(EG _ _ _ fun k hk hL=>?_).symm
   simp only[List.length_drop]at hk
   simp only[List.getElem_drop]
   have hI:=HI (i+1+k) (by omega) (by omega) hL
   refine⟨(Oper.apart_spec hI.1).2.1,fun o ho hm=>?_⟩
   rcases kR ho with ho|⟨e,ho⟩
   ·exact EM o (DF HJ.EA ho) (i+1+k) (by omega) (by omega) hL hm
   ·have hn:=HJ.makes ho
    rcases kR hm with hm|⟨e',hm⟩
    ·have:=hh i (i+1+k) hil (by omega) hL hLi (by rw[hx];exact hn)
     rw[hx, ←e]at this
     exact this (DF (SS _ (by omega)) hm)
    ·have:=hg.qs i (i+1+k) hil (by omega) (by omega) (by rw[hx];exact hn) (hmk _ (by omega) hm)
     rw[hx]at this
     exact this (e.symm.trans e')
end
abbrev Log:=List (List Nat×List Nat)
def RL(rd up:List Nat):Log→Prop
 | []=>True
 |(rd',up')::l=>(∀o∈up,o∉rd')∧(∀o∈up',o∉rd)∧RL rd up l
def Ln:Log→Prop
 | []=>True
 |(rd,up)::l=>RL rd up l∧Ln l
def upL(r:LR):List Nat:=match r.up with|some (o,_)=>[o]|none=>[]
def oY(tr:Bool)(lg:Log)(r:LR)(ups:List (Nat×Ob)):Log:=bif tr then lg++[(r.rd,upL r++ups.map (·.1))]else lg
def Kv(N q:Nat)(tr:Bool)(dst:Option Nat)(lg:Log)(fr:Fr)(st:St)(k:Log→Fr→St→Prop)(r:LR):Prop:=
 r.ok∧dlt N dst∧k (oY tr lg r []) (fr.mV dst r.d) (r.app q st)
def FT(P:Program)(gl:Gl)(b:Nat)(tr:Bool)(dst:Option Nat)(lg:Log)(fr:Fr)(st:St)(k:Log→Fr→St→Prop)(g:FuncId)(args:List D):Prop:=
 ∃r rd ups,zS P gl g args rd st r ups∧(∀p∈ups,p.1∈rd)∧(∀o∈rd,o<b∧∃ob,look st o=some ob∧ob≠ .resv)∧(tr=false→rd=[])∧k (oY tr lg ⟨r,True,rd,none,none⟩ ups) (fr.mV dst r) (puts st ups)
def Bn(P:Program)(gl:Gl)(b:Nat)(G tr:Bool)(dst:Option Nat)(lg:Log)(fr:Fr)(st:St)(k:Log→Fr→St→Prop)(g:FuncId)(args:List D):Prop:=
 ∃r rd ups,(G=true→zS P gl g args rd st r ups)∧(∀p∈ups,p.1∈rd)∧(∀o∈rd,o<b∧∃ob,look st o=some ob∧ob≠ .resv)∧(tr=false→rd=[])∧(G=false→puts st ups=st)∧k (oY tr lg ⟨r,True,rd,none,none⟩ ups) (fr.mV dst (.cond G r)) (puts st ups)
def NW(P:Program)(gl:Gl)(N b:Nat)(tr:Bool)(dst:Option Nat)(lg:Log)(fr:Fr)(st:St)(k:Log→Fr→St→Prop)(ok:Prop)(f:D)(args:List D):Prop:=
 match f with
 | .fn g first cap=>dlt N dst∧ok∧FT P gl b tr dst lg fr st k g (first++args++cap)
 | _=>False
def HK(N q:Nat)(G:Bool)(tr:Bool)(dst:Option Nat)(lg:Log)(fr:Fr)(st:St)(k:Log→Fr→St→Prop)(r:LR):Prop:=
 cX G r.ok∧dlt N dst∧k (oY tr lg r []) (fr.mV dst (.cond G r.d)) (bif G then r.app q st else st)
def FU(P:Program)(gl:Gl)(N b:Nat)(G:Bool)(tr:Bool)(dst:Option Nat)(lg:Log)(fr:Fr)(st:St)(k:Log→Fr→St→Prop)(ok:Prop)(f:D)(args:List D):Prop:=
 match f with
 | .fn g first cap=>dlt N dst∧ok∧Bn P gl b G tr dst lg fr st k g (first++args++cap)
 | _=>False
def Lo(P:Program)(gl:Gl)(N b q:Nat)(tr:Bool)(k k1:Log→Fr→St→Prop)(dst:Option Nat)(op:Op)(lg:Log)(fr:Fr)(st:St):Nat→Prop
 |0=>Kv N q tr dst lg fr st k (aop P gl true op fr (look st) q)
 |1=>Kv N q tr dst lg fr st k1 (aop P gl true op fr (look st) q)
 | _=>match op with
  | .call ⟨.value f,args,_⟩=>NW P gl N b tr dst lg fr st k (eok gl true fr f∧(∀x∈args.toList,eok gl true fr x)) (ev1 gl fr f) (args.toList.map (ev1 gl fr))
  | _=>False
def Lp(P:Program)(gl:Gl)(N b q:Nat)(tr:Bool)(k:Log→Fr→St→Prop)(dst:Option Nat)(op:Op)(lg:Log)(fr:Fr)(st:St):Nat→Option Bool→Prop
 |0,some G=>HK N q G tr dst lg fr st k (aop P gl G op fr (look st) q)
 |2,some G=>match op with
  | .call ⟨.value f,args,_⟩=>FU P gl N b G tr dst lg fr st k (eok gl G fr f∧(∀x∈args.toList,eok gl G fr x)) (ev1 gl fr f) (args.toList.map (ev1 gl fr))
  | _=>False
 | _,_=>False
def EvD(P:Program)(gl:Gl)(N:Nat)(ops:Array Oper)(b:Nat)(trk:List Nat)(K:Fr→St→Prop):List Oper→Nat→Nat→Log→Fr→St→Prop
 | [],_,_,lg,fr,st=>Ln lg∧K fr st
 |⟨dst,op,_,_,_,none⟩::l,i,k,lg,fr,st=>Lo P gl N b (b+k) (trk.contains i) (EvD P gl N ops b trk K l (i+1) k) (EvD P gl N ops b trk K l (i+1) (k+1)) dst op lg fr st (opk op)
 |⟨dst,op,_,_,_,some (j,want)⟩::l,i,k,lg,fr,st=>Lp P gl N b (b+k) (trk.contains i) (EvD P gl N ops b trk K l (i+1) k) dst op lg fr st (opk op) (Ke fr want (gslot ops j))
def rds:Op→Bool
 | .load _ _| .store _ _ _| .indexAddr _ _ _| .slice _ _ _ _ _| .lookup _ _ _ _| .mapUpdate _ _ _ _| .next _ _| .call { callee:=.builtin .len,.. }| .call { callee:=.builtin .append,.. }=>true
 | _=>false
def wrs:Op→Bool
 | .store _ _ _| .mapUpdate _ _ _ _| .next _ _| .call { callee:=.builtin .append,.. }=>true
 | _=>false
def yh(trk:List Nat)(i:Nat)(o:Op):Bool:=(gZ o).isSome&&trk.contains i
def HL(tbl:List Nat)(o:Oper):Nat:=o.after.toList.foldl (fun s e=>bif Region.binds .any e then s|||2^e.on|||tbl.getD e.on 0 else s) 0
def masks:List Oper→List Nat→List Nat
 | [],tbl=>tbl
 |o::l,tbl=>masks l (tbl++[HL tbl o])
def Lq(ops:Array Oper)(trk:List Nat)(m i j:Nat):Bool:=
 Nat.testBit m i||(match ops[i]?, ops[j]? with
  |some x,some y=>Oper.apart ops x y&&((!((wrs x.op||yh trk i x.op)&&(rds y.op||yh trk j y.op))&& !((wrs y.op||yh trk j y.op)&&(rds x.op||yh trk i x.op)))||(trk.contains i&&trk.contains j))
  | _,_=>false)
def zU(ops:Array Oper)(trk:List Nat):Bool:=
 let tbl:=masks ops.toList []
 (List.range ops.size).all fun j=>
  (match ops[j]? with|some o=>o.after.toList.all fun e=> !Region.binds .any e||Nat.blt e.on j|none=>true)&&
  (List.range j).all fun i=>Lq ops trk (tbl.getD j 0) i j
theorem FV{tbl:List Nat}{o:Oper}{j:Nat}(h:Nat.testBit (HL tbl o) j=true):∃e∈o.after,Region.binds .any e=true∧(e.on=j∨Nat.testBit (tbl.getD e.on 0) j=true):=by
 have key:∀(l:List Edge) (s:Nat),Nat.testBit (l.foldl (fun s e=>bif Region.binds .any e then s|||2^e.on|||tbl.getD e.on 0 else s) s) j=true→
  Nat.testBit s j=true∨∃e∈l,Region.binds .any e=true∧(e.on=j∨Nat.testBit (tbl.getD e.on 0) j=true):=by
  intro l
  induction l with
  |nil=>intro s h;exact .inl h
  |cons e l ih=>
   intro s h
   simp only[List.foldl_cons]at h
   rcases ih _ h with h|⟨e',h1,h2⟩
   ·cases hb:Region.binds .any e with
    |false=>rw[hb]at h;exact .inl h
    |true=>
     rw[hb]at h
     simp only[cond_true,Nat.testBit_or,Bool.or_eq_true,Nat.testBit_two_pow,decide_eq_true_eq]at h
     rcases h with(h|h)|h
     ·exact .inl h
     ·exact .inr ⟨e,by simp,hb,.inl h⟩
     ·exact .inr ⟨e,by simp,hb,.inr h⟩
   ·exact .inr ⟨e',by simp[h1],h2⟩
 rcases key _ 0 h with h|⟨e,h1,h2⟩
 ·simp at h
 ·exact⟨e,by simpa using h1,h2⟩
theorem Bo{ops:Array Oper}:∀(l:List Oper) (tbl:List Nat),ops.toList.drop tbl.length=l→
 (∀j,j<tbl.length→∀i,Nat.testBit (tbl.getD j 0) i=true→Ord ops i j)→∀j i,Nat.testBit ((masks l tbl).getD j 0) i=true→Ord ops i j
 | [],tbl,_,h,j,i,hb=>by
  rcases Nat.lt_or_ge j tbl.length with hj|hj
  ·exact h j hj i hb
  ·simp only[masks]at hb
   rw[List.getD_eq_getElem?_getD,List.getElem?_eq_none hj]at hb
   simp at hb
 |o::l,tbl,hl,h,j,i,hb=>by
  simp only[masks]at hb
  have ho:ops[tbl.length]? =some o:=by
   have:(ops.toList.drop tbl.length)[0]? =some o:=by rw[hl];rfl
   simpa[List.getElem?_drop]using this
  refine Bo l (tbl++[HL tbl o]) ?_ ?_ j i hb
  ·have:=congrArg List.tail hl
   simpa[List.tail_drop]using this
  ·intro j hj i hb
   rcases Nat.lt_or_ge j tbl.length with hj'|hj'
   ·rw[List.getD_eq_getElem?_getD,List.getElem?_append_left hj', ←List.getD_eq_getElem?_getD]at hb
    exact h j hj' i hb
   ·have:j=tbl.length:=by simp at hj;omega
    subst this
    rw[List.getD_eq_getElem?_getD,List.getElem?_append_right (Nat.le_refl _)]at hb
    simp only[Nat.sub_self,List.getElem?_cons_zero,Option.getD_some]at hb
    obtain⟨e,h1,h2,h3⟩:=FV hb
    intro L hcl haf
    have hon:=haf o ho e h1 h2
    rcases h3 with rfl|h3
    ·exact hon
    ·rcases Nat.lt_or_ge e.on tbl.length with hlt|hge
     ·exact h e.on hlt i h3 L hcl fun o' ho' e' he' hb'=>hcl e.on o' hon ho' e' he' hb'
     ·rw[List.getD_eq_getElem?_getD,List.getElem?_eq_none hge]at h3
      simp at h3
section
variable {P:Program} {gl:Gl} {N:Nat} {ops:Array Oper} {fr:Fr} {st:St} {q:Nat} {g:Bool} {op:Op} {lk:Look}
theorem Kw(h:rds op=false):(aop P gl g op fr lk q).rd=[]:=by
 cases op with
 |load|store|indexAddr|slice|lookup|mapUpdate|next=>cases h
 |range t x=>exact zQ
 |call c=>
  obtain⟨callee,args,ats⟩:=c
  cases callee with
  |value f=>rfl
  |invoke r m=>rfl
  |builtin b=>
   cases b<;>first|(cases h;done)|skip
   all_goals
    simp only[aop]
    generalize args.toList=l
    generalize ats.toList=l'
    first|rfl|(split<;>first|contradiction|rfl|exact Hy|exact Hz)
 |pick c a b=>exact DA
 |build t ps=>exact zN
 |buildSlice t len ps=>simp only[aop];cases gl.imm t<;>rfl
 |binOp o t x y u=>
  simp only[aop]
  split<;>first|exact Mq|exact Hw
 |unOp o t x=>exact Mr
 |nilCheck x=>exact qZ
 |convert s t x=>exact tI
 |makeFunc f a b=>cases f<;>rfl
 |makeMap t r=>cases r with
  |none=>exact tK
  |some r=>rfl
 |makeSlice t l c=>exact oV
 |fieldAddr t x f=>exact oU
 |field t x f=>exact zO
 |index t x y=>exact zP
 |extract x j=>exact tJ
 | _=>rfl
theorem Mw(h:wrs op=false)(hr:rds op=true):(aop P gl g op fr lk q).up=none:=by
 cases op<;>first|(cases h;done)|(cases hr;done)|skip
 case load=>exact(nP _ _ _).1
 case indexAddr=>exact(gJ _ _ _ _ _).1
 case slice=>exact(lX _ _ _ _ _ _ _).1
 case lookup=>exact(kf _ _ _ _ _ _ _).1
 case call c=>
  obtain⟨callee,args,ats⟩:=c
  cases callee with
  |value f=>rfl
  |invoke r m=>rfl
  |builtin b=>
   cases b<;>first|(cases h;done)|(cases hr;done)|skip
   simp only[aop]
   generalize args.toList=l
   generalize ats.toList=l'
   first|rfl|(split<;>first|contradiction|rfl|exact(nh _ _ _).1)
theorem vE{b:Nat}{x:Row}(h:Fits P gl N ops b x fr st)(hr:rds x.o.op=false)(hc:gZ x.o.op≠none→x.r.rd=[]):x.rd=[]:=by
 unfold Row.rd
 cases hG:x.G with
 |false=>rfl
 |true=>
  rcases h.does hG with⟨_,e,_⟩|⟨_,_,_,_,_,_,_,e,_⟩
  ·rw[e];exact Kw hr
  ·exact hc (by rw[e];simp)
theorem EN{b:Nat}{x:Row}(h:Fits P gl N ops b x fr st)(hw:wrs x.o.op=false)(hc:gZ x.o.op≠none→x.r.rd=[]):x.wr=[]:=by
 cases hr:rds x.o.op with
 |false=>
  have:=vE h hr hc
  rw[List.eq_nil_iff_forall_not_mem]
  intro o ho
  have:=DF h.EA ho
  rw[vE h hr hc]at this;cases this
 |true=>
  unfold Row.wr
  cases hG:x.G with
  |false=>rfl
  |true=>
   rcases h.does hG with⟨_,e,_,_,hu⟩|⟨_,_,_,_,_,_,_,e,_⟩
   ·rw[e,Mw hw hr,hu];rfl
   ·rw[List.eq_nil_iff_forall_not_mem]
    intro o ho
    have h1:o∈x.wr:=by unfold Row.wr;rw[hG];exact ho
    have h2:=DF h.EA h1
    unfold Row.rd at h2
    rw[hG,hc (by rw[e];simp)]at h2
    cases h2
end
def oF:List Oper→Nat
 | []=>0
 |o::l=>oF l+(bif needs o.op then 1 else 0)
def qOk:Nat→List Row→Prop
 | _,[]=>True
 |q,x::l=>x.q=q∧qOk (bif needs x.o.op then q+1 else q) l
def rY(trk:List Nat):Nat→List Row→Log
 | _,[]=>[]
 |i,x::l=>bif trk.contains i then(x.r.rd,upL x.r++x.ups.map (·.1))::rY trk (i+1) l else rY trk (i+1) l
def nrd(trk:List Nat):Nat→List Row→Prop
 | _,[]=>True
 |i,x::l=>(trk.contains i=false→gZ x.o.op≠none→x.r.rd=[])∧nrd trk (i+1) l
theorem Lr{trk:List Nat}:∀(l:List Row) (i j:Nat) (h:j<l.length),nrd trk i l→trk.contains (i+j)=false→gZ (l[j]).o.op≠none→(l[j]).r.rd=[]
 |x::l,i,0,_,h,ht,hc=>h.1 (by simpa using ht) hc
 |x::l,i,j+1,hj,h,ht,hc=>Lr l (i+1) j (by simpa using hj) h.2 (by rw[←ht];congr 1;omega) hc
section
variable {P:Program} {gl:Gl} {N:Nat} {ops:Array Oper} {b:Nat} {trk:List Nat} {K:Fr→St→Prop} {w0:World} {μ0:Mu} {st0:St} {Q:Exit→Act→World→Prop}
theorem HM{x:Row}{fr:Fr}{st:St}{q:Nat}(h:Fits P gl N ops b x fr st)(hq:st[q]? =some (some .resv))(hne:needs x.o.op=true→q≠x.q):(x.st st)[q]? =some (some .resv):=by
 rw[oX fun hm=>?_]
 ·exact hq
 ·rcases kR hm with hm|⟨e,hm⟩
  ·obtain⟨ob,h1,h2⟩:=tL h _ (DF h.EA hm)
   rw[hq]at h1;cases h1;exact h2 rfl
  ·exact hne (h.makes hm) e
theorem oZ{o:Oper}{l:List Oper}{i k:Nat}{lg:Log}{fr:Fr}{st:St}(x:Row)(hx:x.o=o)(hq:x.q=b+k)(hf:Fits P gl N ops b x fr st)(hnr:trk.contains i=false→gZ x.o.op≠none→x.r.rd=[])
 (hk:∀m,k≤m→m<k+oF (o::l)→st[b+m]? =some (some .resv))
 (ih:(∀m,(bif needs o.op then k+1 else k)≤m→m<(bif needs o.op then k+1 else k)+oF l→(x.st st)[b+m]? =some (some .resv))→
  ∃rows:List Row,rows.map (·.o)=l∧qOk (b+(bif needs o.op then k+1 else k)) rows∧Trace P gl N ops b rows (x.ap (fr,st))∧K (full rows (x.ap (fr,st))).1 (full rows (x.ap (fr,st))).2∧Ln (oY (trk.contains i) lg x.r x.ups++rY trk (i+1) rows)∧nrd trk (i+1) rows):
 ∃rows:List Row,rows.map (·.o)=o::l∧qOk (b+k) rows∧Trace P gl N ops b rows (fr,st)∧K (full rows (fr,st)).1 (full rows (fr,st)).2∧Ln (lg++rY trk i rows)∧nrd trk i rows:=by
 obtain⟨rows,h1,h2,h3,h4,h5,h6⟩:=ih fun m h1 h2=>by
  refine HM hf (hk m ?_ ?_) fun hn=>?_
  ·cases hn:needs o.op<;>simp[hn]at h1<;>omega
  ·simp only[oF];cases hn:needs o.op<;>simp[hn]at h2⊢ <;>omega
  ·rw[hx]at hn
   rw[hq]
   simp[hn]at h1;omega
 refine⟨x::rows,by simp[hx,h1],⟨hq,?_⟩,⟨hf,h3⟩,h4,?_,hnr,h6⟩
 ·rw[hx]
  cases hn:needs o.op<;>simp[hn]at h2⊢
  ·exact h2
  ·exact h2
 ·simp only[rY]
  unfold oY at h5
  cases ht:trk.contains i with
  |false=>rw[ht]at h5;exact h5
  |true=>
   rw[ht]at h5
   simp only[cond_true,List.append_assoc,List.cons_append,List.nil_append]at h5⊢
   exact h5
set_option maxHeartbeats 1000000 in
theorem tP:∀(l:List Oper) (i k:Nat) (lg:Log) (fr:Fr) (st:St),EvD P gl N ops b trk K l i k lg fr st→
 (∀m,k≤m→m<k+oF l→st[b+m]? =some (some .resv))→
 ∃rows:List Row,rows.map (·.o)=l∧qOk (b+k) rows∧Trace P gl N ops b rows (fr,st)∧K (full rows (fr,st)).1 (full rows (fr,st)).2∧Ln (lg++rY trk i rows)∧nrd trk i rows
 | [],i,k,lg,fr,st,h,_=>⟨[],rfl,trivial,trivial,h.2,by simpa[rY]using h.1,trivial⟩
 |⟨dst,op,ty,pos,af,none⟩::l,i,k,lg,fr,st,h,hk=>by
  simp only[EvD]at h
  by_cases h0:opk op=0
  ·rw[h0]at h
   obtain⟨h1,h2⟩:=(qm op).1 h0
   obtain⟨a,c,d⟩:=h
   refine oZ ⟨_,b+k,true,aop P gl true op fr (look st) (b+k),[]⟩ rfl rfl ⟨c,trivial,rfl,⟨zR,fun _ h=>(by cases h)⟩,fun _=>.inl ⟨h1,rfl,a,(fun hn=>by rw[h2]at hn;cases hn),rfl⟩,fun hn=>absurd (Dx h2) hn⟩ (fun _ hc=>absurd h1 hc) hk ?_
   rw[h2]
   exact fun hk'=>tP l _ _ _ _ _ d hk'
  ·by_cases h1':opk op=1
   ·rw[h1']at h
    obtain⟨h1,h2⟩:=(qm op).2 h1'
    obtain⟨a,c,d⟩:=h
    refine oZ ⟨_,b+k,true,aop P gl true op fr (look st) (b+k),[]⟩ rfl rfl ⟨c,trivial,rfl,⟨zR,fun _ h=>(by cases h)⟩,fun _=>.inl ⟨h1,rfl,a,fun hn=>hk k (Nat.le_refl _) ?_,rfl⟩,fun _=>h2⟩ (fun _ hc=>absurd h1 hc) hk ?_
    ·simp only[oF,h2,cond_true];omega
    ·rw[h2]
     exact fun hk'=>tP l _ _ _ _ _ d hk'
   ·obtain⟨f,args,ats,rfl⟩:=nS h0 h1'
    simp only[opk,Lo,NW]at h
    cases hf:ev1 gl fr f<;>rw[hf]at h<;>first|exact h.elim|skip
    obtain⟨a,⟨c,d⟩,r,rd,ups,hp,hu,hrd,htr,e⟩:=h
    refine oZ ⟨_,b+k,true,⟨r,True,rd,none,none⟩,ups⟩ rfl rfl ⟨a,trivial,rfl,⟨W4 rfl,hu⟩,fun _=>.inr ⟨f,args.toList,_,_,_,r,rd,rfl,c,d,hf,hp,rfl,fun o ho=>⟨(hrd o ho).1,let ⟨ob,h1,h2⟩:=(hrd o ho).2;⟨ob,qo.1 h1,h2⟩⟩⟩,fun hn=>absurd rfl hn⟩ (fun ht _=>htr ht) hk ?_
    exact fun hk'=>tP l _ _ _ _ _ e hk'
 |⟨dst,op,ty,pos,af,some (j,want)⟩::l,i,k,lg,fr,st,h,hk=>by
  simp only[EvD]at h
  cases hg:Ke fr want (gslot ops j)with
  |none=>rw[hg]at h;unfold Lp at h;split at h<;>first|exact h.elim|(rename_i e;cases e)
  |some G=>
   rw[hg]at h
   obtain⟨g1,g2⟩:=Ho (dst:=dst) (op:=op) (ty:=ty) (pos:=pos) (af:=af) hg
   by_cases h0:opk op=0
   ·rw[h0]at h
    obtain⟨a,c,d⟩:=h
    obtain⟨h1,h2⟩:=(qm op).1 h0
    refine oZ ⟨_,b+k,G,aop P gl G op fr (look st) (b+k),[]⟩ rfl rfl ⟨c,g2.symm▸trivial,g1.symm,⟨zR,fun _ h=>(by cases h)⟩,fun(hG:G=true)=>.inl ⟨h1,by subst hG;rfl,a hG,(fun hn=>by rw[h2]at hn;cases hn),rfl⟩,fun hn=>absurd (Dx h2) hn⟩ (fun _ hc=>absurd h1 hc) hk ?_
    rw[h2]
    exact fun hk'=>tP l _ _ _ _ _ d hk'
   ·by_cases h1:opk op=1
    ·rw[h1]at h;exact h.elim
    ·obtain⟨f,args,ats,rfl⟩:=nS h0 h1
     simp only[opk,Lp,FU]at h
     cases hf:ev1 gl fr f<;>rw[hf]at h<;>first|exact h.elim|skip
     obtain⟨a,⟨c,d⟩,r,rd,ups,hp,hu,hrd,htr,hgf,e⟩:=h
     refine oZ ⟨_,b+k,G,⟨r,True,rd,none,none⟩,ups⟩ rfl rfl ⟨a,g2.symm▸trivial,g1.symm,⟨W4 rfl,hu⟩,fun(hG:G=true)=>.inr ⟨f,args.toList,_,_,_,r,rd,rfl,by subst hG;exact c,by subst hG;exact d,hf,hp hG,rfl,fun o ho=>⟨(hrd o ho).1,let ⟨ob,h1,h2⟩:=(hrd o ho).2;⟨ob,qo.1 h1,h2⟩⟩⟩,fun hn=>absurd rfl hn⟩ (fun ht _=>htr ht) hk ?_
     have es:(bif G then puts ((LR.mk r True rd none none).app (b+k) st) ups else st)=puts st ups:=by
      cases G with
      |true=>rfl
      |false=>exact(hgf rfl).symm
     intro hk'
     simp only[Row.ap,Row.st,Row.fr,Row.d,es]at hk'⊢
     exact tP l _ _ _ _ _ e hk'
theorem HO:∀(l:List Row) (q:Nat),qOk q l→∀j (h:j<l.length),q≤(l[j]).q∧(needs (l[j]).o.op=true→(l[j]).q<q+oF (l.map (·.o)))
 |x::l,q,h,0,_=>by
  refine⟨Nat.le_of_eq h.1.symm,fun hn=>?_⟩
  simp only[List.getElem_cons_zero]at hn⊢
  rw[h.1]
  simp only[List.map_cons,oF,hn,cond_true];omega
 |x::l,q,h,j+1,hj=>by
  have:=HO l _ h.2 j (by simpa using hj)
  simp only[List.getElem_cons_succ,List.map_cons,oF]
  cases hn:needs x.o.op<;>simp only[hn,cond_true,cond_false]at this⊢
  ·exact⟨this.1,fun h=>by have:=this.2 h;omega⟩
  ·exact⟨by omega,fun h=>by have:=this.2 h;omega⟩
theorem HS:∀(l:List Row) (q:Nat),qOk q l→∀i j (hi:i<l.length) (hj:j<l.length),i<j→needs (l[i]).o.op=true→(l[i]).q<(l[j]).q
 |x::l,q,h,0,j+1,_,hj,_,hn=>by
  simp only[List.getElem_cons_zero,List.getElem_cons_succ]at hn⊢
  have:=(HO l _ h.2 j (by simpa using hj)).1
  rw[hn,cond_true]at this
  rw[h.1];omega
 |x::l,q,h,i+1,j+1,hi,hj,hij,hn=>by
  simp only[List.getElem_cons_succ]at hn⊢
  exact HS l _ h.2 i j (by simpa using hi) (by simpa using hj) (by omega) hn
theorem HT{rd up:List Nat}:∀ {lg:Log},RL rd up lg→∀y∈lg,(∀o∈up,o∉y.1)∧∀o∈y.2,o∉rd
 |(rd',up')::l,h,y,hy=>by
  rcases List.mem_cons.1 hy with e|e
  ·subst e
   exact⟨h.1,h.2.1⟩
  ·exact HT h.2.2 y e
theorem Bp{trk:List Nat}:∀(l:List Row) (i j:Nat) (h:j<l.length),trk.contains (i+j)=true→((l[j]).r.rd,upL (l[j]).r++(l[j]).ups.map (·.1))∈rY trk i l
 |x::l,i,0,_,ht=>by simp only[rY,Nat.add_zero]at ht ⊢; rw[ht];simp
 |x::l,i,j+1,hj,ht=>by
  have:=Bp l (i+1) j (by simpa using hj) (by rw[←ht];congr 1;omega)
  simp only[rY,List.getElem_cons_succ]
  cases trk.contains i with
  |true=>exact List.mem_cons_of_mem _ this
  |false=>exact this
theorem Pa{x:Row}{o:Nat}(h:o∈x.wr):o∈upL x.r++x.ups.map (·.1):=by
 unfold Row.wr at h
 cases hG:x.G<;>rw[hG]at h<;>simp only[cond_true,cond_false]at h
 ·cases h
 ·exact h
theorem Pb{x:Row}{o:Nat}(h:o∈x.rd):o∈x.r.rd:=by
 unfold Row.rd at h
 cases hG:x.G<;>rw[hG]at h
 ·cases h
 ·exact h
theorem HU{trk:List Nat}:∀(l:List Row) (i:Nat),Ln (rY trk i l)→∀j m (hj:j<l.length) (hm:m<l.length),j<m→trk.contains (i+j)=true→trk.contains (i+m)=true→
 (∀o∈(l[j]).wr,o∉ (l[m]).rd)∧∀o∈(l[m]).wr,o∉ (l[j]).rd
 |x::l,i,h,0,m+1,_,hm,_,t1,t2=>by
  simp only[rY,Nat.add_zero]at h t1
  rw[t1]at h
  have:=HT h.1 _ (Bp l (i+1) m (by simpa using hm) (by rw[←t2];congr 1;omega))
  simp only[List.getElem_cons_zero,List.getElem_cons_succ]
  exact⟨fun o ho ho'=>this.1 o (Pa ho) (Pb ho'),fun o ho ho'=>this.2 o (Pa ho) (Pb ho')⟩
 |x::l,i,h,j+1,m+1,hj,hm,hjm,t1,t2=>by
  have h':Ln (rY trk (i+1) l):=by
   simp only[rY]at h
   cases ht:trk.contains i with
   |true=>rw[ht]at h;exact h.2
   |false=>rw[ht]at h;exact h
  simp only[List.getElem_cons_succ]
  exact HU l (i+1) h' j m (by simpa using hj) (by simpa using hm) (by omega) (by rw[←t1];congr 1;omega) (by rw[←t2];congr 1;omega)
theorem yV{rows:List Row}{s:Fr×St}(h:Trace P gl N ops b rows s)(j:Nat)(hj:j<rows.length):∃s':Fr×St,Fits P gl N ops b (rows[j]) s'.1 s'.2:=by
 have e:rows=rows.take j++rows[j]::rows.drop (j+1):=by rw[List.getElem_cons_drop,List.take_append_drop]
 rw[e]at h
 exact⟨_,rX _ h⟩
theorem EO{fr:Fr}{a:Act}{w:World}:∀(n:Nat) {st:St} {μ:Mu},tu gl N w0 μ0 st0 fr st a w μ→∃μ',tu gl N w0 μ0 st0 fr (st++List.replicate n (some .resv)) a w μ'
 |0,st,μ,h=>⟨μ,by simpa using h⟩
 |n+1,st,μ,h=>by
  obtain⟨k1,k2⟩:=Eo h.sim
  obtain⟨μ',h'⟩:=EO n (st:=st++[some .resv]) ⟨k1,h.glob.step k2,h.fr.step k2,h.size,h.defers,h.step.trans k2⟩
  exact⟨μ',by simpa[List.replicate_succ,List.append_assoc]using h'⟩
theorem FW{fr:Fr}{a:Act}{w:World}{st:St}{μ:Mu}(h:tu gl N w0 μ0 st0 fr st a w μ):tu gl N w0 μ0 st0 fr st a { w with drawn:=w.drawn+1 } μ:=by
 have step:Step w μ st { w with drawn:=w.drawn+1 } μ st:=⟨Nat.le_refl _,rfl,rfl,rfl,fun _ _ _=>rfl,fun _ h=>.inl h,Nat.le_refl _,fun _ ob' _ h=>⟨ob',h,by
  cases ob' with
  |arr g n b es=>exact⟨Nat.le_refl _,fun _=>⟨rfl,rfl,rfl,rfl,fun blk base c ty _ hh=>⟨c,hh,rfl⟩⟩⟩
  |mps=>exact⟨rfl,rfl⟩
  |mpi=>exact⟨rfl,rfl,rfl⟩
  |sit=>rfl
  |resv=>trivial⟩⟩
 exact⟨⟨fun o ob ho=>(h.sim.obj o ob ho).step step (fun _ _ _=>rfl),h.sim.inj⟩,h.glob.step step,h.fr.step step,h.size,h.defers,h.step.trans step⟩
variable {n0:Nat} {keep:List Nat} {AQ':AQ} {fr:Fr} {st:St}
theorem Bq{id:Nat}{l:List Oper}(trk:List Nat)(n:Nat)(hm:P.follows .mixedOrders=true)(ho:zU l.toArray trk=true)(hn:oF l=n)
 (h:EvD P gl N l.toArray st.length trk (fun fr st=>AQ' .normal (Fr.only keep fr) st) l 0 0 [] fr (st++List.replicate n (some .resv))):
 AWp P gl N n0 keep (.region id l.toArray true) AQ' fr st:=by
 intro w0 μ0 st0 hl a w ⟨μ,hc⟩
 obtain⟨μ1,hc1⟩:=EO n (FW hc)
 have hget:∀m,m<n→(st++List.replicate n (some Ob.resv))[st.length+m]? =some (some .resv):=fun m hm=>by
  rw[List.getElem?_append_right (by omega),Nat.add_sub_cancel_left]
  simp[hm]
 obtain⟨rows,h1,h2,h3,h4,h5,h6⟩:=tP l 0 0 [] fr _ h fun m _ hm=>hget m (by omega)
 refine wp_region_any hm ?_
 have hlen:rows.length=l.length:=by rw[←h1];simp
 have hop:∀i (hi:i<rows.length),l.toArray[i]? =some (rows[i]).o:=fun i hi=>by
  have:l[i]? =(rows.map (·.o))[i]? :=by rw[h1]
  simpa[hi]using this
 have QX:=ho
 unfold zU at QX
 simp only[List.all_eq_true,List.mem_range,Bool.and_eq_true]at QX
 have DG:Good P gl N l.toArray st.length rows (fr,st++List.replicate n (some .resv)):=by
  refine⟨by simpa using h1.symm,h3,fun i j hi hj hne hni hnj=>?_,fun x hx hnx=>?_,fun i o hio e he hb=>?_,fun i j hi hj hij=>?_⟩
  ·rcases Nat.lt_or_gt_of_ne hne with hlt|hlt
   ·exact Nat.ne_of_lt (HS rows _ h2 i j hi hj hlt hni)
   ·exact Nat.ne_of_gt (HS rows _ h2 j i hj hi hlt hnj)
  ·obtain⟨j,hj,e⟩:=List.getElem_of_mem hx
   have:=HO rows _ h2 j hj
   rw[e,h1,hn]at this
   obtain⟨q1,q2⟩:=this
   have q3:=q2 hnx
   have:=hget (x.q-st.length) (by omega)
   rw[show st.length+(x.q-st.length)=x.q by omega]at this
   exact⟨this,by omega⟩
  ·have hil:i<l.length:=by
    rcases Nat.lt_or_ge i l.length with h'|h'
    ·exact h'
    ·rw[Array.getElem?_eq_none (by simpa using h')]at hio;cases hio
   have:=(QX i (by simpa using hil)).1
   rw[hio]at this
   simp only[List.all_eq_true]at this
   have:=this e (by simpa using he)
   rw[hb]at this
   simp only[Bool.not_true,Bool.false_or]at this
   exact Nat.lt_of_lt_of_le (Nat.lt_succ_self _) (Nat.le_of_ble_eq_true this)
  ·have hp:=(QX j (by simpa[←hlen]using hj)).2 i hij
   unfold Lq at hp
   rw[hop i hi,hop j hj]at hp
   simp only[Bool.or_eq_true]at hp
   rcases hp with hp|hp
   ·exact .inl (Bo l.toArray.toList [] rfl (fun j hj=>absurd hj (Nat.not_lt_zero _)) j i hp)
   ·right
    simp only[Bool.and_eq_true,Bool.or_eq_true]at hp
    obtain⟨hp1,hp2⟩:=hp
    refine⟨hp1,?_⟩
    obtain⟨s1,f1⟩:=yV h3 i hi
    obtain⟨s2,f2⟩:=yV h3 j hj
    rcases hp2 with⟨hp2,hp3⟩|⟨t1,t2⟩
    ·have hcc:∀k (hk:k<rows.length),yh trk k (rows[k]).o.op=false→gZ (rows[k]).o.op≠none→(rows[k]).r.rd=[]:=fun k hk hc hne=>by
      refine Lr rows 0 k hk h6 ?_ hne
      unfold yh at hc
      have:(gZ (rows[k]).o.op).isSome=true:=by cases h:gZ (rows[k]).o.op with
       |none=>exact absurd h hne
       |some=>rfl
      rw[this,Bool.true_and]at hc
      rw[Nat.zero_add];exact hc
     refine⟨fun o a1 a2=>?_,fun o a1 a2=>?_⟩
     ·cases hw:(wrs (rows[i]).o.op||yh trk i (rows[i]).o.op)with
      |false=>
       rw[Bool.or_eq_false_iff]at hw
       rw[EN f1 hw.1 (hcc i hi hw.2)]at a1;cases a1
      |true=>cases hr:(rds (rows[j]).o.op||yh trk j (rows[j]).o.op)with
       |false=>
        rw[Bool.or_eq_false_iff]at hr
        rw[vE f2 hr.1 (hcc j hj hr.2)]at a2;cases a2
       |true=>rw[hw,hr]at hp2;cases hp2
     ·cases hw:(wrs (rows[j]).o.op||yh trk j (rows[j]).o.op)with
      |false=>
       rw[Bool.or_eq_false_iff]at hw
       rw[EN f2 hw.1 (hcc j hj hw.2)]at a1;cases a1
      |true=>cases hr:(rds (rows[i]).o.op||yh trk i (rows[i]).o.op)with
       |false=>
        rw[Bool.or_eq_false_iff]at hr
        rw[vE f1 hr.1 (hcc i hi hr.2)]at a2;cases a2
       |true=>rw[hw,hr]at hp3;cases hp3
    ·exact HU rows 0 (by simpa using h5) i j hi hj hij (by simpa using t1) (by simpa using t2)
 have hl0:∀i,lst (Array.replicate l.toArray.size false) i=false:=fun i=>by
  unfold lst
  rw[Array.getD_eq_getD_getElem?]
  by_cases hi:i<l.length
  ·simp[hi]
  ·simp[hi]
 refine HE DG (fun a w μ hc=>⟨_,_,h4,μ,hc.sim,hc.glob,hc.fr.only keep,hc.size,hc.defers,hc.step⟩) _ _ _ _ μ1 (by simp[hlen]) ?_ ?_ ?_ ?_
 ·have:∀n,cnt (lst (Array.replicate l.toArray.size false)) n≤n:=fun n=>by
   induction n with
   |zero=>exact Nat.le_refl _
   |succ n ih=>simp only[cnt,hl0,cond_false];omega
  have:=this rows.length
  simpa[hlen]using this
 ·intro k o hk;rw[hl0]at hk;cases hk
 ·intro i j hi hj hj';rw[hl0]at hj';cases hj'
 ·rw[EF rows 0 _ fun k _ _=>hl0 k]
  exact hc1
end
end Go.Am
