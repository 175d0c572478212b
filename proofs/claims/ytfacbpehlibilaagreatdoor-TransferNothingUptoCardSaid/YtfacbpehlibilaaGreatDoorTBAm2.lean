/-
 AM, part 25: rows of a trace: what an operation did, and that it does so at every state that agrees on what it looked at.
-/
import Derived.Orders
import Derived.Scope
import Derived.Test.YtfacbpehlibilaaGreatDoorTBAm1
set_option linter.unusedVariables false
set_option linter.unusedSimpArgs false
namespace Go.Am
open Go
theorem d7X{o:Nat}:∀ {m:List (Nat×Ob)} {s:St},o∉m.map (·.1)→(puts s m)[o]? =s[o]?
 | [],_,_=>rfl
 |(a,x)::m,s,h=>by
  simp only[List.map_cons,List.mem_cons,not_or]at h
  simp only[puts]
  rw[List.getElem?_set,if_neg (fun e=>h.1 e.symm),d7X h.2]
theorem d4u{o:Nat}:∀ {m:List (Nat×Ob)} {s s':St},s[o]? =s'[o]? →(puts s m)[o]? =(puts s' m)[o]?
 | [],_,_,h=>h
 |(a,x)::m,s,s',h=>by
  have ih:=d4u (m:=m) h
  simp only[puts]
  have sg:∀(l:St) (v:Option Ob),(l.set a v)[o]? =if a=o then(l[o]?).map (fun _=>v)else l[o]? :=fun l v=>by
   rw[List.getElem?_set]
   by_cases h:a=o
   ·subst h
    rw[if_pos rfl,if_pos rfl]
    by_cases hl:a<l.length
    ·rw[if_pos hl,List.getElem?_eq_getElem hl];rfl
    ·rw[if_neg hl,List.getElem?_eq_none (by simpa using hl)];rfl
   ·rw[if_neg h,if_neg h]
  rw[sg,sg,ih]
def d5b(P:Program)(G:Gl)(f:FuncId)(args:List D)(rd:List Nat)(st0:St)(r:D)(ups:List (Nat×Ob)):Prop:=
 ∀st,(∀o∈rd,look st o=look st0 o)→Spec P G f args st fun d st'=>d=r∧st'=puts st ups
theorem Pure.loc{P:Program}{G:Gl}{f:FuncId}{args:List D}{st0:St}{r:D}(h:Pure P G f args r):d5b P G f args [] st0 r []:=fun st _=>h st
structure Row where
 o:Oper
 q:Nat
 G:Bool
 r:LR
 ups:List (Nat×Ob)
def Row.d(x:Row):D:=match x.o.guard with
 |none=>x.r.d
 |some _=>.cond x.G x.r.d
def Row.fr(x:Row)(fr:Fr):Fr:=fr.Ye x.o.dst x.d
def Row.st(x:Row)(st:St):St:=bif x.G then puts (x.r.app x.q st) x.ups else st
def Row.rd(x:Row):List Nat:=bif x.G then x.r.rd else []
def Row.wr(x:Row):List Nat:=bif x.G then(match x.r.up with|some (o,_)=>[o]|none=>[])++x.ups.map (·.1)else []
structure Fits(P:Program)(gl:Gl)(N:Nat)(ops:Array Oper)(b:Nat)(x:Row)(fr:Fr)(st:St):Prop where
 dst:d0g N x.o
 gok:VT ops fr x.o
 hG:x.G=guardOf ops fr x.o
 d7W:d7W x.r∧∀p∈x.ups,p.1∈x.r.rd
 does:x.G=true→(UQ x.o.op=none∧x.r=aop P gl true x.o.op fr (look st) x.q∧x.r.ok∧(needs x.o.op=true→st[x.q]? =some (some .resv))∧x.ups=[])∨
  ∃f xs g first cap d rd,UQ x.o.op=some (f,xs)∧eok gl true fr f∧(∀y∈xs,eok gl true fr y)∧ev1 gl fr f= .fn g first cap∧d5b P gl g (first++xs.map (ev1 gl fr)++cap) rd st d x.ups∧
   x.r=⟨d,True,rd,none,none⟩∧∀o∈rd,o<b∧∃ob,st[o]? =some (some ob)∧ob≠ .resv
 makes:x.r.new≠none→needs x.o.op=true
section
variable {P:Program} {gl:Gl} {N:Nat} {ops:Array Oper} {w0:World} {μ0:Mu} {st0:St} {x:Row} {b:Nat} {fr fr':Fr} {st st':St} {Q:Exit→Act→World→Prop}
theorem ZA{o:Nat}{ob:Ob}:look st o=some ob↔st[o]? =some (some ob):=by
 unfold look
 cases h:st[o]? with
 |none=>simp
 |some y=>cases y<;>simp
theorem d7Y{a:Act}{w:World}{μ:Mu}{o:Oper}{q:Nat}(h:d0p gl N w0 μ0 st0 fr st a w μ)(hok:(aop P gl true o.op fr (look st) q).ok)(hd:d0g N o)(hq:needs o.op=true→st[q]? =some (some .resv)):
 ∃nx v w' μ',(execOp a.eval o).run P w= .ok nx w'∧(nx= .value v∨(nx= .skip∧v=undef))∧
  d0p gl N w0 μ0 st0 (fr.Ye o.dst (aop P gl true o.op fr (look st) q).d) ((aop P gl true o.op fr (look st) q).app q st) (a.put o.dst v) w' μ':=by
 obtain⟨nx,v,w',μ',h1,h2,h3,h4,h5⟩:=d3a (P:=P) (G:=gl) (q:=q) h.sim h.fr h.glob hq hok
 refine⟨nx,v,w',μ',h1,h2,h3,h.glob.step h4,?_,?_,?_,h.step.trans h4⟩
 ·cases d1J:o.dst with
  |none=>exact h.fr.step h4
  |some t=>
   have ht:t<N:=by simpa[d0g,d1J]using hd
   exact(h.fr.step h4).put h5 (by rw[h.size];exact ht)
 ·cases d1J:o.dst with
  |none=>exact h.size
  |some t=>simp[Act.put,h.size]
 ·cases d1J:o.dst with
  |none=>exact h.defers
  |some t=>simp[Act.put,h.defers]
theorem i2I{a:Act}{w:World}{μ:Mu}{K:Act→World→Prop}(hc:d0p gl N w0 μ0 st0 fr st a w μ)(h:Fits P gl N ops b x fr st)
 (hK:∀a' w' μ',d0p gl N w0 μ0 st0 (x.fr fr) (x.st st) a' w' μ'→K a' w'):
 if Region.wanted x.o (yielded ops a.tmps)then x.o.wp P a w K Q∨(x.o.asks P a w∧LetsOut Q)else K (a.put x.o.dst undef) w:=by
 rw[d0h hc.fr h.gok, ←h.hG]
 cases hG:x.G with
 |false=>
  simp only[Bool.false_eq_true,if_false]
  have hgs:∃p,x.o.guard=some p:=by
   cases hgd:x.o.guard with
   |none=>have:=h.hG;simp[guardOf,hgd,hG]at this
   |some p=>exact⟨p,rfl⟩
  obtain⟨p,hgs⟩:=hgs
  refine hK _ _ μ ?_
  simp only[Row.fr,Row.st,Row.d,hgs,hG,cond_false]
  exact d3d hc h.dst _
 |true=>
  simp only[if_true]
  left
  have wrap:∀ {d:D} {a' w' μ' st'} {v:Value},d0p gl N w0 μ0 st0 (fr.Ye x.o.dst d) st' (a.put x.o.dst v) w' μ'→x.r.d=d→a'=a.put x.o.dst v→d0p gl N w0 μ0 st0 (x.fr fr) st' a' w' μ':=by
   intro d a' w' μ' st' v hc' hd ha
   subst ha;subst hd
   have:=d3e hc' true rfl
   unfold d9J at this
   simp only[Row.fr,Row.d]
   split at this
   ·rename_i e;rw[e];exact this
   ·rename_i e;rw[e];simp only[hG];exact this
  rcases h.does hG with⟨YA,hr,hok,hq,i4K⟩|⟨f,xs,g,first,cap,d,rd,YA,hf,hx,hev,hp,hr,hrd⟩
  ·rw[hr]at hok
   obtain⟨nx,v,w',μ',h1,h2,h3⟩:=d7Y (P:=P) (o:=x.o) hc hok h.dst hq
   unfold Oper.wp
   rw[h1]
   have next:K (a.put x.o.dst v) w':=by
    refine hK _ _ μ' ?_
    simp only[Row.st,hG,cond_true,i4K,puts]
    rw[←hr]at h3
    exact wrap h3 rfl rfl
   rcases h2 with rfl|⟨rfl,rfl⟩<;>exact next
  ·obtain⟨_,hspec⟩:=hp st fun _ _=>rfl
   obtain⟨vs,h1,h2,h3⟩:=d4V (P:=P) YA hc.fr hc.glob hf hx hev
   unfold Oper.wp
   rw[h1]
   refine(hspec w μ vs hc.sim hc.glob h2 h3).upon fun e w' ⟨v,d',st',μ',he,⟨hd1,hd2⟩,hs',d7R,hv⟩=>?_
   subst he;subst hd1;subst hd2
   refine hK _ _ μ' ?_
   have hst:x.st st=puts st x.ups:=by simp[Row.st,hG,hr,LR.app]
   rw[hst]
   refine wrap (d:=d') ?_ (by rw[hr]) rfl
   refine⟨hs',hc.glob.step d7R,?_,?_,?_,hc.step.trans d7R⟩
   ·cases d1J:x.o.dst with
    |none=>exact hc.fr.step d7R
    |some t=>
     have ht:t<N:=by simpa[d0g,d1J]using h.dst
     exact(hc.fr.step d7R).put hv (by rw[hc.size];exact ht)
   ·cases d1J:x.o.dst with
    |none=>exact hc.size
    |some t=>simp[Act.put,hc.size]
   ·cases d1J:x.o.dst with
    |none=>exact hc.defers
    |some t=>simp[Act.put,hc.defers]
theorem d7Z(hs:∀t∈x.o.looksAt ops,fr'.get t=fr.get t):∀y∈x.o.op.operands,ev gl fr y=ev gl fr' y:=by
 intro y hy
 cases y with
 |tmp t=>exact(hs t (by simp only[Oper.looksAt,List.mem_append,List.mem_filterMap];exact .inl ⟨.tmp t,by simpa using hy,rfl⟩)).symm
 | _=>rfl
theorem d7l(hs:∀t∈x.o.looksAt ops,fr'.get t=fr.get t):guardOf ops fr' x.o=guardOf ops fr x.o∧(VT ops fr' x.o↔VT ops fr x.o):=by
 unfold guardOf VT
 cases hg:x.o.guard with
 |none=>exact⟨rfl,Iff.rfl⟩
 |some p=>
  obtain⟨j,want⟩:=p
  simp only
  cases hd:(ops[j]?).bind (·.dst)with
  |none=>exact⟨rfl,Iff.rfl⟩
  |some t=>
   have:=hs t (by simp only[Oper.looksAt,hg,hd,List.mem_append];exact .inr (by simp))
   simp only[this]
   exact⟨trivial,trivial⟩
theorem d5c{o:Op}{f:Operand}{xs:List Operand}(h:UQ o=some (f,xs)):f∈o.operands∧∀y∈xs,y∈o.operands:=by
 cases o<;>simp only[UQ]at h<;>first|(cases h;done)|skip
 rename_i c
 obtain⟨callee,args,ats⟩:=c
 cases callee<;>simp only at h<;>first|(cases h;done)|skip
 cases h
 exact⟨by simp[Op.operands,Call.operands],fun y hy=>by simp only[Op.operands,Call.operands,Array.mem_append];exact .inr (by simpa using hy)⟩
theorem i0z{a:Act}{w:World}{μ:Mu}(hc:d0p gl N w0 μ0 st0 fr' st' a w μ)(h:Fits P gl N ops b x fr st)(hs:∀t∈x.o.looksAt ops,fr'.get t=fr.get t):
 ∀o∈x.rd,st'[o]? ≠some (some .resv)∨o<b:=by
 intro o ho
 unfold Row.rd at ho
 cases hG:x.G with
 |false=>rw[hG]at ho;cases ho
 |true=>
  rw[hG]at ho
  rcases h.does hG with⟨YA,hr,hok,hq,i4K⟩|⟨f,xs,g,first,cap,d,rd,YA,hf,hx,hev,hp,hr,hrd⟩
  ·rw[hr]at hok
   simp only[cond_true,hr]at ho
   obtain⟨y,h1,h2,h3⟩:=i4J hok ho
   have e:=d7Z (gl:=gl) hs y (by simpa using h1)
   have h2':eok gl true fr' y:=by unfold eok at h2 ⊢; rw[←e];exact h2
   have h3':(ev1 gl fr' y).top=some o:=by unfold ev1 at h3 ⊢; rw[←e];exact h3
   exact .inl ((Yj hc.fr hc.glob h2').i2H h3')
  ·simp only[hr,cond_true]at ho
   exact .inr (hrd o ho).1
theorem d1k(h:Fits P gl N ops b x fr st):∀o∈x.rd,∃ob,st[o]? =some (some ob)∧ob≠ .resv:=by
 intro o ho
 unfold Row.rd at ho
 cases hG:x.G with
 |false=>rw[hG]at ho;cases ho
 |true=>
  rw[hG]at ho
  rcases h.does hG with⟨YA,hr,hok,hq,i4K⟩|⟨f,xs,g,first,cap,d,rd,YA,hf,hx,hev,hp,hr,hrd⟩
  ·rw[hr]at hok
   simp only[cond_true,hr]at ho
   obtain⟨_,ob,h1,h2⟩:=(i0y (look st) hok).1 o ho
   exact⟨ob,ZA.1 h1,h2⟩
  ·simp only[hr,cond_true]at ho
   exact(hrd o ho).2
theorem d9j(h:Fits P gl N ops b x fr st)(hs:∀t∈x.o.looksAt ops,fr'.get t=fr.get t)(hm:∀o∈x.rd,look st' o=look st o)
 (hq:needs x.o.op=true→st'[x.q]? =some (some .resv)):Fits P gl N ops b x fr' st':=by
 obtain⟨g1,g2⟩:=d7l hs
 refine⟨h.dst,g2.2 h.gok,by rw[g1];exact h.hG,h.d7W,fun hG=>?_,h.makes⟩
 have hev:=d7Z (gl:=gl) hs
 rcases h.does hG with⟨YA,hr,hok,_,i4K⟩|⟨f,xs,g,first,cap,d,rd,YA,hf,hx,he,hp,hr,hrd⟩
 ·refine .inl ⟨YA,?_,hok,hq,i4K⟩
  rw[hr]at hok
  have:x.rd=(aop P gl true x.o.op fr (look st) x.q).rd:=by simp[Row.rd,hG, ←hr]
  rw[this]at hm
  have k:=(i0y (look st) hok).2 (look st') hm
  rw[hr]
  exact k.symm.trans (i6M hev)
 ·obtain⟨m1,m2⟩:=d5c YA
  have e1:∀y∈x.o.op.operands,ev1 gl fr' y=ev1 gl fr y:=fun y hy=>by unfold ev1;rw[hev y hy]
  have e2:∀y∈x.o.op.operands,eok gl true fr y→eok gl true fr' y:=fun y hy=>by unfold eok;rw[hev y hy];exact id
  have hm':∀o∈rd,look st' o=look st o:=fun o ho=>hm o (by simp[Row.rd,hG,hr];exact ho)
  refine .inr ⟨f,xs,g,first,cap,d,rd,YA,e2 f m1 hf,fun y hy=>e2 y (m2 y hy) (hx y hy),by rw[e1 f m1];exact he,?_,hr,fun o ho=>⟨(hrd o ho).1,?_⟩⟩
  ·rw[List.map_congr_left fun y hy=>e1 y (m2 y hy)]
   exact fun st2 h2=>hp st2 fun o ho=>(h2 o ho).trans (hm' o ho)
  ·obtain⟨ob,h1,h2⟩:=(hrd o ho).2
   exact⟨ob,ZA.1 ((hm' o ho).trans (ZA.2 h1)),h2⟩
end
def Row.ap(x:Row)(s:Fr×St):Fr×St:=(x.fr s.1,x.st s.2)
def Row.tch(x:Row):List Nat:=x.wr++(bif x.G&&x.r.new.isSome then [x.q]else [])
theorem d1l{α:Type}(l:List α)(i o:Nat)(v:α):(l.set i v)[o]? =if i=o then(l[o]?).map (fun _=>v)else l[o]? :=by
 rw[List.getElem?_set]
 by_cases h:i=o
 ·subst h
  rw[if_pos rfl,if_pos rfl]
  by_cases hl:i<l.length
  ·rw[if_pos hl,List.getElem?_eq_getElem hl];rfl
  ·rw[if_neg hl,List.getElem?_eq_none (by simpa using hl)];rfl
 ·rw[if_neg h,if_neg h]
theorem d2n{x:Row}{st st':St}{o:Nat}(h:st[o]? =st'[o]?):(x.st st)[o]? =(x.st st')[o]? :=by
 unfold Row.st
 cases x.G with
 |false=>exact h
 |true=>
  simp only[cond_true,LR.app]
  refine d4u ?_
  cases x.r.up with
  |none=>cases x.r.new with
   |none=>exact h
   |some ob=>simp only[d1l,h]
  |some p=>cases x.r.new with
   |none=>simp only[d1l,h]
   |some ob=>simp only[d1l,h]
theorem Ze{x:Row}{st:St}{o:Nat}(h:o∉x.tch):(x.st st)[o]? =st[o]? :=by
 unfold Row.st
 unfold Row.tch Row.wr at h
 cases hG:x.G with
 |false=>rfl
 |true=>
  rw[hG]at h
  simp only[cond_true,LR.app,List.mem_append,not_or]at h⊢
  obtain⟨⟨h,i4K⟩,h'⟩:=h
  rw[d7X i4K]
  have h:o∉ (match x.r.up with|some (o,_)=>[o]|none=>[])++(bif true&&x.r.new.isSome then [x.q]else []):=by
   simp only[List.mem_append,not_or];exact⟨h,h'⟩
  cases hu:x.r.up with
  |none=>cases hn:x.r.new with
   |none=>rfl
   |some ob=>
    simp[hu,hn]at h
    simp only[d1l,if_neg (Ne.symm h)]
  |some p=>cases hn:x.r.new with
   |none=>
    simp[hu,hn]at h
    simp only[d1l,if_neg (Ne.symm h)]
   |some ob=>
    simp[hu,hn]at h
    simp only[d1l,if_neg (Ne.symm h.1),if_neg (Ne.symm h.2)]
theorem d1m{x:Row}{fr:Fr}{t:Nat}(h:x.o.dst≠some t):(x.fr fr).get t=fr.get t:=by
 unfold Row.fr
 cases hd:x.o.dst with
 |none=>rfl
 |some u=>
  simp only[Fr.Ye,Fr.d2U]
  rw[if_neg]
  intro e;exact h (by rw[hd,e])
theorem d2o{x:Row}{fr fr':Fr}{t:Nat}(h:fr.get t=fr'.get t):(x.fr fr).get t=(x.fr fr').get t:=by
 unfold Row.fr
 cases hd:x.o.dst with
 |none=>exact h
 |some u=>simp only[Fr.Ye,Fr.d2U,h]
def Eqv(s s':Fr×St):Prop:=(∀t,s.1.get t=s'.1.get t)∧∀o:Nat,s.2[o]? =s'.2[o]?
theorem Eqv.refl(s:Fr×St):Eqv s s:=⟨fun _=>rfl,fun _=>rfl⟩
theorem Eqv.trans{a b c:Fr×St}(h:Eqv a b)(h':Eqv b c):Eqv a c:=⟨fun t=>(h.1 t).trans (h'.1 t),fun o=>(h.2 o).trans (h'.2 o)⟩
theorem Eqv.symm{a b:Fr×St}(h:Eqv a b):Eqv b a:=⟨fun t=>(h.1 t).symm,fun o=>(h.2 o).symm⟩
theorem Eqv.ap{s s':Fr×St}(h:Eqv s s')(x:Row):Eqv (x.ap s) (x.ap s'):=⟨fun t=>d2o (h.1 t),fun o=>d2n (h.2 o)⟩
theorem i4L{x y:Row}(hd:∀t,x.o.dst=some t→y.o.dst≠some t)(hm:∀o∈x.tch,o∉y.tch)(s:Fr×St):Eqv (x.ap (y.ap s)) (y.ap (x.ap s)):=by
 refine⟨fun t=>?_,fun o=>?_⟩
 ·simp only[Row.ap]
  by_cases h:x.o.dst=some t
  ·rw[d1m (x:=y) (hd t h)]
   exact d2o (d1m (hd t h))
  ·rw[d1m (x:=x) h]
   exact d2o (d1m h).symm
 ·simp only[Row.ap]
  by_cases h:o∈x.tch
  ·rw[Ze (x:=y) (hm o h)]
   exact d2n (Ze (hm o h))
  ·rw[Ze (x:=x) h]
   exact d2n (Ze h).symm
def full:List Row→Fr×St→Fr×St
 | [],s=>s
 |x::l,s=>full l (x.ap s)
def sel(L:Nat→Bool):Nat→List Row→Fr×St→Fr×St
 | _,[],s=>s
 |i,x::l,s=>sel L (i+1) l (bif L i then x.ap s else s)
theorem d7m{L:Nat→Bool}:∀(l:List Row) (i:Nat) (s s':Fr×St),Eqv s s'→Eqv (sel L i l s) (sel L i l s')
 | [],_,_,_,h=>h
 |x::l,i,s,s',h=>by
  simp only[sel]
  cases L i with
  |true=>exact d7m l _ _ _ (h.ap x)
  |false=>exact d7m l _ _ _ h
theorem d1n{L:Nat→Bool}:∀(l1 l2:List Row) (i:Nat) (s:Fr×St),sel L i (l1++l2) s=sel L (i+l1.length) l2 (sel L i l1 s)
 | [],_,_,_=>rfl
 |x::l1,l2,i,s=>by
  simp only[List.cons_append,sel,List.length_cons]
  rw[d1n l1 l2 (i+1)]
  congr 1
  omega
theorem d3g{L L':Nat→Bool}:∀(l:List Row) (i:Nat) (s:Fr×St),(∀k,i≤k→k<i+l.length→L k=L' k)→sel L i l s=sel L' i l s
 | [],_,_,_=>rfl
 |x::l,i,s,h=>by
  simp only[sel]
  rw[h i (Nat.le_refl _) (by simp)]
  exact d3g l _ _ fun k h1 h2=>h k (by omega) (by simp at h2 ⊢; omega)
theorem i0A{L:Nat→Bool}:∀(l:List Row) (i:Nat) (s:Fr×St),(∀k,i≤k→k<i+l.length→L k=true)→sel L i l s=full l s
 | [],_,_,_=>rfl
 |x::l,i,s,h=>by
  simp only[sel,full]
  rw[h i (Nat.le_refl _) (by simp),cond_true]
  exact i0A l _ _ fun k h1 h2=>h k (by omega) (by simp at h2 ⊢; omega)
theorem d8a{L:Nat→Bool}:∀(l:List Row) (i:Nat) (s:Fr×St),(∀k,i≤k→k<i+l.length→L k=false)→sel L i l s=s
 | [],_,_,_=>rfl
 |x::l,i,s,h=>by
  simp only[sel]
  rw[h i (Nat.le_refl _) (by simp),cond_false]
  exact d8a l _ _ fun k h1 h2=>h k (by omega) (by simp at h2 ⊢; omega)
theorem d8b{L:Nat→Bool}{x:Row}:∀(l:List Row) (i:Nat) (s:Fr×St),
 (∀k (h:k<l.length),L (i+k)=true→(∀t,x.o.dst=some t→(l[k]).o.dst≠some t)∧∀o∈x.tch,o∉ (l[k]).tch)→Eqv (sel L i l (x.ap s)) (x.ap (sel L i l s))
 | [],_,s,_=>Eqv.refl _
 |y::l,i,s,h=>by
  have hl:∀s,Eqv (sel L (i+1) l (x.ap s)) (x.ap (sel L (i+1) l s)):=fun s=>d8b l (i+1) s fun k hk hL=>by
   have:=h (k+1) (by simpa using hk) (by rw[←hL];congr 1;omega)
   simpa using this
  simp only[sel]
  cases hL:L i with
  |false=>exact hl s
  |true=>
   simp only[cond_true]
   obtain⟨h1,h2⟩:=h 0 (by simp) hL
   exact(d7m l (i+1) _ _ (i4L h1 h2 s).symm).trans (hl (y.ap s))
theorem d8c{L:Nat→Bool}{t:Nat}:∀(l:List Row) (i:Nat) (s:Fr×St),(∀k (h:k<l.length),L (i+k)=true→(l[k]).o.dst≠some t)→(sel L i l s).1.get t=s.1.get t
 | [],_,_,_=>rfl
 |y::l,i,s,h=>by
  have hl:∀s,(sel L (i+1) l s).1.get t=s.1.get t:=fun s=>d8c l (i+1) s fun k hk hL=>by
   have:=h (k+1) (by simpa using hk) (by rw[←hL];congr 1;omega)
   simpa using this
  simp only[sel]
  rw[hl]
  cases hL:L i with
  |false=>rfl
  |true=>exact d1m (h 0 (by simp) hL)
theorem d7n{L:Nat→Bool}{o:Nat}:∀(l:List Row) (i:Nat) (s:Fr×St),(∀k (h:k<l.length),L (i+k)=true→o∉ (l[k]).tch)→(sel L i l s).2[o]? =s.2[o]?
 | [],_,_,_=>rfl
 |y::l,i,s,h=>by
  have hl:∀s,(sel L (i+1) l s).2[o]? =s.2[o]? :=fun s=>d7n l (i+1) s fun k hk hL=>by
   have:=h (k+1) (by simpa using hk) (by rw[←hL];congr 1;omega)
   simpa using this
  simp only[sel]
  rw[hl]
  cases hL:L i with
  |false=>rfl
  |true=>exact Ze (h 0 (by simp) hL)
theorem d5X{L:Nat→Bool}{t:Nat}:∀(l:List Row) (i:Nat) (s s':Fr×St),s.1.get t=s'.1.get t→(∀k (h:k<l.length),L (i+k)=false→(l[k]).o.dst≠some t)→(sel L i l s).1.get t=(full l s').1.get t
 | [],_,_,_,h,_=>h
 |y::l,i,s,s',he,h=>by
  simp only[sel,full]
  refine d5X l (i+1) _ _ ?_ fun k hk hL=>by
   have:=h (k+1) (by simpa using hk) (by rw[←hL];congr 1;omega)
   simpa using this
  cases hL:L i with
  |true=>exact d2o he
  |false=>exact he.trans (d1m (h 0 (by simp) hL)).symm
theorem d8d{L:Nat→Bool}{o:Nat}:∀(l:List Row) (i:Nat) (s s':Fr×St),s.2[o]? =s'.2[o]? →(∀k (h:k<l.length),L (i+k)=false→o∉ (l[k]).tch)→(sel L i l s).2[o]? =(full l s').2[o]?
 | [],_,_,_,h,_=>h
 |y::l,i,s,s',he,h=>by
  simp only[sel,full]
  refine d8d l (i+1) _ _ ?_ fun k hk hL=>by
   have:=h (k+1) (by simpa using hk) (by rw[←hL];congr 1;omega)
   simpa using this
  cases hL:L i with
  |true=>exact d2n he
  |false=>exact he.trans (Ze (h 0 (by simp) hL)).symm
def Trace(P:Program)(gl:Gl)(N:Nat)(ops:Array Oper)(b:Nat):List Row→Fr×St→Prop
 | [],_=>True
 |x::l,s=>Fits P gl N ops b x s.1 s.2∧Trace P gl N ops b l (x.ap s)
def Ord(ops:Array Oper)(i j:Nat):Prop:=
 ∀L:Nat→Bool,(∀k o,L k=true→ops[k]? =some o→∀e∈o.after,Region.binds .any e=true→L e.on=true)→
  (∀o,ops[j]? =some o→∀e∈o.after,Region.binds .any e=true→L e.on=true)→L i=true
def Ind(ops:Array Oper)(x y:Row):Prop:=Oper.apart ops x.o y.o=true∧(∀o∈x.wr,o∉y.rd)∧∀o∈y.wr,o∉x.rd
structure Good(P:Program)(gl:Gl)(N:Nat)(ops:Array Oper)(b:Nat)(rows:List Row)(s0:Fr×St):Prop where
 hO:ops.toList=rows.map (·.o)
 tr:Trace P gl N ops b rows s0
 qs:∀i j (hi:i<rows.length) (hj:j<rows.length),i≠j→needs (rows[i]).o.op=true→needs (rows[j]).o.op=true→(rows[i]).q≠(rows[j]).q
 kept:∀x∈rows,needs x.o.op=true→s0.2[x.q]? =some (some .resv)∧b≤x.q
 fwd:∀i o,ops[i]? =some o→∀e∈o.after,Region.binds .any e=true→e.on<i
 ind:∀i j (hi:i<rows.length) (hj:j<rows.length),i<j→Ord ops i j∨Ind ops (rows[i]) (rows[j])
section
variable {P:Program} {gl:Gl} {N b:Nat} {ops:Array Oper} {w0:World} {μ0:Mu} {st0:St} {rows:List Row} {s0:Fr×St} {Q:Exit→Act→World→Prop}
theorem d7o{x:Row}(h:d7W x.r∧∀p∈x.ups,p.1∈x.r.rd){o:Nat}(ho:o∈x.wr):o∈x.rd:=by
 unfold Row.wr at ho
 unfold Row.rd
 cases hG:x.G with
 |false=>rw[hG]at ho;cases ho
 |true=>
  rw[hG]at ho
  simp only[cond_true,List.mem_append]at ho⊢
  rcases ho with ho|ho
  ·cases hu:x.r.up with
   |none=>rw[hu]at ho;cases ho
   |some p=>
    rw[hu]at ho
    simp only[List.mem_singleton]at ho
    exact h.1 o p.2 (by rw[hu,ho])
  ·obtain⟨p,hp,e⟩:=List.mem_map.1 ho
   rw[←e];exact h.2 p hp
theorem Xf{x:Row}{o:Nat}(h:o∈x.tch):o∈x.wr∨(o=x.q∧x.r.new≠none):=by
 unfold Row.tch at h
 rcases List.mem_append.1 h with h|h
 ·exact .inl h
 ·right
  cases hG:x.G<;>cases hn:x.r.new<;>simp[hG,hn]at h⊢
  exact h
theorem d0F:∀(l1:List Row) {x:Row} {l2:List Row} {s:Fr×St},Trace P gl N ops b (l1++x::l2) s→Fits P gl N ops b x (full l1 s).1 (full l1 s).2
 | [],_,_,_,h=>h.1
 | _::l1,_,_,_,h=>d0F l1 h.2
theorem d5Y:∀(l1 l2:List Row) (s:Fr×St),Trace P gl N ops b (l1++l2) s→(∀x∈l1,∀y∈l2,needs x.o.op=true→needs y.o.op=true→x.q≠y.q)→
 (∀y∈l2,needs y.o.op=true→s.2[y.q]? =some (some .resv))→∀y∈l2,needs y.o.op=true→(full l1 s).2[y.q]? =some (some .resv)
 | [],_,_,_,_,h=>h
 |x::l1,l2,s,ht,hq,h=>by
  refine d5Y l1 l2 (x.ap s) ht.2 (fun z hz=>hq z (by simp[hz])) fun y hy hn=>?_
  have:y.q∉x.tch:=fun hm=>by
   rcases Xf hm with hm|⟨e,hm⟩
   ·obtain⟨ob,h1,h2⟩:=d1k ht.1 _ (d7o ht.1.d7W hm)
    rw[h y hy hn]at h1
    cases h1;exact h2 rfl
   ·exact hq x (by simp) y hy (ht.1.makes hm) hn e.symm
  simp only[Row.ap]
  rw[Ze this]
  exact h y hy hn
def cnt(L:Nat→Bool):Nat→Nat
 |0=>0
 |n+1=>cnt L n+(bif L n then 0 else 1)
theorem d8e{L:Nat→Bool}:∀ {n:Nat},cnt L n=0→∀k,k<n→L k=true
 |n+1,h,k,hk=>by
  simp only[cnt]at h
  cases hL:L n with
  |false=>simp[hL]at h
  |true=>
   rcases Nat.lt_or_ge k n with hk'|hk'
   ·exact d8e (by simp[hL]at h;exact h) k hk'
   ·have:k=n:=by omega
    rw[this];exact hL
theorem d8f{L L':Nat→Bool}:∀ {n:Nat},(∀k,k<n→L k=L' k)→cnt L n=cnt L' n
 |0,_=>rfl
 |n+1,h=>by simp only[cnt];rw[d8f fun k hk=>h k (by omega),h n (by omega)]
theorem d8g{L L':Nat→Bool}{i:Nat}(hi:L i=false)(hi':L' i=true)(hs:∀k,k≠i→L k=L' k):∀ {n:Nat},i<n→cnt L' n+1=cnt L n
 |n+1,h=>by
  simp only[cnt]
  rcases Nat.lt_or_ge i n with h1|h1
  ·rw[←d8g hi hi' hs h1,hs n (by omega)];omega
  ·have:i=n:=by omega
   subst this
   rw[hi,hi',d8f (L:=L') (L':=L) fun k hk=>(hs k (by omega)).symm]
   simp
def lst(listed:Array Bool)(i:Nat):Bool:=listed.getD i false
theorem i2J{s s':Fr×St}{a:Act}{w:World}{μ:Mu}(h:Eqv s s')(hc:d0p gl N w0 μ0 st0 s.1 s.2 a w μ):d0p gl N w0 μ0 st0 s'.1 s'.2 a w μ:=by
 have e:s.2=s'.2:=List.ext_getElem? h.2
 rw[e]at hc
 exact⟨hc.sim,hc.glob,fun t=>by rw[←h.1 t];exact hc.fr t,hc.size,hc.defers,hc.step⟩
set_option maxHeartbeats 1000000 in
theorem i0B(hg:Good P gl N ops b rows s0)(hQ:∀a w μ,d0p gl N w0 μ0 st0 (full rows s0).1 (full rows s0).2 a w μ→Q .normal a w):
 ∀(fuel:Nat) (listed:Array Bool) (a:Act) (w:World) (μ:Mu),listed.size=rows.length→cnt (lst listed) rows.length≤fuel→
  (∀k o,lst listed k=true→ops[k]? =some o→∀e∈o.after,Region.binds .any e=true→lst listed e.on=true)→
  (∀i j (hi:i<rows.length) (hj:j<rows.length),lst listed j=true→lst listed i=false→needs (rows[i]).o.op=true→(rows[i]).q∉ (rows[j]).rd)→
  d0p gl N w0 μ0 st0 (sel (lst listed) 0 rows s0).1 (sel (lst listed) 0 rows s0).2 a w μ→wpAny P .any ops Q fuel listed a w:=by
 have hsz:ops.size=rows.length:=by have:=congrArg List.length hg.hO;simpa using this
 have hop:∀i (h:i<rows.length),ops[i]? =some (rows[i]).o:=fun i h=>by
  have:ops.toList[i]? =(rows.map (·.o))[i]? :=by rw[hg.hO]
  simpa[h]using this
 have hall:∀(listed:Array Bool) (a:Act) (w:World) (μ:Mu),(∀k,k<rows.length→lst listed k=true)→
  d0p gl N w0 μ0 st0 (sel (lst listed) 0 rows s0).1 (sel (lst listed) 0 rows s0).2 a w μ→Q .normal a w:=fun listed a w μ h hc=>by
  rw[i0A rows 0 s0 fun k _ hk=>h k (by omega)]at hc
  exact hQ a w μ hc
 have i0C:∀(listed:Array Bool) (i:Nat),listed.size=rows.length→(i∈Region.ready .any ops listed↔i<rows.length∧lst listed i=false∧∀o,ops[i]? =some o→∀e∈o.after,Region.binds .any e=true→lst listed e.on=true):=by
  intro listed i hls
  unfold Region.ready
  simp only[List.mem_filter,List.mem_range,hsz]
  constructor
  ·rintro⟨h1,h2⟩
   rw[hop i h1]at h2⊢
   simp only[Option.map_some,Option.getD_some,Bool.and_eq_true,Bool.not_eq_true',Array.all_eq_true_iff_forall_mem]at h2
   refine⟨h1,?_,fun o ho e he hb=>?_⟩
   ·have:=h2.1
    unfold lst
    simp[Array.getD_eq_getD_getElem?, hls,h1]at this⊢
    exact this
   ·cases ho
    have:=h2.2 e he
    simp only[Bool.or_eq_true,Bool.not_eq_true',hb,Bool.true_eq_false,false_or]at this
    exact this
  ·rintro⟨h1,h2,h3⟩
   refine⟨h1,?_⟩
   rw[hop i h1]at h3⊢
   simp only[Option.map_some,Option.getD_some,Bool.and_eq_true,Bool.not_eq_true',Array.all_eq_true_iff_forall_mem]
   refine⟨?_,fun e he=>?_⟩
   ·unfold lst at h2
    simp[Array.getD_eq_getD_getElem?, hls,h1]at h2⊢
    exact h2
   ·cases hb:Region.binds .any e with
    |false=>simp
    |true=>
     have:=h3 _ rfl e he hb
     unfold lst at this
     rw[this];rfl
 have hnone:∀(listed:Array Bool),listed.size=rows.length→Region.ready .any ops listed=[]→∀k,k<rows.length→lst listed k=true:=by
  intro listed hls hr k
  induction k using Nat.strongRecOn with
  | _ k ih=>
   intro hk
   cases hL:lst listed k with
   |true=>rfl
   |false=>
    exfalso
    have:k∈Region.ready .any ops listed:=(i0C listed k hls).2 ⟨hk,hL,fun o ho e he hb=>by
     have:=hg.fwd k o ho e he hb
     exact ih e.on this (by omega)⟩
    rw[hr]at this;cases this
 intro fuel
 induction fuel with
 |zero=>
  intro listed a w μ hls hc hcl hh hcc
  have ha:=d8e (Nat.le_zero.1 hc)
  refine⟨?_,hall listed a w μ ha hcc⟩
  rw[List.eq_nil_iff_forall_not_mem]
  intro i hi
  obtain⟨h1,h2,_⟩:=(i0C listed i hls).1 hi
  rw[ha i h1]at h2;cases h2
 |succ fuel ih=>
  intro listed a w μ hls hc hcl hh hcc
  refine⟨fun hr=>hall listed a w μ (hnone listed hls hr) hcc,fun i hi=>?_⟩
  obtain⟨hil,hLi,haf⟩:=(i0C listed i hls).1 hi
  generalize hx:rows[i]=x
  have d0f:rows=rows.take i++x::rows.drop (i+1):=by rw[←hx,List.getElem_cons_drop,List.take_append_drop]
  have i6N:(rows.take i).length=i:=by simp;omega
  have i0D:∀k (hk:k<i),lst listed k=false→Ind ops (rows[k]'(by omega)) x:=fun k hk hL=>by
   rcases hg.ind k i (by omega) hil hk with h|h
   ·have:=h (lst listed) hcl haf
    rw[this]at hL;cases hL
   ·rw[hx]at h;exact h
  have i0E:∀k (hk:i<k) (hkl:k<rows.length),lst listed k=true→Ind ops x (rows[k]):=fun k hk hkl hL=>by
   rcases hg.ind i k hil hkl hk with h|h
   ·have:=h (lst listed) hcl (fun o ho=>hcl k o hL ho)
    rw[this]at hLi;cases hLi
   ·rw[hx]at h;exact h
  have i0F:Fits P gl N ops b x (full (rows.take i) s0).1 (full (rows.take i) s0).2:=by
   have ht:=hg.tr
   rw[d0f]at ht
   exact d0F _ ht
  have i6O:∀k (hk:i≤k) (hkl:k<rows.length),needs (rows[k]).o.op=true→(full (rows.take i) s0).2[(rows[k]).q]? =some (some .resv):=fun k hk hkl hn=>by
   refine d5Y (P:=P) (gl:=gl) (N:=N) (ops:=ops) (rows.take i) (rows.drop i) s0 (by rw[List.take_append_drop];exact hg.tr) (fun z hz y hy h1 h2=>?_) (fun y hy hn=>(hg.kept y (List.mem_of_mem_drop hy) hn).1) _ ?_ hn
   ·obtain⟨a',ha',e1⟩:=List.getElem_of_mem hz
    obtain⟨b',hb',e2⟩:=List.getElem_of_mem hy
    simp only[List.getElem_take]at e1
    simp only[List.getElem_drop]at e2
    simp only[List.length_take]at ha'
    simp only[List.length_drop]at hb'
    have:=hg.qs a' (i+b') (by omega) (by omega) (by omega)
    rw[e1,e2]at this
    exact this h1 h2
   ·have:rows[k]=(rows.drop i)[k-i]'(by simp;omega):=by
     rw[List.getElem_drop];congr 1;omega
    rw[this];exact List.getElem_mem _
  have p0g:∀j (h:j<rows.length),d7W (rows[j]).r∧∀p∈(rows[j]).ups,p.1∈(rows[j]).r.rd:=fun j h=>by
   have ht:=hg.tr
   have e:rows=rows.take j++rows[j]::rows.drop (j+1):=by rw[List.getElem_cons_drop,List.take_append_drop]
   rw[e]at ht
   exact(d0F _ ht).d7W
  have hmk:∀j (h:j<rows.length),(rows[j]).r.new≠none→needs (rows[j]).o.op=true:=fun j h=>by
   have ht:=hg.tr
   have e:rows=rows.take j++rows[j]::rows.drop (j+1):=by rw[List.getElem_cons_drop,List.take_append_drop]
   rw[e]at ht
   exact(d0F _ ht).makes
  have hR:∀k (hk:k<rows.length),lst listed k=false→needs (rows[k]).o.op=true→(sel (lst listed) 0 rows s0).2[(rows[k]).q]? =some (some .resv):=fun k hk hL hn=>by
   rw[d7n rows 0 s0]
   ·exact(hg.kept _ (List.getElem_mem _) hn).1
   ·intro j hj hLj hm
    rw[Nat.zero_add]at hLj
    rcases Xf hm with hm|⟨e,hm⟩
    ·exact hh k j hk hj hLj hL hn (d7o (p0g j hj) hm)
    ·have hne:k≠j:=fun e=>by subst e;rw[hL]at hLj;cases hLj
     exact hg.qs k j hk hj hne hn (hmk j hj hm) e
  have hsel:sel (lst listed) 0 rows s0=sel (lst listed) (i+1) (rows.drop (i+1)) (sel (lst listed) 0 (rows.take i) s0):=by
   conv=>lhs;rw[d0f]
   rw[d1n,i6N]
   simp only[sel,Nat.zero_add,hLi,cond_false]
  have i3O:∀t∈x.o.looksAt ops,(sel (lst listed) 0 rows s0).1.get t=(full (rows.take i) s0).1.get t:=fun t ht=>by
   rw[hsel,d8c]
   ·refine d5X _ _ _ _ rfl fun k hk hL hd=>?_
    simp only[List.length_take]at hk
    rw[Nat.zero_add]at hL
    simp only[List.getElem_take]at hd
    exact(Oper.apart_spec (i0D k (by omega) hL).1).1 t hd ht
   ·intro k hk hL hd
    simp only[List.length_drop]at hk
    simp only[List.getElem_drop]at hd
    exact(Oper.apart_spec (i0E (i+1+k) (by omega) (by omega) hL).1).2.2 t hd ht
  have i6P:∀o∈x.rd,∀k (hk:k<rows.length),lst listed k=false→needs (rows[k]).o.op=true→o≠(rows[k]).q:=fun o ho k hk hL hn e=>by
   rcases i0z hcc i0F i3O o ho with h|h
   ·rw[e]at h;exact h (hR k hk hL hn)
   ·have:=(hg.kept _ (List.getElem_mem hk) hn).2
    omega
  have i6Q:=d1k i0F
  have d8h:∀o∈x.rd,∀k (hk:i<k) (hkl:k<rows.length),lst listed k=true→o∉ (rows[k]).tch:=fun o ho k hk hkl hL hm=>by
   rcases Xf hm with hm|⟨e,hm⟩
   ·exact(i0E k hk hkl hL).2.2 o hm ho
   ·obtain⟨ob,h1,h2⟩:=i6Q o ho
    rw[e,i6O k (by omega) hkl (hmk k hkl hm)]at h1
    cases h1;exact h2 rfl
  have i9a:∀o∈x.rd,(sel (lst listed) 0 rows s0).2[o]? =(full (rows.take i) s0).2[o]? :=fun o ho=>by
   rw[hsel]
   have e2:(sel (lst listed) (i+1) (rows.drop (i+1)) (sel (lst listed) 0 (rows.take i) s0)).2[o]? =(sel (lst listed) 0 (rows.take i) s0).2[o]? :=d7n _ _ _ fun k hk hL=>by
    simp only[List.length_drop]at hk
    simp only[List.getElem_drop]
    exact d8h o ho (i+1+k) (by omega) (by omega) hL
   rw[e2]
   refine d8d _ _ _ _ rfl fun k hk hL hm=>?_
   simp only[List.length_take]at hk
   rw[Nat.zero_add]at hL
   simp only[List.getElem_take]at hm
   rcases Xf hm with hm|⟨e,hm⟩
   ·exact(i0D k (by omega) hL).2.1 o hm ho
   ·exact i6P o ho k (by omega) hL (hmk k (by omega) hm) e
  have i6R:Fits P gl N ops b x (sel (lst listed) 0 rows s0).1 (sel (lst listed) 0 rows s0).2:=
   d9j i0F i3O (fun o ho=>by unfold look;rw[i9a o ho]) (fun hn=>by have:=hR i hil hLi (by rw[hx];exact hn);rw[hx]at this;exact this)
  have hL':∀k,lst (listed.setIfInBounds i true) k=if k=i then true else lst listed k:=fun k=>by
   unfold lst
   by_cases e:k=i
   ·subst e;rw[if_pos rfl];simp[Array.getD_eq_getD_getElem?, hls,hil]
   ·rw[if_neg e];simp[Array.getD_eq_getD_getElem?, Array.getElem?_setIfInBounds_ne (Ne.symm e)]
  unfold wpOp
  rw[hop i hil,hx]
  refine i2I hcc i6R fun a' w' μ' hc'=>?_
  refine ih _ a' w' μ' (by simpa using hls) ?_ ?_ ?_ ?_
  ·have:=d8g (L:=lst listed) (L':=lst (listed.setIfInBounds i true)) hLi (by rw[hL',if_pos rfl]) (fun k hk=>by rw[hL',if_neg hk]) hil
   omega
  ·intro k o hk ho e he hb
   rw[hL']at hk⊢
   split
   ·rfl
   ·by_cases hki:k=i
    ·subst hki;exact haf o ho e he hb
    ·rw[if_neg hki]at hk;exact hcl k o hk ho e he hb
  ·intro k j hk hj hLj hLk hn
   rw[hL']at hLj hLk
   have hki:k≠i:=fun e=>by rw[if_pos e]at hLk;cases hLk
   rw[if_neg hki]at hLk
   by_cases hji:j=i
   ·subst hji
    rw[hx]
    intro hm
    exact i6P _ hm k hk hLk hn rfl
   ·rw[if_neg hji]at hLj
    exact hh k j hk hj hLj hLk hn
  ·refine i2J (s:=x.ap (sel (lst listed) 0 rows s0)) ?_ hc'
   have e1:sel (lst (listed.setIfInBounds i true)) 0 rows s0=sel (lst listed) (i+1) (rows.drop (i+1)) (x.ap (sel (lst listed) 0 (rows.take i) s0)):=by
    conv=>lhs;rw[d0f]
    rw[d1n,i6N]
    simp only[sel,Nat.zero_add]
    rw[hL',if_pos rfl,cond_true]
    rw[d3g (L':=lst listed) (rows.take i) 0 s0 fun k _ hk=>by
     simp only[List.length_take]at hk
     rw[hL',if_neg (by omega)]]
    exact d3g _ _ _ fun k hk _=>by rw[hL',if_neg (by omega)]
   rw[e1,hsel]
   refine(d8b _ _ _ fun k hk hL=>?_).symm
   simp only[List.length_drop]at hk
   simp only[List.getElem_drop]
   have hI:=i0E (i+1+k) (by omega) (by omega) hL
   refine⟨(Oper.apart_spec hI.1).2.1,fun o ho hm=>?_⟩
   rcases Xf ho with ho|⟨e,ho⟩
   ·exact d8h o (d7o i0F.d7W ho) (i+1+k) (by omega) (by omega) hL hm
   ·have hn:=i0F.makes ho
    rcases Xf hm with hm|⟨e',hm⟩
    ·have:=hh i (i+1+k) hil (by omega) hL hLi (by rw[hx];exact hn)
     rw[hx, ←e]at this
     exact this (d7o (p0g _ (by omega)) hm)
    ·have:=hg.qs i (i+1+k) hil (by omega) (by omega) (by rw[hx];exact hn) (hmk _ (by omega) hm)
     rw[hx]at this
     exact this (e.symm.trans e')
end
abbrev Log:=List (List Nat×List Nat)
def i9b(rd up:List Nat):Log→Prop
 | []=>True
 |(rd',up')::l=>(∀o∈up,o∉rd')∧(∀o∈up',o∉rd)∧i9b rd up l
def i3P:Log→Prop
 | []=>True
 |(rd,up)::l=>i9b rd up l∧i3P l
def upL(r:LR):List Nat:=match r.up with|some (o,_)=>[o]|none=>[]
def ZH(tr:Bool)(lg:Log)(r:LR)(ups:List (Nat×Ob)):Log:=bif tr then lg++[(r.rd,upL r++ups.map (·.1))]else lg
def i2K(N q:Nat)(tr:Bool)(dst:Option Nat)(lg:Log)(fr:Fr)(st:St)(k:Log→Fr→St→Prop)(r:LR):Prop:=
 r.ok∧dlt N dst∧k (ZH tr lg r []) (fr.Ye dst r.d) (r.app q st)
def d9k(P:Program)(gl:Gl)(b:Nat)(tr:Bool)(dst:Option Nat)(lg:Log)(fr:Fr)(st:St)(k:Log→Fr→St→Prop)(g:FuncId)(args:List D):Prop:=
 ∃r rd ups,d5b P gl g args rd st r ups∧(∀p∈ups,p.1∈rd)∧(∀o∈rd,o<b∧∃ob,look st o=some ob∧ob≠ .resv)∧(tr=false→rd=[])∧k (ZH tr lg ⟨r,True,rd,none,none⟩ ups) (fr.Ye dst r) (puts st ups)
def d8i(P:Program)(gl:Gl)(b:Nat)(G tr:Bool)(dst:Option Nat)(lg:Log)(fr:Fr)(st:St)(k:Log→Fr→St→Prop)(g:FuncId)(args:List D):Prop:=
 ∃r rd ups,(G=true→d5b P gl g args rd st r ups)∧(∀p∈ups,p.1∈rd)∧(∀o∈rd,o<b∧∃ob,look st o=some ob∧ob≠ .resv)∧(tr=false→rd=[])∧(G=false→puts st ups=st)∧k (ZH tr lg ⟨r,True,rd,none,none⟩ ups) (fr.Ye dst (.cond G r)) (puts st ups)
def i5V(P:Program)(gl:Gl)(N b:Nat)(tr:Bool)(dst:Option Nat)(lg:Log)(fr:Fr)(st:St)(k:Log→Fr→St→Prop)(ok:Prop)(f:D)(args:List D):Prop:=
 match f with
 | .fn g first cap=>dlt N dst∧ok∧d9k P gl b tr dst lg fr st k g (first++args++cap)
 | _=>False
def d7p(N q:Nat)(G:Bool)(tr:Bool)(dst:Option Nat)(lg:Log)(fr:Fr)(st:St)(k:Log→Fr→St→Prop)(r:LR):Prop:=
 d6G G r.ok∧dlt N dst∧k (ZH tr lg r []) (fr.Ye dst (.cond G r.d)) (bif G then r.app q st else st)
def d9l(P:Program)(gl:Gl)(N b:Nat)(G:Bool)(tr:Bool)(dst:Option Nat)(lg:Log)(fr:Fr)(st:St)(k:Log→Fr→St→Prop)(ok:Prop)(f:D)(args:List D):Prop:=
 match f with
 | .fn g first cap=>dlt N dst∧ok∧d8i P gl b G tr dst lg fr st k g (first++args++cap)
 | _=>False
def i3Q(P:Program)(gl:Gl)(N b q:Nat)(tr:Bool)(k k1:Log→Fr→St→Prop)(dst:Option Nat)(op:Op)(lg:Log)(fr:Fr)(st:St):Nat→Prop
 |0=>i2K N q tr dst lg fr st k (aop P gl true op fr (look st) q)
 |1=>i2K N q tr dst lg fr st k1 (aop P gl true op fr (look st) q)
 | _=>match op with
  | .call ⟨.value f,args,_⟩=>i5V P gl N b tr dst lg fr st k (eok gl true fr f∧(∀x∈args.toList,eok gl true fr x)) (ev1 gl fr f) (args.toList.map (ev1 gl fr))
  | _=>False
def i2L(P:Program)(gl:Gl)(N b q:Nat)(tr:Bool)(k k1:Log→Fr→St→Prop)(dst:Option Nat)(op:Op)(lg:Log)(fr:Fr)(st:St):Nat→Option Bool→Prop
 |0,some G=>d7p N q G tr dst lg fr st k (aop P gl G op fr (look st) q)
 |1,some G=>d7p N q G tr dst lg fr st k1 (aop P gl G op fr (look st) q)
 |2,some G=>match op with
  | .call ⟨.value f,args,_⟩=>d9l P gl N b G tr dst lg fr st k (eok gl G fr f∧(∀x∈args.toList,eok gl G fr x)) (ev1 gl fr f) (args.toList.map (ev1 gl fr))
  | _=>False
 | _,_=>False
def EvD(P:Program)(gl:Gl)(N:Nat)(ops:Array Oper)(b:Nat)(trk:List Nat)(K:Fr→St→Prop):List Oper→Nat→Nat→Log→Fr→St→Prop
 | [],_,_,lg,fr,st=>i3P lg∧K fr st
 |⟨dst,op,_,_,_,none⟩::l,i,k,lg,fr,st=>i3Q P gl N b (b+k) (trk.contains i) (EvD P gl N ops b trk K l (i+1) k) (EvD P gl N ops b trk K l (i+1) (k+1)) dst op lg fr st (opk op)
 |⟨dst,op,_,_,_,some (j,want)⟩::l,i,k,lg,fr,st=>i2L P gl N b (b+k) (trk.contains i) (EvD P gl N ops b trk K l (i+1) k) (EvD P gl N ops b trk K l (i+1) (k+1)) dst op lg fr st (opk op) (i2u fr want (gslot ops j))
def rds:Op→Bool
 | .load _ _| .store _ _ _| .indexAddr _ _ _| .slice _ _ _ _ _| .lookup _ _ _ _| .mapUpdate _ _ _ _| .next _ _| .call { callee:=.builtin .len,.. }| .call { callee:=.builtin .append,.. }=>true
 | _=>false
def wrs:Op→Bool
 | .store _ _ _| .mapUpdate _ _ _ _| .next _ _| .call { callee:=.builtin .append,.. }=>true
 | _=>false
def d3Y(trk:List Nat)(i:Nat)(o:Op):Bool:=(UQ o).isSome&&trk.contains i
def i0G(tbl:List Nat)(o:Oper):Nat:=o.after.toList.foldl (fun s e=>bif Region.binds .any e then s|||2^e.on|||tbl.getD e.on 0 else s) 0
def masks:List Oper→List Nat→List Nat
 | [],tbl=>tbl
 |o::l,tbl=>masks l (tbl++[i0G tbl o])
def i3R(ops:Array Oper)(trk:List Nat)(m i j:Nat):Bool:=
 Nat.testBit m i||(match ops[i]?, ops[j]? with
  |some x,some y=>Oper.apart ops x y&&((!((wrs x.op||d3Y trk i x.op)&&(rds y.op||d3Y trk j y.op))&& !((wrs y.op||d3Y trk j y.op)&&(rds x.op||d3Y trk i x.op)))||(trk.contains i&&trk.contains j))
  | _,_=>false)
def d3h(ops:Array Oper)(trk:List Nat):Bool:=
 let tbl:=masks ops.toList []
 (List.range ops.size).all fun j=>
  (match ops[j]? with|some o=>o.after.toList.all fun e=> !Region.binds .any e||Nat.blt e.on j|none=>true)&&
  (List.range j).all fun i=>i3R ops trk (tbl.getD j 0) i j
theorem d9m{tbl:List Nat}{o:Oper}{j:Nat}(h:Nat.testBit (i0G tbl o) j=true):∃e∈o.after,Region.binds .any e=true∧(e.on=j∨Nat.testBit (tbl.getD e.on 0) j=true):=by
 have key:∀(l:List Edge) (s:Nat),Nat.testBit (l.foldl (fun s e=>bif Region.binds .any e then s|||2^e.on|||tbl.getD e.on 0 else s) s) j=true→
  Nat.testBit s j=true∨∃e∈l,Region.binds .any e=true∧(e.on=j∨Nat.testBit (tbl.getD e.on 0) j=true):=by
  intro l
  induction l with
  |nil=>intro s h;exact .inl h
  |cons e l ih=>
   intro s h
   simp only[List.foldl_cons]at h
   rcases ih _ h with h|⟨e',h1,h2⟩
   ·cases hb:Region.binds .any e with
    |false=>rw[hb]at h;exact .inl h
    |true=>
     rw[hb]at h
     simp only[cond_true,Nat.testBit_or,Bool.or_eq_true,Nat.testBit_two_pow,decide_eq_true_eq]at h
     rcases h with(h|h)|h
     ·exact .inl h
     ·exact .inr ⟨e,by simp,hb,.inl h⟩
     ·exact .inr ⟨e,by simp,hb,.inr h⟩
   ·exact .inr ⟨e',by simp[h1],h2⟩
 rcases key _ 0 h with h|⟨e,h1,h2⟩
 ·simp at h
 ·exact⟨e,by simpa using h1,h2⟩
theorem d5Z{ops:Array Oper}:∀(l:List Oper) (tbl:List Nat),ops.toList.drop tbl.length=l→
 (∀j,j<tbl.length→∀i,Nat.testBit (tbl.getD j 0) i=true→Ord ops i j)→∀j i,Nat.testBit ((masks l tbl).getD j 0) i=true→Ord ops i j
 | [],tbl,_,h,j,i,hb=>by
  rcases Nat.lt_or_ge j tbl.length with hj|hj
  ·exact h j hj i hb
  ·simp only[masks]at hb
   rw[List.getD_eq_getElem?_getD,List.getElem?_eq_none hj]at hb
   simp at hb
 |o::l,tbl,hl,h,j,i,hb=>by
  simp only[masks]at hb
  have ho:ops[tbl.length]? =some o:=by
   have:(ops.toList.drop tbl.length)[0]? =some o:=by rw[hl];rfl
   simpa[List.getElem?_drop]using this
  refine d5Z l (tbl++[i0G tbl o]) ?_ ?_ j i hb
  ·have:=congrArg List.tail hl
   simpa[List.tail_drop]using this
  ·intro j hj i hb
   rcases Nat.lt_or_ge j tbl.length with hj'|hj'
   ·rw[List.getD_eq_getElem?_getD,List.getElem?_append_left hj', ←List.getD_eq_getElem?_getD]at hb
    exact h j hj' i hb
   ·have:j=tbl.length:=by simp at hj;omega
    subst this
    rw[List.getD_eq_getElem?_getD,List.getElem?_append_right (Nat.le_refl _)]at hb
    simp only[Nat.sub_self,List.getElem?_cons_zero,Option.getD_some]at hb
    obtain⟨e,h1,h2,h3⟩:=d9m hb
    intro L hcl haf
    have hon:=haf o ho e h1 h2
    rcases h3 with rfl|h3
    ·exact hon
    ·rcases Nat.lt_or_ge e.on tbl.length with hlt|hge
     ·exact h e.on hlt i h3 L hcl fun o' ho' e' he' hb'=>hcl e.on o' hon ho' e' he' hb'
     ·rw[List.getD_eq_getElem?_getD,List.getElem?_eq_none hge]at h3
      simp at h3
section
variable {P:Program} {gl:Gl} {N:Nat} {ops:Array Oper} {fr:Fr} {st:St} {q:Nat} {g:Bool} {op:Op} {lk:Look}
theorem i2M(h:rds op=false):(aop P gl g op fr lk q).rd=[]:=by
 cases op with
 |load|store|indexAddr|slice|lookup|mapUpdate|next=>cases h
 |range t x=>exact d5a
 |call c=>
  obtain⟨callee,args,ats⟩:=c
  cases callee with
  |value f=>rfl
  |invoke r m=>rfl
  |builtin b=>
   cases b<;>first|(cases h;done)|skip
   all_goals
    simp only[aop]
    generalize args.toList=l
    generalize ats.toList=l'
    first|rfl|(split<;>first|contradiction|rfl|exact i0w|exact i0x|exact i0v)
 |pick c a b=>exact d7k
 |build t ps=>exact d4X
 |buildSlice t len ps=>simp only[aop];cases gl.imm t<;>rfl
 |binOp o t x y u=>
  simp only[aop]
  split<;>first|exact i4H|exact i0u
 |unOp o t x=>exact i4I
 |nilCheck x=>exact d0i
 |convert s t x=>exact d1h
 |makeFunc f a b=>cases f<;>rfl
 |makeMap t r=>cases r with
  |none=>exact d1j
  |some r=>rfl
 |makeSlice t l c=>exact Zc
 |fieldAddr t x f=>exact Zb
 |field t x f=>exact d4Y
 |index t x y=>exact d4Z
 |extract x j=>exact d1i
 | _=>rfl
theorem i4M(h:wrs op=false)(hr:rds op=true):(aop P gl g op fr lk q).up=none:=by
 cases op<;>first|(cases h;done)|(cases hr;done)|skip
 case load=>exact(Yz _ _ _).1
 case indexAddr=>exact(Uj _ _ _ _ _).1
 case slice=>exact(XD _ _ _ _ _ _ _).1
 case lookup=>exact(WT _ _ _ _ _ _ _).1
 case call c=>
  obtain⟨callee,args,ats⟩:=c
  cases callee with
  |value f=>rfl
  |invoke r m=>rfl
  |builtin b=>
   cases b<;>first|(cases h;done)|(cases hr;done)|skip
   simp only[aop]
   generalize args.toList=l
   generalize ats.toList=l'
   first|rfl|(split<;>first|contradiction|rfl|exact(Yk _ _ _).1|exact(Yl _ _).1)
theorem d2p{b:Nat}{x:Row}(h:Fits P gl N ops b x fr st)(hr:rds x.o.op=false)(hc:UQ x.o.op≠none→x.r.rd=[]):x.rd=[]:=by
 unfold Row.rd
 cases hG:x.G with
 |false=>rfl
 |true=>
  rcases h.does hG with⟨_,e,_⟩|⟨_,_,_,_,_,_,_,e,_⟩
  ·rw[e];exact i2M hr
  ·exact hc (by rw[e];simp)
theorem d8j{b:Nat}{x:Row}(h:Fits P gl N ops b x fr st)(hw:wrs x.o.op=false)(hc:UQ x.o.op≠none→x.r.rd=[]):x.wr=[]:=by
 cases hr:rds x.o.op with
 |false=>
  have:=d2p h hr hc
  rw[List.eq_nil_iff_forall_not_mem]
  intro o ho
  have:=d7o h.d7W ho
  rw[d2p h hr hc]at this;cases this
 |true=>
  unfold Row.wr
  cases hG:x.G with
  |false=>rfl
  |true=>
   rcases h.does hG with⟨_,e,_,_,hu⟩|⟨_,_,_,_,_,_,_,e,_⟩
   ·rw[e,i4M hw hr,hu];rfl
   ·rw[List.eq_nil_iff_forall_not_mem]
    intro o ho
    have h1:o∈x.wr:=by unfold Row.wr;rw[hG];exact ho
    have h2:=d7o h.d7W h1
    unfold Row.rd at h2
    rw[hG,hc (by rw[e];simp)]at h2
    cases h2
end
def XE:List Oper→Nat
 | []=>0
 |o::l=>XE l+(bif needs o.op then 1 else 0)
def qOk:Nat→List Row→Prop
 | _,[]=>True
 |q,x::l=>x.q=q∧qOk (bif needs x.o.op then q+1 else q) l
def d0G(trk:List Nat):Nat→List Row→Log
 | _,[]=>[]
 |i,x::l=>bif trk.contains i then(x.r.rd,upL x.r++x.ups.map (·.1))::d0G trk (i+1) l else d0G trk (i+1) l
def nrd(trk:List Nat):Nat→List Row→Prop
 | _,[]=>True
 |i,x::l=>(trk.contains i=false→UQ x.o.op≠none→x.r.rd=[])∧nrd trk (i+1) l
theorem i3S{trk:List Nat}:∀(l:List Row) (i j:Nat) (h:j<l.length),nrd trk i l→trk.contains (i+j)=false→UQ (l[j]).o.op≠none→(l[j]).r.rd=[]
 |x::l,i,0,_,h,ht,hc=>h.1 (by simpa using ht) hc
 |x::l,i,j+1,hj,h,ht,hc=>i3S l (i+1) j (by simpa using hj) h.2 (by rw[←ht];congr 1;omega) hc
section
variable {P:Program} {gl:Gl} {N:Nat} {ops:Array Oper} {b:Nat} {trk:List Nat} {K:Fr→St→Prop} {w0:World} {μ0:Mu} {st0:St} {Q:Exit→Act→World→Prop}
theorem i0H{x:Row}{fr:Fr}{st:St}{q:Nat}(h:Fits P gl N ops b x fr st)(hq:st[q]? =some (some .resv))(hne:needs x.o.op=true→q≠x.q):(x.st st)[q]? =some (some .resv):=by
 rw[Ze fun hm=>?_]
 ·exact hq
 ·rcases Xf hm with hm|⟨e,hm⟩
  ·obtain⟨ob,h1,h2⟩:=d1k h _ (d7o h.d7W hm)
   rw[hq]at h1;cases h1;exact h2 rfl
  ·exact hne (h.makes hm) e
theorem Yn{o:Oper}{l:List Oper}{i k:Nat}{lg:Log}{fr:Fr}{st:St}(x:Row)(hx:x.o=o)(hq:x.q=b+k)(hf:Fits P gl N ops b x fr st)(hnr:trk.contains i=false→UQ x.o.op≠none→x.r.rd=[])
 (hk:∀m,k≤m→m<k+XE (o::l)→st[b+m]? =some (some .resv))
 (ih:(∀m,(bif needs o.op then k+1 else k)≤m→m<(bif needs o.op then k+1 else k)+XE l→(x.st st)[b+m]? =some (some .resv))→
  ∃rows:List Row,rows.map (·.o)=l∧qOk (b+(bif needs o.op then k+1 else k)) rows∧Trace P gl N ops b rows (x.ap (fr,st))∧K (full rows (x.ap (fr,st))).1 (full rows (x.ap (fr,st))).2∧i3P (ZH (trk.contains i) lg x.r x.ups++d0G trk (i+1) rows)∧nrd trk (i+1) rows):
 ∃rows:List Row,rows.map (·.o)=o::l∧qOk (b+k) rows∧Trace P gl N ops b rows (fr,st)∧K (full rows (fr,st)).1 (full rows (fr,st)).2∧i3P (lg++d0G trk i rows)∧nrd trk i rows:=by
 obtain⟨rows,h1,h2,h3,h4,h5,h6⟩:=ih fun m h1 h2=>by
  refine i0H hf (hk m ?_ ?_) fun hn=>?_
  ·cases hn:needs o.op<;>simp[hn]at h1<;>omega
  ·simp only[XE];cases hn:needs o.op<;>simp[hn]at h2⊢ <;>omega
  ·rw[hx]at hn
   rw[hq]
   simp[hn]at h1;omega
 refine⟨x::rows,by simp[hx,h1],⟨hq,?_⟩,⟨hf,h3⟩,h4,?_,hnr,h6⟩
 ·rw[hx]
  cases hn:needs o.op<;>simp[hn]at h2⊢
  ·exact h2
  ·exact h2
 ·simp only[d0G]
  unfold ZH at h5
  cases ht:trk.contains i with
  |false=>rw[ht]at h5;exact h5
  |true=>
   rw[ht]at h5
   simp only[cond_true,List.append_assoc,List.cons_append,List.nil_append]at h5⊢
   exact h5
set_option maxHeartbeats 1000000 in
theorem d0j:∀(l:List Oper) (i k:Nat) (lg:Log) (fr:Fr) (st:St),EvD P gl N ops b trk K l i k lg fr st→
 (∀m,k≤m→m<k+XE l→st[b+m]? =some (some .resv))→
 ∃rows:List Row,rows.map (·.o)=l∧qOk (b+k) rows∧Trace P gl N ops b rows (fr,st)∧K (full rows (fr,st)).1 (full rows (fr,st)).2∧i3P (lg++d0G trk i rows)∧nrd trk i rows
 | [],i,k,lg,fr,st,h,_=>⟨[],rfl,trivial,trivial,h.2,by simpa[d0G]using h.1,trivial⟩
 |⟨dst,op,ty,pos,af,none⟩::l,i,k,lg,fr,st,h,hk=>by
  simp only[EvD]at h
  by_cases h0:opk op=0
  ·rw[h0]at h
   obtain⟨h1,h2⟩:=(YB op).1 h0
   obtain⟨a,c,d⟩:=h
   refine Yn ⟨_,b+k,true,aop P gl true op fr (look st) (b+k),[]⟩ rfl rfl ⟨c,trivial,rfl,⟨d2m,fun _ h=>(by cases h)⟩,fun _=>.inl ⟨h1,rfl,a,(fun hn=>by rw[h2]at hn;cases hn),rfl⟩,fun hn=>absurd (d7h h2) hn⟩ (fun _ hc=>absurd h1 hc) hk ?_
   rw[h2]
   exact fun hk'=>d0j l _ _ _ _ _ d hk'
  ·by_cases h1':opk op=1
   ·rw[h1']at h
    obtain⟨h1,h2⟩:=(YB op).2 h1'
    obtain⟨a,c,d⟩:=h
    refine Yn ⟨_,b+k,true,aop P gl true op fr (look st) (b+k),[]⟩ rfl rfl ⟨c,trivial,rfl,⟨d2m,fun _ h=>(by cases h)⟩,fun _=>.inl ⟨h1,rfl,a,fun hn=>hk k (Nat.le_refl _) ?_,rfl⟩,fun _=>h2⟩ (fun _ hc=>absurd h1 hc) hk ?_
    ·simp only[XE,h2,cond_true];omega
    ·rw[h2]
     exact fun hk'=>d0j l _ _ _ _ _ d hk'
   ·obtain⟨f,args,ats,rfl⟩:=YC h0 h1'
    simp only[opk,i3Q,i5V]at h
    cases hf:ev1 gl fr f<;>rw[hf]at h<;>first|exact h.elim|skip
    obtain⟨a,⟨c,d⟩,r,rd,ups,hp,hu,hrd,htr,e⟩:=h
    refine Yn ⟨_,b+k,true,⟨r,True,rd,none,none⟩,ups⟩ rfl rfl ⟨a,trivial,rfl,⟨QI rfl,hu⟩,fun _=>.inr ⟨f,args.toList,_,_,_,r,rd,rfl,c,d,hf,hp,rfl,fun o ho=>⟨(hrd o ho).1,let ⟨ob,h1,h2⟩:=(hrd o ho).2;⟨ob,ZA.1 h1,h2⟩⟩⟩,fun hn=>absurd rfl hn⟩ (fun ht _=>htr ht) hk ?_
    exact fun hk'=>d0j l _ _ _ _ _ e hk'
 |⟨dst,op,ty,pos,af,some (j,want)⟩::l,i,k,lg,fr,st,h,hk=>by
  simp only[EvD]at h
  cases hg:i2u fr want (gslot ops j)with
  |none=>rw[hg]at h;unfold i2L at h;split at h<;>first|exact h.elim|(rename_i e;cases e)
  |some G=>
   rw[hg]at h
   obtain⟨g1,g2⟩:=i0o (dst:=dst) (op:=op) (ty:=ty) (pos:=pos) (af:=af) hg
   by_cases h0:opk op=0
   ·rw[h0]at h
    obtain⟨a,c,d⟩:=h
    obtain⟨h1,h2⟩:=(YB op).1 h0
    refine Yn ⟨_,b+k,G,aop P gl G op fr (look st) (b+k),[]⟩ rfl rfl ⟨c,g2.symm▸trivial,g1.symm,⟨d2m,fun _ h=>(by cases h)⟩,fun(hG:G=true)=>.inl ⟨h1,by subst hG;rfl,a hG,(fun hn=>by rw[h2]at hn;cases hn),rfl⟩,fun hn=>absurd (d7h h2) hn⟩ (fun _ hc=>absurd h1 hc) hk ?_
    rw[h2]
    exact fun hk'=>d0j l _ _ _ _ _ d hk'
   ·by_cases h1:opk op=1
    ·rw[h1]at h
     obtain⟨a,c,d⟩:=h
     obtain⟨h2,h3⟩:=(YB op).2 h1
     refine Yn ⟨_,b+k,G,aop P gl G op fr (look st) (b+k),[]⟩ rfl rfl ⟨c,g2.symm▸trivial,g1.symm,⟨d2m,fun _ h=>(by cases h)⟩,fun(hG:G=true)=>.inl ⟨h2,by subst hG;rfl,a hG,fun hn=>hk k (Nat.le_refl _) ?_,rfl⟩,fun _=>h3⟩ (fun _ hc=>absurd h2 hc) hk ?_
     ·simp only[XE,h3,cond_true];omega
     ·rw[h3]
      exact fun hk'=>d0j l _ _ _ _ _ d hk'
    ·obtain⟨f,args,ats,rfl⟩:=YC h0 h1
     simp only[opk,i2L,d9l]at h
     cases hf:ev1 gl fr f<;>rw[hf]at h<;>first|exact h.elim|skip
     obtain⟨a,⟨c,d⟩,r,rd,ups,hp,hu,hrd,htr,hgf,e⟩:=h
     refine Yn ⟨_,b+k,G,⟨r,True,rd,none,none⟩,ups⟩ rfl rfl ⟨a,g2.symm▸trivial,g1.symm,⟨QI rfl,hu⟩,fun(hG:G=true)=>.inr ⟨f,args.toList,_,_,_,r,rd,rfl,by subst hG;exact c,by subst hG;exact d,hf,hp hG,rfl,fun o ho=>⟨(hrd o ho).1,let ⟨ob,h1,h2⟩:=(hrd o ho).2;⟨ob,ZA.1 h1,h2⟩⟩⟩,fun hn=>absurd rfl hn⟩ (fun ht _=>htr ht) hk ?_
     have es:(bif G then puts ((LR.mk r True rd none none).app (b+k) st) ups else st)=puts st ups:=by
      cases G with
      |true=>rfl
      |false=>exact(hgf rfl).symm
     intro hk'
     simp only[Row.ap,Row.st,Row.fr,Row.d,es]at hk'⊢
     exact d0j l _ _ _ _ _ e hk'
theorem i0I:∀(l:List Row) (q:Nat),qOk q l→∀j (h:j<l.length),q≤(l[j]).q∧(needs (l[j]).o.op=true→(l[j]).q<q+XE (l.map (·.o)))
 |x::l,q,h,0,_=>by
  refine⟨Nat.le_of_eq h.1.symm,fun hn=>?_⟩
  simp only[List.getElem_cons_zero]at hn⊢
  rw[h.1]
  simp only[List.map_cons,XE,hn,cond_true];omega
 |x::l,q,h,j+1,hj=>by
  have:=i0I l _ h.2 j (by simpa using hj)
  simp only[List.getElem_cons_succ,List.map_cons,XE]
  cases hn:needs x.o.op<;>simp only[hn,cond_true,cond_false]at this⊢
  ·exact⟨this.1,fun h=>by have:=this.2 h;omega⟩
  ·exact⟨by omega,fun h=>by have:=this.2 h;omega⟩
theorem i0J:∀(l:List Row) (q:Nat),qOk q l→∀i j (hi:i<l.length) (hj:j<l.length),i<j→needs (l[i]).o.op=true→(l[i]).q<(l[j]).q
 |x::l,q,h,0,j+1,_,hj,_,hn=>by
  simp only[List.getElem_cons_zero,List.getElem_cons_succ]at hn⊢
  have:=(i0I l _ h.2 j (by simpa using hj)).1
  rw[hn,cond_true]at this
  rw[h.1];omega
 |x::l,q,h,i+1,j+1,hi,hj,hij,hn=>by
  simp only[List.getElem_cons_succ]at hn⊢
  exact i0J l _ h.2 i j (by simpa using hi) (by simpa using hj) (by omega) hn
theorem i0K{rd up:List Nat}:∀ {lg:Log},i9b rd up lg→∀y∈lg,(∀o∈up,o∉y.1)∧∀o∈y.2,o∉rd
 |(rd',up')::l,h,y,hy=>by
  rcases List.mem_cons.1 hy with e|e
  ·subst e
   exact⟨h.1,h.2.1⟩
  ·exact i0K h.2.2 y e
theorem d6a{trk:List Nat}:∀(l:List Row) (i j:Nat) (h:j<l.length),trk.contains (i+j)=true→((l[j]).r.rd,upL (l[j]).r++(l[j]).ups.map (·.1))∈d0G trk i l
 |x::l,i,0,_,ht=>by simp only[d0G,Nat.add_zero]at ht ⊢; rw[ht];simp
 |x::l,i,j+1,hj,ht=>by
  have:=d6a l (i+1) j (by simpa using hj) (by rw[←ht];congr 1;omega)
  simp only[d0G,List.getElem_cons_succ]
  cases trk.contains i with
  |true=>exact List.mem_cons_of_mem _ this
  |false=>exact this
theorem i6S{x:Row}{o:Nat}(h:o∈x.wr):o∈upL x.r++x.ups.map (·.1):=by
 unfold Row.wr at h
 cases hG:x.G<;>rw[hG]at h<;>simp only[cond_true,cond_false]at h
 ·cases h
 ·exact h
theorem i6T{x:Row}{o:Nat}(h:o∈x.rd):o∈x.r.rd:=by
 unfold Row.rd at h
 cases hG:x.G<;>rw[hG]at h
 ·cases h
 ·exact h
theorem i0L{trk:List Nat}:∀(l:List Row) (i:Nat),i3P (d0G trk i l)→∀j m (hj:j<l.length) (hm:m<l.length),j<m→trk.contains (i+j)=true→trk.contains (i+m)=true→
 (∀o∈(l[j]).wr,o∉ (l[m]).rd)∧∀o∈(l[m]).wr,o∉ (l[j]).rd
 |x::l,i,h,0,m+1,_,hm,_,t1,t2=>by
  simp only[d0G,Nat.add_zero]at h t1
  rw[t1]at h
  have:=i0K h.1 _ (d6a l (i+1) m (by simpa using hm) (by rw[←t2];congr 1;omega))
  simp only[List.getElem_cons_zero,List.getElem_cons_succ]
  exact⟨fun o ho ho'=>this.1 o (i6S ho) (i6T ho'),fun o ho ho'=>this.2 o (i6S ho) (i6T ho')⟩
 |x::l,i,h,j+1,m+1,hj,hm,hjm,t1,t2=>by
  have h':i3P (d0G trk (i+1) l):=by
   simp only[d0G]at h
   cases ht:trk.contains i with
   |true=>rw[ht]at h;exact h.2
   |false=>rw[ht]at h;exact h
  simp only[List.getElem_cons_succ]
  exact i0L l (i+1) h' j m (by simpa using hj) (by simpa using hm) (by omega) (by rw[←t1];congr 1;omega) (by rw[←t2];congr 1;omega)
theorem d4v{rows:List Row}{s:Fr×St}(h:Trace P gl N ops b rows s)(j:Nat)(hj:j<rows.length):∃s':Fr×St,Fits P gl N ops b (rows[j]) s'.1 s'.2:=by
 have e:rows=rows.take j++rows[j]::rows.drop (j+1):=by rw[List.getElem_cons_drop,List.take_append_drop]
 rw[e]at h
 exact⟨_,d0F _ h⟩
theorem d8k{fr:Fr}{a:Act}{w:World}:∀(n:Nat) {st:St} {μ:Mu},d0p gl N w0 μ0 st0 fr st a w μ→∃μ',d0p gl N w0 μ0 st0 fr (st++List.replicate n (some .resv)) a w μ'
 |0,st,μ,h=>⟨μ,by simpa using h⟩
 |n+1,st,μ,h=>by
  obtain⟨k1,k2⟩:=d2j h.sim
  obtain⟨μ',h'⟩:=d8k n (st:=st++[some .resv]) ⟨k1,h.glob.step k2,h.fr.step k2,h.size,h.defers,h.step.trans k2⟩
  exact⟨μ',by simpa[List.replicate_succ,List.append_assoc]using h'⟩
theorem d9n{fr:Fr}{a:Act}{w:World}{st:St}{μ:Mu}(h:d0p gl N w0 μ0 st0 fr st a w μ):d0p gl N w0 μ0 st0 fr st a { w with drawn:=w.drawn+1 } μ:=by
 have step:Step w μ st { w with drawn:=w.drawn+1 } μ st:=⟨Nat.le_refl _,rfl,rfl,⟨rfl,Nat.le_succ _⟩,fun _ _ _=>rfl,fun _ h=>.inl h,Nat.le_refl _,fun _ ob' _ h=>⟨ob',h,by
  cases ob' with
  |arr g n b es=>exact⟨Nat.le_refl _,fun _=>⟨rfl,rfl,rfl,rfl,fun blk base c ty _ hh=>⟨c,hh,rfl⟩⟩⟩
  |mps=>exact⟨rfl,rfl⟩
  |mpi=>exact⟨rfl,rfl,rfl⟩
  |sit=>rfl
  |resv=>trivial⟩⟩
 exact⟨⟨fun o ob ho=>(h.sim.obj o ob ho).step step (fun _ _ _=>rfl),h.sim.inj⟩,h.glob.step step,h.fr.step step,h.size,h.defers,h.step.trans step⟩
variable {n0:Nat} {keep:List Nat} {AQ':AQ} {fr:Fr} {st:St}
theorem i0M{l:List Oper}{K:Fr→St→Prop}{Q:Exit→Act→World→Prop}{a:Act}{w:World}{μ:Mu}(trk:List Nat)(n:Nat)(ho:d3h l.toArray trk=true)(hn:XE l=n)
 (h:EvD P gl N l.toArray st.length trk K l 0 0 [] fr (st++List.replicate n (some .resv))) (hc:d0p gl N w0 μ0 st0 fr st a w μ) (hQ:∀fr st a w μ,K fr st→d0p gl N w0 μ0 st0 fr st a w μ→Q .normal a w):
 wpAny P .any l.toArray Q l.toArray.size (Array.replicate l.toArray.size false) a { w with drawn:=w.drawn+1 }:=by
 obtain⟨μ1,hc1⟩:=d8k n (d9n hc)
 have hget:∀m,m<n→(st++List.replicate n (some Ob.resv))[st.length+m]? =some (some .resv):=fun m hm=>by
  rw[List.getElem?_append_right (by omega),Nat.add_sub_cancel_left]
  simp[hm]
 obtain⟨rows,h1,h2,h3,h4,h5,h6⟩:=d0j l 0 0 [] fr _ h fun m _ hm=>hget m (by omega)
 have hlen:rows.length=l.length:=by rw[←h1];simp
 have hop:∀i (hi:i<rows.length),l.toArray[i]? =some (rows[i]).o:=fun i hi=>by
  have:l[i]? =(rows.map (·.o))[i]? :=by rw[h1]
  simpa[hi]using this
 have i8r:=ho
 unfold d3h at i8r
 simp only[List.all_eq_true,List.mem_range,Bool.and_eq_true]at i8r
 have i9c:Good P gl N l.toArray st.length rows (fr,st++List.replicate n (some .resv)):=by
  refine⟨by simpa using h1.symm,h3,fun i j hi hj hne hni hnj=>?_,fun x hx hnx=>?_,fun i o hio e he hb=>?_,fun i j hi hj hij=>?_⟩
  ·rcases Nat.lt_or_gt_of_ne hne with hlt|hlt
   ·exact Nat.ne_of_lt (i0J rows _ h2 i j hi hj hlt hni)
   ·exact Nat.ne_of_gt (i0J rows _ h2 j i hj hi hlt hnj)
  ·obtain⟨j,hj,e⟩:=List.getElem_of_mem hx
   have:=i0I rows _ h2 j hj
   rw[e,h1,hn]at this
   obtain⟨q1,q2⟩:=this
   have q3:=q2 hnx
   have:=hget (x.q-st.length) (by omega)
   rw[show st.length+(x.q-st.length)=x.q by omega]at this
   exact⟨this,by omega⟩
  ·have hil:i<l.length:=by
    rcases Nat.lt_or_ge i l.length with h'|h'
    ·exact h'
    ·rw[Array.getElem?_eq_none (by simpa using h')]at hio;cases hio
   have:=(i8r i (by simpa using hil)).1
   rw[hio]at this
   simp only[List.all_eq_true]at this
   have:=this e (by simpa using he)
   rw[hb]at this
   simp only[Bool.not_true,Bool.false_or]at this
   exact Nat.lt_of_lt_of_le (Nat.lt_succ_self _) (Nat.le_of_ble_eq_true this)
  ·have hp:=(i8r j (by simpa[←hlen]using hj)).2 i hij
   unfold i3R at hp
   rw[hop i hi,hop j hj]at hp
   simp only[Bool.or_eq_true]at hp
   rcases hp with hp|hp
   ·exact .inl (d5Z l.toArray.toList [] rfl (fun j hj=>absurd hj (Nat.not_lt_zero _)) j i hp)
   ·right
    simp only[Bool.and_eq_true,Bool.or_eq_true]at hp
    obtain⟨hp1,hp2⟩:=hp
    refine⟨hp1,?_⟩
    obtain⟨s1,f1⟩:=d4v h3 i hi
    obtain⟨s2,f2⟩:=d4v h3 j hj
    rcases hp2 with⟨hp2,hp3⟩|⟨t1,t2⟩
    ·have hcc:∀k (hk:k<rows.length),d3Y trk k (rows[k]).o.op=false→UQ (rows[k]).o.op≠none→(rows[k]).r.rd=[]:=fun k hk hc hne=>by
      refine i3S rows 0 k hk h6 ?_ hne
      unfold d3Y at hc
      have:(UQ (rows[k]).o.op).isSome=true:=by cases h:UQ (rows[k]).o.op with
       |none=>exact absurd h hne
       |some=>rfl
      rw[this,Bool.true_and]at hc
      rw[Nat.zero_add];exact hc
     refine⟨fun o a1 a2=>?_,fun o a1 a2=>?_⟩
     ·cases hw:(wrs (rows[i]).o.op||d3Y trk i (rows[i]).o.op)with
      |false=>
       rw[Bool.or_eq_false_iff]at hw
       rw[d8j f1 hw.1 (hcc i hi hw.2)]at a1;cases a1
      |true=>cases hr:(rds (rows[j]).o.op||d3Y trk j (rows[j]).o.op)with
       |false=>
        rw[Bool.or_eq_false_iff]at hr
        rw[d2p f2 hr.1 (hcc j hj hr.2)]at a2;cases a2
       |true=>rw[hw,hr]at hp2;cases hp2
     ·cases hw:(wrs (rows[j]).o.op||d3Y trk j (rows[j]).o.op)with
      |false=>
       rw[Bool.or_eq_false_iff]at hw
       rw[d8j f2 hw.1 (hcc j hj hw.2)]at a1;cases a1
      |true=>cases hr:(rds (rows[i]).o.op||d3Y trk i (rows[i]).o.op)with
       |false=>
        rw[Bool.or_eq_false_iff]at hr
        rw[d2p f1 hr.1 (hcc i hi hr.2)]at a2;cases a2
       |true=>rw[hw,hr]at hp3;cases hp3
    ·exact i0L rows 0 (by simpa using h5) i j hi hj hij (by simpa using t1) (by simpa using t2)
 have hl0:∀i,lst (Array.replicate l.toArray.size false) i=false:=fun i=>by
  unfold lst
  rw[Array.getD_eq_getD_getElem?]
  by_cases hi:i<l.length
  ·simp[hi]
  ·simp[hi]
 refine i0B i9c (fun a w μ hc=>hQ _ _ a w μ h4 hc) _ _ _ _ μ1 (by simp[hlen]) ?_ ?_ ?_ ?_
 ·have:∀n,cnt (lst (Array.replicate l.toArray.size false)) n≤n:=fun n=>by
   induction n with
   |zero=>exact Nat.le_refl _
   |succ n ih=>simp only[cnt,hl0,cond_false];omega
  have:=this rows.length
  simpa[hlen]using this
 ·intro k o hk;rw[hl0]at hk;cases hk
 ·intro i j hi hj hj';rw[hl0]at hj';cases hj'
 ·rw[d8a rows 0 _ fun k _ _=>hl0 k]
  exact hc1
theorem p0h{id:Nat}{l:List Oper}(trk:List Nat)(n:Nat)(hm:P.follows .mixedOrders=true)(ho:d3h l.toArray trk=true)(hn:XE l=n)
 (h:EvD P gl N l.toArray st.length trk (fun fr st=>AQ' .normal (Fr.only keep fr) st) l 0 0 [] fr (st++List.replicate n (some .resv))):
 AWp P gl N n0 keep (.region id l.toArray true) AQ' fr st:=by
 intro w0 μ0 st0 hl a w ⟨μ,hc⟩
 exact wp_region_any hm (i0M trk n ho hn h hc fun fr st a w μ hk hc=>⟨_,_,hk,μ,hc.sim,hc.glob,hc.fr.only keep,hc.size,hc.defers,hc.step⟩)
end
section
variable {P:Program} {gl:Gl} {N n0:Nat} {ops:Array Oper} {keep:List Nat} {Q:AQ} {fr:Fr} {st:St} {lg:Log} {b q:Nat} {trk:List Nat} {K:Fr→St→Prop}
 {dst:Option Nat} {op:Op} {l:List Oper} {i k:Nat} {tr:Bool} {kk k1:Log→Fr→St→Prop} {d:D} {p:Prop} {rd:List Nat} {o:Nat} {ob:Ob} {G:Bool}
@[congr] theorem i6U{fr':Fr}{st':St}{lg':Log}{i' k':Nat}(h0:i=i')(h1:k=k')(h2:lg=lg')(h:fr=fr')(h3:st=st'):EvD P gl N ops b trk K l i k lg fr st=EvD P gl N ops b trk K l i' k' lg' fr' st':=by rw[h0,h1,h2,h,h3]
@[congr] theorem i5W{r r':LR}(h:r=r'):i2K N q tr dst lg fr st kk r=i2K N q tr dst lg fr st kk r':=by rw[h]
@[congr] theorem i4N{r r':LR}(h:r=r'):d7p N q G tr dst lg fr st kk r=d7p N q G tr dst lg fr st kk r':=by rw[h]
@[congr] theorem i5X{n n':Nat}{q':Nat}{tr':Bool}(h1:q=q')(h2:tr=tr')(h:n=n'):i3Q P gl N b q tr kk k1 dst op lg fr st n=i3Q P gl N b q' tr' kk k1 dst op lg fr st n':=by rw[h,h1,h2]
@[congr] theorem i5Y{n n':Nat}{g g':Option Bool}{q':Nat}{tr':Bool}(h1:q=q')(h2:tr=tr')(h:n=n')(h3:g=g'):i2L P gl N b q tr kk k1 dst op lg fr st n g=i2L P gl N b q' tr' kk k1 dst op lg fr st n' g':=by rw[h,h1,h2,h3]
@[congr] theorem i5Z{a a':Prop}{f f':D}{args args':List D}(h:a=a')(h2:f=f')(h3:args=args'):i5V P gl N b tr dst lg fr st kk a f args=i5V P gl N b tr dst lg fr st kk a' f' args':=by rw[h,h2,h3]
@[congr] theorem i4O{a a':Prop}{f f':D}{args args':List D}(h:a=a')(h2:f=f')(h3:args=args'):d9l P gl N b G tr dst lg fr st kk a f args=d9l P gl N b G tr dst lg fr st kk a' f' args':=by rw[h,h2,h3]
@[congr] theorem i4P{f:FuncId}{args args':List D}(h:args=args'):d9k P gl b tr dst lg fr st kk f args=d9k P gl b tr dst lg fr st kk f args':=by rw[h]
@[congr] theorem i3T{f:FuncId}{args args':List D}(h:args=args'):d8i P gl b G tr dst lg fr st kk f args=d8i P gl b G tr dst lg fr st kk f args':=by rw[h]
theorem i9d:EvD P gl N ops b trk K [] i k lg fr st=(i3P lg∧K fr st):=rfl
theorem i9e{o:Oper}{l':List Oper}:EvD P gl N ops b trk K (List.append (o::l) l') i k lg fr st=EvD P gl N ops b trk K (o::List.append l l') i k lg fr st:=rfl
theorem i8s{l':List Oper}:EvD P gl N ops b trk K (List.append [] l') i k lg fr st=EvD P gl N ops b trk K l' i k lg fr st:=rfl
theorem i8t{ty:TypeId}{pos:String}{af:Array Edge}:EvD P gl N ops b trk K (⟨dst,op,ty,pos,af,none⟩::l) i k lg fr st=
 i3Q P gl N b (b+k) (trk.contains i) (EvD P gl N ops b trk K l (i+1) k) (EvD P gl N ops b trk K l (i+1) (k+1)) dst op lg fr st (opk op):=rfl
theorem i6V{ty:TypeId}{pos:String}{af:Array Edge}{j:Nat}{want:Bool}:EvD P gl N ops b trk K (⟨dst,op,ty,pos,af,some (j,want)⟩::l) i k lg fr st=
 i2L P gl N b (b+k) (trk.contains i) (EvD P gl N ops b trk K l (i+1) k) (EvD P gl N ops b trk K l (i+1) (k+1)) dst op lg fr st (opk op) (i2u fr want (gslot ops j)):=rfl
theorem p0i:i3Q P gl N b q tr kk k1 dst op lg fr st 0=i2K N q tr dst lg fr st kk (aop P gl true op fr (look st) q):=rfl
theorem p0j:i3Q P gl N b q tr kk k1 dst op lg fr st 1=i2K N q tr dst lg fr st k1 (aop P gl true op fr (look st) q):=rfl
theorem p0k{f:Operand}{args:Array Operand}{ats:Array TypeId}:i3Q P gl N b q tr kk k1 dst (.call ⟨.value f,args,ats⟩) lg fr st 2=i5V P gl N b tr dst lg fr st kk (eok gl true fr f∧(∀x∈args.toList,eok gl true fr x)) (ev1 gl fr f) (args.toList.map (ev1 gl fr)):=rfl
theorem p0l:i2L P gl N b q tr kk k1 dst op lg fr st 0 (some G)=d7p N q G tr dst lg fr st kk (aop P gl G op fr (look st) q):=rfl
theorem p0m:i2L P gl N b q tr kk k1 dst op lg fr st 1 (some G)=d7p N q G tr dst lg fr st k1 (aop P gl G op fr (look st) q):=rfl
theorem p0n{f:Operand}{args:Array Operand}{ats:Array TypeId}:i2L P gl N b q tr kk k1 dst (.call ⟨.value f,args,ats⟩) lg fr st 2 (some G)=d9l P gl N b G tr dst lg fr st kk (eok gl G fr f∧(∀x∈args.toList,eok gl G fr x)) (ev1 gl fr f) (args.toList.map (ev1 gl fr)):=rfl
theorem p0o:i2K N q tr dst lg fr st kk ⟨d,p,rd,none,none⟩=(p∧dlt N dst∧kk (ZH tr lg ⟨d,p,rd,none,none⟩ []) (fr.Ye dst d) st):=rfl
theorem p0p:i2K N q tr dst lg fr st kk ⟨d,p,rd,some (o,ob),none⟩=(p∧dlt N dst∧kk (ZH tr lg ⟨d,p,rd,some (o,ob),none⟩ []) (fr.Ye dst d) (st.set o (some ob))):=rfl
theorem p0q:i2K N q tr dst lg fr st kk ⟨d,p,rd,none,some ob⟩=(p∧dlt N dst∧kk (ZH tr lg ⟨d,p,rd,none,some ob⟩ []) (fr.Ye dst d) (st.set q (some ob))):=rfl
theorem i9f:d7p N q G tr dst lg fr st kk ⟨d,p,rd,none,none⟩=(d6G G p∧dlt N dst∧kk (ZH tr lg ⟨d,p,rd,none,none⟩ []) (fr.Ye dst (.cond G d)) st):=by cases G<;>rfl
theorem i9g{g:FuncId}{first cap args:List D}:i5V P gl N b tr dst lg fr st kk p (.fn g first cap) args=(dlt N dst∧p∧d9k P gl b tr dst lg fr st kk g (first++args++cap)):=rfl
theorem i8u{g:FuncId}{first cap args:List D}:d9l P gl N b G tr dst lg fr st kk p (.fn g first cap) args=(dlt N dst∧p∧d8i P gl b G tr dst lg fr st kk g (first++args++cap)):=rfl
theorem i9h{r:LR}{ups:List (Nat×Ob)}:ZH false lg r ups=lg:=rfl
theorem TF{f:FuncId}{args:List D}{r:D}(h:Pure P gl f args r)(hk:kk (ZH tr lg ⟨r,True,[],none,none⟩ []) (fr.Ye dst r) st):
 d9k P gl b tr dst lg fr st kk f args:=
 ⟨r,[],[],h.loc,fun _ h=>(by cases h),fun _ h=>(by cases h),fun _=>rfl,hk⟩
theorem i9i{ups:List (Nat×Ob)}:ZH true lg ⟨d,p,rd,none,some ob⟩ ups=lg++[(rd,ups.map (·.1))]:=rfl
theorem i8v{ups:List (Nat×Ob)}:ZH true lg ⟨d,p,rd,none,none⟩ ups=lg++[(rd,ups.map (·.1))]:=rfl
theorem i8w{ups:List (Nat×Ob)}:ZH true lg ⟨d,p,rd,some (o,ob),none⟩ ups=lg++[(rd,o::ups.map (·.1))]:=rfl
theorem p1q{b:Bool}:(b==true)=b:=by cases b<;>rfl
theorem p1r{b:Bool}:(b==false)= !b:=by cases b<;>rfl
theorem i6a{l:List Oper}{j:Nat}:gslot l.toArray j=(l[j]?).bind (·.dst):=by simp[gslot]
theorem i8x{e:Nat}:(∃t,TK.slice e=TK.slice t)=True:=eq_true ⟨e,rfl⟩
theorem p0r{a c:Nat}:(∃t u,TK.map a c=TK.map t u)=True:=eq_true ⟨a,c,rfl⟩
end
attribute [go_sem] p1q p1r i6a Option.bind_some i8x p0r i2g ZP Int.toNat_natCast imp_self false_implies i9e i8s i9d i8t i6V p0i p0j p0k p0l p0m p0n p0o p0p p0q i9f i9g i8u i9h i9i i8v i8w i9b i3P Nat.add_zero
section
variable {P:Program} {gl:Gl} {N n0:Nat} {keep:List Nat} {Q:AQ} {fr:Fr} {st:St} {c:Code}
theorem i9j{t n b:Nat}{full:Bool}{es:List (List D)}(hg:fr.get t= .sl full n b es)(h:es.length*b≤top→AWp P gl N n0 keep c Q fr st):AWp P gl N n0 keep c Q fr st:=
 i4A (p:=es.length*b≤top) (fun w μ tmps _ hf=>by
  have:=hf t
  rw[hg]at this
  generalize tmps.getD t undef=v at this
  cases this with
  |tr h=>cases h;assumption) h
end
def i6W(n:Nat)(rows:List (List D)):Prop:=∀r∈rows,r.length=n∧r.all D.one=true
theorem i2N{α:Type}{l:List α}{k:Nat}{d:α}(h:k<l.length):l.getD k d∈l:=by
 rw[List.getD_eq_getElem?_getD,List.getElem?_eq_getElem h];exact List.getElem_mem h
theorem i6W.at{n:Nat}{rows:List (List D)}(h:i6W n rows){k:Nat}(hk:k<rows.length):∃r,rows.getD k []=r∧r.length=n∧r.take n=r∧r.all D.one=true∧r∈rows:=by
 have hm:=i2N (d:=[]) hk
 obtain⟨h1,h2⟩:=h _ hm
 exact⟨_,rfl,h1,List.take_of_length_le (by omega),h2,hm⟩
def i6X:Ob→Ob→Prop
 | .arr g n b es,.arr g' n' b' es'=>g'=g∧n'=n∧b'=b∧es'.length=es.length
 | .mps ag _,.mps ag' _=>ag'=ag
 | .mpi ag k _,.mpi ag' k' _=>ag'=ag∧k'=k
 | .sit s p,.sit s' p'=>s'=s∧p'=p
 | .resv,.resv=>True
 | _,_=>False
structure d9K(st T:St):Prop where
 len:T.length≤st.length
 sh:∀(o:Nat) (ob':Ob),T[o]? =some (some ob')→∃ob,st[o]? =some (some ob)∧i6X ob ob'
section
variable {w:World} {μ:Mu} {st T:St}
theorem d9K.own(hk:d9K st T){blk:Nat}(h:own μ T blk):own μ st blk:=by
 obtain⟨o,ob,base,h1,h2⟩:=h
 obtain⟨ob',h3,_⟩:=hk.sh o ob h1
 exact⟨o,ob',base,h3,h2⟩
theorem TR.kill(hk:d9K st T){v:Value}{d:D}(h:TR w (Am.own μ st) v d):TR w (Am.own μ T) v d:=
 h.mono (fun _ _ hn=>⟨rfl,fun h=>hn (hk.own h)⟩) (Nat.le_refl _)
theorem d9K.resv(hk:d9K st T){o:Nat}(h:st[o]? ≠some (some .resv)):T[o]? ≠some (some .resv):=fun e=>by
 obtain⟨ob,h1,h2⟩:=hk.sh o _ e
 cases ob<;>first|exact h2.elim|exact h h1
theorem VR.kill(hk:d9K st T){v:Value}{d:D}(h:VR w μ st v d)(hd:D.sc T.length d):VR w μ T v d:=by
 induction h with
 |any v=>exact .any v
 |tr h=>exact .tr (h.kill hk)
 |agg vs cs hs hc ih=>exact .agg vs cs hs (fun j hj=>ih j hj (Tm hd j hj))
 |tup vs cs hs hc ih=>exact .tup vs cs hs (fun j hj=>ih j hj (Tm hd j hj))
 |fn f vf vc first cap hf hc hfc hcc ih1 ih2=>exact .fn f vf vc first cap hf hc (fun j hj=>ih1 j hj (Tm hd.1 j hj)) (fun j hj=>ih2 j hj (Tm hd.2 j hj))
 |ref v full o g off len hv ho hr hg h=>
  refine .ref v full o g off len hv hd (hk.resv hr) (fun g' n b es e=>?_) (fun n b es e=>?_)
  ·obtain⟨ob,h1,h2⟩:=hk.sh o _ e
   cases ob<;>first|exact h2.elim|skip
   have:=hg _ _ _ _ h1
   rw[h2.1];exact this
  ·obtain⟨ob,h1,h2⟩:=hk.sh o _ e
   cases ob<;>first|exact h2.elim|skip
   obtain⟨rfl,rfl,rfl,e4⟩:=h2
   have:=h _ _ _ h1
   unfold Zu at this⊢
   rw[e4];exact this
 |ptr v o g i c hv ho hr hg h=>
  refine .ptr v o g i c hv hd (hk.resv hr) (fun g' n b es e=>?_) (fun n b es e=>?_)
  ·obtain⟨ob,h1,h2⟩:=hk.sh o _ e
   cases ob<;>first|exact h2.elim|skip
   have:=hg _ _ _ _ h1
   rw[h2.1];exact this
  ·obtain⟨ob,h1,h2⟩:=hk.sh o _ e
   cases ob<;>first|exact h2.elim|skip
   obtain⟨rfl,rfl,rfl,e4⟩:=h2
   exact h _ _ _ h1
 |mp v o hv ho hr h1 h2=>
  refine .mp v o hv hd (hk.resv hr) (fun ag es e=>?_) (fun ag k es e=>?_)
  ·obtain⟨ob,h3,h4⟩:=hk.sh o _ e
   cases ob<;>first|exact h4.elim|skip
   exact h1 _ _ h3
  ·obtain⟨ob,h3,h4⟩:=hk.sh o _ e
   cases ob<;>first|exact h4.elim|skip
   exact h2 _ _ _ h3
 |it v o hv ho hr h=>
  refine .it v o hv hd (hk.resv hr) (fun s p e=>?_)
  obtain⟨ob,h3,h4⟩:=hk.sh o _ e
  cases ob<;>first|exact h4.elim|skip
  exact h _ _ h3
 |cond v g d h h0 ih=>exact .cond v g d (fun e=>ih e (hd e)) h0
end
def D.imm:D→Bool
 | .agg _| .tup _| .fn _ _ _| .ref _ _ _ _ _| .ptr _ _ _ _| .mp _| .it _| .cond _ _=>false
 | _=>true
def Imm(rows:List (List D)):Prop:=∀e∈rows,e.all D.imm=true
mutual
inductive Up(st T:St):D→D→Prop
 |any (d:D):Up st T d .any
 |same (d:D):Up st T d d
 |OI (full:Bool) (n b:Nat) (hb:1≤b):Up st T .OI (.sl full n b [])
 |nref (full:Bool) (o g n b:Nat) (es:List (List D)) (h:T[o]? =some (some (.arr g n b es))):Up st T .OI (.ref full o g 0 0)
 |full (f:Bool) (n b:Nat) (es:List (List D)):Up st T (.sl true n b es) (.sl f n b es)
 |ref (full:Bool) (o g off len n b:Nat) (es:List (List D)) (rows:List (List D)) (h:st[o]? =some (some (.arr g n b es))) (hT:look T o=none) (hb:1≤b) (hi:Imm es)
  (hr:rows=(es.drop off).take len):Up st T (.ref full o g off len) (.sl false n b rows)
 |d6b (o g off len:Nat):Up st T (.ref true o g off len) (.ref false o g off len)
 |agg (cs cs':List D) (h:Ups st T cs cs'):Up st T (.agg cs) (.agg cs')
 |tup (cs cs':List D) (h:Ups st T cs cs') (hl:cs.all D.live=true):Up st T (.tup cs) (.tup cs')
 |cond (g:Bool) (d d':D) (h:Up st T d d'):Up st T (.cond g d) (.cond g d')
inductive Ups(st T:St):List D→List D→Prop
 |nil:Ups st T [] []
 |cons (d d':D) (l l':List D) (h:Up st T d d') (hl:Ups st T l l'):Ups st T (d::l) (d'::l')
end
theorem Ups.len{st T:St}:∀ {l l':List D},Ups st T l l'→l'.length=l.length
 | _,_,.nil=>rfl
 | _,_,.cons _ _ _ _ _ h=>by simp[h.len]
theorem Ups.get{st T:St}:∀ {l l':List D},Ups st T l l'→∀(j:Nat) (h:j<l.length) (h':j<l'.length),Up st T (l[j]) (l'[j])
 | _,_,.cons _ _ _ _ h _,0,_,_=>h
 | _,_,.cons _ _ _ _ _ h,j+1,hj,hj'=>h.get j (by simpa using hj) (by simpa using hj')
theorem Ups.refl{st T:St}:∀(l:List D),Ups st T l l
 | []=>.nil
 |d::l=>.cons d d l l (.same d) (Ups.refl l)
inductive ZX(st T:St):List (List D)→List (List D)→Prop
 |same (l:List (List D)):ZX st T l l
 |nil:ZX st T [] []
 |cons (e e':List D) (l l':List (List D)) (h:Ups st T e e') (hl:ZX st T l l'):ZX st T (e::l) (e'::l')
 |snoc (e e':List D) (l l':List (List D)) (hl:ZX st T l l') (h:Ups st T e e'):ZX st T (l++[e]) (l'++[e'])
theorem ZX.spec{st T:St}{l l':List (List D)}(h:ZX st T l l'):l'.length=l.length∧∀(j:Nat) (h:j<l.length) (h':j<l'.length),Ups st T (l[j]) (l'[j]):=by
 induction h with
 |same l=>exact⟨rfl,fun j _ _=>Ups.refl _⟩
 |nil=>exact⟨rfl,fun j h _=>absurd h (Nat.not_lt_zero _)⟩
 |cons e e' l l' h hl ih=>
  refine⟨by simp[ih.1],fun j hj hj'=>?_⟩
  cases j with
  |zero=>exact h
  |succ j=>exact ih.2 j (by simpa using hj) (by simpa using hj')
 |snoc e e' l l' hl h ih=>
  refine⟨by simp[ih.1],fun j hj hj'=>?_⟩
  by_cases hjl:j<l.length
  ·rw[List.getElem_append_left hjl,List.getElem_append_left (by rw[ih.1];exact hjl)]
   exact ih.2 j hjl _
  ·have:j=l.length:=by simp at hj;omega
   subst this
   have e1:(l++[e])[l.length]=e:=by simp
   have e2:(l'++[e'])[l.length]'hj'=e':=by rw[List.getElem_append_right (by omega)];simp
   rw[e1,e2];exact h
inductive i2O(st T:St):Ob→Ob→Prop
 |same (ob:Ob):i2O st T ob ob
 |arr (g n b:Nat) (es es':List (List D)) (h:ZX st T es es'):i2O st T (.arr g n b es) (.arr g n b es')
theorem i2O.sh{st T:St}{ob ob':Ob}(h:i2O st T ob ob'):i6X ob ob':=by
 cases h with
 |same=>cases ob<;>simp[i6X]
 |arr g n b es es' h=>exact⟨rfl,rfl,rfl,h.spec.1⟩
structure d9o(st T:St):Prop where
 len:T.length≤st.length
 obs:∀(o:Nat) (ob':Ob),T[o]? =some (some ob')→∃ob,st[o]? =some (some ob)∧i2O st T ob ob'
 sc:YO T.length T
theorem d9o.kill{st T:St}(h:d9o st T):d9K st T:=⟨h.len,fun o ob' e=>let ⟨ob,h1,h2⟩:=h.obs o ob' e;⟨ob,h1,h2.sh⟩⟩
section
variable {w:World} {μ:Mu} {st T:St}
theorem i6Y{v:Value}{d:D}(h:VR w μ st v d)(hi:d.imm=true)(h1:v.oneCell'=true):TR w (own μ st) v d:=by
 cases h with
 |any=>exact .any _ h1
 |tr h=>exact h
 | _=>cases hi
theorem VR.up(hs:Sim w μ st)(hk:d9K st T){v:Value}{d d':D}(hu:Up st T d d')(h:VR w μ st v d)(hd:D.sc T.length d'):VR w μ T v d':=by
 induction h generalizing d' with
 |any v=>cases hu with
  |any=>exact .any _
  |same=>exact .any _
 |tr h=>
  cases hu with
  |any=>exact .any _
  |same=>exact .tr (h.kill hk)
  |OI full n b hb=>cases h;exact .tr (.sl full n b [] none 0 0 (fun _ _=>undef) rfl (Nat.le_refl _) (fun _=>rfl) (by simp[top]) hb (fun e he=>by cases he) (.inl rfl) (fun i j hi=>absurd hi (Nat.not_lt_zero _)))
  |nref full o g n b es hT=>
   cases h
   refine .ref _ full o g 0 0 ⟨none,0,0,rfl⟩ (List.getElem?_eq_some_iff.1 hT).1 (by rw[hT];simp) (fun g' n' b' es' e=>?_) (fun n' b' es' e=>?_)
   ·rw[hT]at e;cases e;exact Nat.le_refl _
   ·exact⟨none,0,rfl,Nat.le_refl _,by omega,fun _=>rfl,.inl rfl⟩
  |full f n b es=>
   cases h.kill hk with
   |sl _ _ _ _ a len cap cv hlen hcap d2w hb hb1 hn ha hc=>exact .tr (.sl f n b es a len cap cv hlen hcap (fun _=>d2w rfl) hb hb1 hn ha hc)
  |ref=>cases h
  |d6b=>cases h
  |agg=>cases h
  |tup=>cases h
  |cond=>cases h
 |agg vs cs hs' hc ih=>
  cases hu with
  |any=>exact .any _
  |same=>exact VR.kill hk (.agg vs cs hs' hc) hd
  |agg _ cs' hu=>exact .agg vs cs' (by rw[hu.len];exact hs') fun j hj=>ih j (by rw[←hu.len];exact hj) (hu.get j _ hj) (Tm hd j hj)
 |tup vs cs hs' hc ih=>
  cases hu with
  |any=>exact .any _
  |same=>exact VR.kill hk (.tup vs cs hs' hc) hd
  |tup _ cs' hu hl=>
   exact .tup vs cs' (fun j hj _=>hs' j (by rw[←hu.len];exact hj) (List.all_eq_true.1 hl _ (List.getElem_mem _))) fun j hj=>ih j (by rw[←hu.len];exact hj) (hu.get j _ hj) (Tm hd j hj)
 |fn f vf vc first cap hf hc hfc hcc ih1 ih2=>
  cases hu with
  |any=>exact .any _
  |same=>exact VR.kill hk (.fn f vf vc first cap hf hc hfc hcc) hd
 |ref v full o g off len hv ho hr hg h=>
  cases hu with
  |any=>exact .any _
  |same=>exact VR.kill hk (.ref v full o g off len hv ho hr hg h) hd
  |d6b=>exact VR.kill hk (.ref v false o g off len hv ho hr hg fun n b es e=>by
   obtain⟨a,cap,h1,h2,h3,h4,h5⟩:=h n b es e
   exact⟨a,cap,h1,h2,h3,(fun hf=>by cases hf),h5⟩) hd
  |ref _ _ _ _ _ n b es rows hst hT hb hi d0f=>
   subst d0f
   obtain⟨a,cap,e1,e2,e3,e4,e5⟩:=h n b es hst
   subst e1
   have hA:d0b w μ st (μ o) n b es:=hs.obj o _ hst
   have hlen:((es.drop off).take len).length=len:=by simp;omega
   have hrow:∀i (hi:i<((es.drop off).take len).length),((es.drop off).take len)[i]=es[off+i]'(by rw[hlen]at hi;omega):=fun i hi=>by simp
   rcases hA.loc with⟨m0,e0⟩|⟨blk,base,c,ty,em,hh,hsz,hcell⟩
   ·subst e0
    have h0:len=0:=by simp at e3;omega
    subst h0
    refine .tr (.sl false n b _ a 0 cap (fun _ _=>undef) (by simp) e2 (fun hf=>by cases hf) (by simp) hb (fun e he=>by simp at he) (.inl (by simp)) (fun i j hi=>by simp at hi))
   ·have hcv:∀i j,∃u,∀(hi:i<len) (hj:j<n),c[base+((off+i)*n+j)]? =some u∧TR w (own μ T) u ((es[off+i]'(by omega))[j]'(by rw[hA.hn _ (List.getElem_mem _)];exact hj)):=fun i j=>by
     by_cases hc:i<len∧j<n
     ·obtain⟨u,h1,h2,h3⟩:=hcell (off+i) j (by omega) (by rw[hA.hn _ (List.getElem_mem _)];exact hc.2)
      refine⟨u,fun _ _=>⟨h1,?_⟩⟩
      have p0s:=hi (es[off+i]'(by omega)) (List.getElem_mem _)
      rw[List.all_eq_true]at p0s
      exact(i6Y h2 (p0s _ (List.getElem_mem _)) h3).kill hk
     ·exact⟨undef,fun hi hj=>absurd ⟨hi,hj⟩ hc⟩
    have p1s:∃cv:Nat→Nat→Value,∀i j (hi:i<len) (hj:j<n),c[base+((off+i)*n+j)]? =some (cv i j)∧TR w (own μ T) (cv i j) ((es[off+i]'(by omega))[j]'(by rw[hA.hn _ (List.getElem_mem _)];exact hj)):=
     ⟨fun i j=>Classical.choose (hcv i j),fun i j hi hj=>Classical.choose_spec (hcv i j) hi hj⟩
    obtain⟨cv,hcv⟩:=p1s
    have hlb:((es.drop off).take len).length*b≤top:=by
     rw[hlen]
     exact Nat.le_trans (Nat.mul_le_mul_right b (show len≤es.length by omega)) hA.i8L
    have hno:¬own μ T blk:=by
     rintro⟨o',ob',base',h1,h2⟩
     obtain⟨ob,h3,_⟩:=hk.sh o' ob' h1
     have:=hs.inj o o' _ _ blk base base' hst h3 em h2
     subst this
     rw[ZA.2 h1]at hT;cases hT
    refine .tr (.sl false n b _ a len cap cv hlen.symm e2 (fun hf=>by cases hf) hlb hb ?_ ?_ ?_)
    ·intro e he
     obtain⟨i,hi',e'⟩:=List.getElem_of_mem he
     rw[hrow i hi']at e'
     rw[←e'];exact hA.hn _ (List.getElem_mem _)
    ·by_cases h0:len=0
     ·subst h0;left;simp
     ·right
      rcases e5 with e5|⟨d1b,base',em',ea,c',ty',hh',hsz'⟩
      ·omega
      ·rw[em]at em';cases em'
       have hlt:blk<w.heap.size:=by
        rcases Nat.lt_or_ge blk w.heap.size with h|h
        ·exact h
        ·rw[Array.getElem?_eq_none h]at hh;cases hh
       refine⟨blk,base+off*n,ea,hlt,hno,fun i j hi' hj=>?_⟩
       rw[hlen]at hi'
       have:=(hcv i j hi' hj).1
       simp only[World.cell?, hh]
       rw[show base+off*n+(i*n+j)=base+((off+i)*n+j)by rw[Nat.add_mul];omega]
       simpa using this
    ·intro i j hi' hj
     have hi2:i<len:=by rw[hlen]at hi';exact hi'
     have hn2:(((es.drop off).take len)[i]).length=n:=by rw[hrow i hi'];exact hA.hn _ (List.getElem_mem _)
     have:=(hcv i j hi2 (by omega)).2
     have e:(((es.drop off).take len)[i])[j]=(es[off+i]'(by omega))[j]'(by rw[hA.hn _ (List.getElem_mem _)];omega):=by
      have:=hrow i hi'
      congr 1
     rw[e];exact this
 |ptr v o g i c hv ho hr hg h=>
  cases hu with
  |any=>exact .any _
  |same=>exact VR.kill hk (.ptr v o g i c hv ho hr hg h) hd
 |mp v o hv ho hr h1 h2=>
  cases hu with
  |any=>exact .any _
  |same=>exact VR.kill hk (.mp v o hv ho hr h1 h2) hd
 |it v o hv ho hr h=>
  cases hu with
  |any=>exact .any _
  |same=>exact VR.kill hk (.it v o hv ho hr h) hd
 |cond v g d h h0 ih=>
  cases hu with
  |any=>exact .any _
  |same=>exact VR.kill hk (.cond v g d h h0) hd
  |cond _ _ d' hu=>exact .cond v g d' (fun e=>ih e hu (hd e)) h0
end
section
variable {P:Program} {gl:Gl} {N n0:Nat} {keep:List Nat} {Q:AQ} {fr:Fr} {st:St} {c:Code} {w:World} {μ:Mu} {T:St}
theorem Sim.wk(hs:Sim w μ st)(hw:d9o st T):Sim w μ T:=by
 have hk:=hw.kill
 refine⟨fun o ob' h=>?_,fun o1 o2 ob1 ob2 blk b1 b2 h1 h2 m1 m2=>?_⟩
 ·obtain⟨ob,h1,h2⟩:=hw.obs o ob' h
  have hob:=hs.obj o ob h1
  have hsc:=hw.sc o ob' h
  cases h2 with
  |same=>
   cases ob' with
   |arr g n b es=>
    obtain⟨a1,a2,a3⟩:=(hob:d0b w μ st (μ o) n b es)
    refine(⟨a1,a2,?_⟩:d0b w μ T (μ o) n b es)
    rcases a3 with a3|⟨blk,base,cc,ty,em,hh,hsz,hc⟩
    ·exact .inl a3
    ·exact .inr ⟨blk,base,cc,ty,em,hh,hsz,fun i j hi hj=>let ⟨v,e,hv,h1⟩:=hc i j hi hj;⟨v,e,hv.kill hk (Tm (hsc _ (List.getElem_mem hi)) j hj),h1⟩⟩
   |mps ag es=>
    obtain⟨blk,ents,clock,ez,em,hh,hsz,hc,hx⟩:=(hob:ZG _ ag w μ _ (μ o) es).loc
    refine(⟨⟨blk,ents,clock,ez,em,hh,hsz,fun i hi=>?_,hx⟩⟩:ZG _ ag w μ T (μ o) es)
    obtain⟨e,e1,e2,e3⟩:=hc i hi
    refine⟨e,e1,e2,?_⟩
    have d7j:=hsc _ (hx.perm.mem_iff.1 (List.getElem_mem hi))
    cases ag with
    |true=>exact VR.kill hk e3 d7j
    |false=>obtain⟨d,a,b⟩:=e3;rw[a]at d7j;exact⟨d,a,b.kill hk d7j.1⟩
   |mpi ag k es=>
    obtain⟨blk,ents,clock,ez,em,hh,hsz,hc,hx⟩:=(hob:ZG _ ag w μ _ (μ o) es).loc
    refine(⟨⟨blk,ents,clock,ez,em,hh,hsz,fun i hi=>?_,hx⟩⟩:ZG _ ag w μ T (μ o) es)
    obtain⟨e,e1,e2,e3⟩:=hc i hi
    refine⟨e,e1,e2,?_⟩
    have d7j:=hsc _ (hx.perm.mem_iff.1 (List.getElem_mem hi))
    cases ag with
    |true=>exact VR.kill hk e3 d7j
    |false=>obtain⟨d,a,b⟩:=e3;rw[a]at d7j;exact⟨d,a,b.kill hk d7j.1⟩
   |sit=>exact hob
   |resv=>exact hob
  |arr g n b es es' hu=>
   obtain⟨u1,u2⟩:=hu.spec
   obtain⟨a1,a2,a3⟩:=(hob:d0b w μ st (μ o) n b es)
   refine(⟨by rw[u1];exact a1,fun e he=>?_,?_⟩:d0b w μ T (μ o) n b es')
   ·obtain⟨i,hi,e1⟩:=List.getElem_of_mem he
    rw[←e1,(u2 i (by omega) hi).len]
    exact a2 _ (List.getElem_mem _)
   ·rcases a3 with⟨a3,a4⟩|⟨blk,base,cc,ty,em,hh,hsz,hc⟩
    ·subst a4;left;exact⟨a3,List.eq_nil_of_length_eq_zero (by simpa using u1)⟩
    ·refine .inr ⟨blk,base,cc,ty,em,hh,by rw[u1];exact hsz,fun i j hi hj=>?_⟩
     have hu':=u2 i (by omega) hi
     obtain⟨v,e,hv,h1⟩:=hc i j (by omega) (by rw[←hu'.len];exact hj)
     exact⟨v,e,VR.up hs hk (hu'.get j _ hj) hv (Tm (hsc _ (List.getElem_mem hi)) j hj),h1⟩
 ·obtain⟨p3b,e1,_⟩:=hw.obs o1 ob1 h1
  obtain⟨p3c,e2,_⟩:=hw.obs o2 ob2 h2
  exact hs.inj o1 o2 _ _ blk b1 b2 e1 e2 m1 m2
theorem TV.sh{w':World}{m m':Option (Nat×Nat)}{a ob ob':Ob}(h:TV w w' m m' a ob)(hs:i6X ob ob'):TV w w' m m' a ob':=by
 cases ob<;>cases ob'<;>first|exact hs.elim|skip
 ·obtain⟨rfl,rfl,rfl,e⟩:=hs
  cases a<;>first|exact h|skip
  refine⟨h.1,fun hg=>?_⟩
  obtain⟨a1,a2,a3,a4,a5⟩:=h.2 hg
  exact⟨a1,a2,by rw[e];exact a3,a4,a5⟩
 ·cases a<;>first|exact h|skip
  exact⟨h.1.trans (Eq.symm hs),h.2⟩
 ·cases a<;>first|exact h|skip
  exact⟨h.1.trans hs.1.symm,h.2.1.trans hs.2.symm,h.2.2⟩
 ·cases a<;>exact h
 ·exact h
theorem Step.wk{w0:World}{μ0:Mu}{st0:St}(hl:st0.length≤T.length)(hw:d9o st T)(h:Step w0 μ0 st0 w μ st):Step w0 μ0 st0 w μ T where
 size:=h.size
 os:=h.os
 output:=h.output
 tape:=h.tape
 imm:=h.imm
 own:=fun blk hb=>h.own blk (hw.kill.own hb)
 len:=hl
 keep:=fun o ob' ho h1=>by
  obtain⟨ob,e1,e2⟩:=hw.obs o ob' h1
  obtain⟨a,a1,a2⟩:=h.keep o ob ho e1
  exact⟨a,a1,a2.sh e2.sh⟩
def d6H(st T:St)(fr:Fr):Fr→Prop
 | []=>True
 |(t,d)::r=>Up st T (fr.get t) d∧d6H st T fr r
theorem d6H.get:∀ {F:Fr},d6H st T fr F→∀t,Up st T (fr.get t) (F.get t)
 | [],_,_=>.any _
 |(k,d)::r,h,t=>by
  simp only[Fr.get]
  split
  ·rename_i e;subst e;exact h.1
  ·exact h.2.get t
structure Bk(n0:Nat)(F:Fr)(T:St)(fr:Fr)(st:St):Prop where
 len:n0≤T.length
 wk:d9o st T
 up:d6H st T fr F
 sc:Fr.sc T.length F
theorem i6Z{F:Fr}(hb:Bk n0 F T fr st)(h:AWp P gl N n0 keep c Q F T):AWp P gl N n0 keep c Q fr st:=
 fun w0 μ0 st0 hl0 a w ⟨μ,hc⟩=>h w0 μ0 st0 hl0 a w ⟨μ,hc.sim.wk hb.wk,d3c hc.glob (fun _ h=>hb.wk.kill.own h),
  fun t=>VR.up hc.sim hb.wk.kill (hb.up.get t) (hc.fr t) (Fr.i0m F hb.sc t),hc.size,hc.defers,Step.wk (by rw[hl0];exact hb.len) hb.wk hc.step⟩
def fin(n0:Nat)(R:D→St→Prop)(d:D)(st:St):Prop:=∃T d',n0≤T.length∧d9o st T∧Up st T d d'∧D.sc T.length d'∧R d' T
@[congr] theorem i7a{n:Nat}{st st':St}{R:D→St→Prop}{d d':D}(h:d=d')(h2:st=st'):fin n R d st=fin n R d' st':=by rw[h,h2]
def i8y(P:Program)(rs:List ResultVar)(n0:Nat)(R:D→St→Prop):AQ
 | .exit _,_,_=>False
 | _,fr,st=>i5T P fr st rs∧fin n0 R (rsD P fr st rs) st
theorem i4Q{f:FuncId}{fn:Func}{c:Code}{args:List D}{R:D→St→Prop}{rs:List ResultVar}(keep:List Nat)(hf:P.funcs[f]? =some fn)(hb:fn.body=some c)(hN:fn.ntmps=N)(hr:fn.results.toList=rs)
 (hname:(fn.name != "runtime.NumGoroutine")=true) (hlen:Nat.ble args.length N=true)
 (h:YO st.length st→AWp P gl N st.length keep c (i8y P rs st.length R) (d4W 0 args) st):Spec P gl f args st R:=by
 subst hN hr
 have hlen:=Nat.le_of_ble_eq_true hlen
 refine⟨trivial,fun w μ vs hs hg hsz hvs=>.inl ⟨by unfold WM;rw[hf];simp[hb,hname],?_⟩⟩
 refine calls_of_wp hf hb ?_
 have hc:d0p gl fn.ntmps w μ st (d4W 0 args) st { tmps:=vs++Array.replicate (fn.ntmps-vs.size) undef,defers:=[] } w μ:=by
  refine⟨hs,hg,fun t=>?_,by simp;omega,rfl,Step.refl _ _ _⟩
  rw[d5U]
  split
  ·rename_i ht
   have hts:t<vs.size:=by rw[hsz];omega
   have:=hvs t (by omega)
   rw[Array.getD_eq_getD_getElem?, Array.getElem?_append_left hts, ←Array.getD_eq_getD_getElem?]
   simpa using this
  ·exact .any _
 refine wp_mono (h hs.sc w μ st rfl _ w ⟨μ,hc⟩) fun e a' w' hq=>?_
 have fin:∀fr' st',i8y P fn.results.toList st.length R .ret fr' st'→d5R gl fn.ntmps w μ st fr' st' a' w'→a'.defers=[]∧∃v,(results fn a'.tmps).run P w'= .ok v w'∧
  ∃v' d i4o μ',Ending.returned v= .returned v'∧R d i4o∧Sim w' μ' i4o∧Step w μ st w' μ' i4o∧VR w' μ' i4o v' d:=by
  rintro fr' st' ⟨p1t,T,d',hle,hw,hu,hsc,hR⟩ ⟨μ',hc'⟩
  obtain⟨v,h1,h2⟩:=i0n hc'.sim hc'.fr (d7T _ p1t)
  exact⟨hc'.defers,v,h1,v,d',T,μ',rfl,hR,hc'.sim.wk hw,Step.wk hle hw hc'.step,VR.up hc'.sim hw.kill hu h2 hsc⟩
 cases e with
 |normal=>obtain⟨fr',st',h1,h2⟩:=hq;exact fin fr' st' h1 h2
 |ret=>obtain⟨fr',st',h1,h2⟩:=hq;exact fin fr' st' h1 h2
 |exit id=>obtain⟨fr',st',h1,h2⟩:=hq;exact h1.elim
 |goto=>exact hq.elim
 |panic=>exact hq.elim
 |outgrown=>exact hq.elim
inductive UpL(st T:St):St→St→Prop
 |nil (l:St):UpL st T l []
 |dead (x:Option Ob) (l l':St) (h:UpL st T l l'):UpL st T (x::l) (none::l')
 |live (ob ob':Ob) (l l':St) (h:i2O st T ob ob') (hl:UpL st T l l'):UpL st T (some ob::l) (some ob'::l')
theorem UpL.lv{ob:Ob}{l l2:St}(h:UpL st T l l2):UpL st T (some ob::l) (some ob::l2):=.live _ _ _ _ (.same _) h
theorem i2O.s{ob:Ob}:i2O st T ob ob:=.same _
theorem Up.s{d:D}:Up st T d d:=.same _
theorem UpL.len:∀ {l l':St},UpL st T l l'→l'.length≤l.length
 | _,_,.nil _=>Nat.zero_le _
 | _,_,.dead _ _ _ h=>by simp[h.len]
 | _,_,.live _ _ _ _ _ h=>by simp[h.len]
theorem UpL.get:∀ {l l':St},UpL st T l l'→∀(j:Nat) (ob':Ob),l'[j]? =some (some ob')→∃ob,l[j]? =some (some ob)∧i2O st T ob ob'
 | _,_,.nil _,j,ob',h=>by simp at h
 | _,_,.dead _ _ _ h,0,ob',e=>by simp at e
 | _,_,.dead _ _ _ h,j+1,ob',e=>by simpa using h.get j ob' (by simpa using e)
 | _,_,.live ob ob2 _ _ h _,0,ob',e=>by simp at e;subst e;exact⟨ob,rfl,h⟩
 | _,_,.live _ _ _ _ _ h,j+1,ob',e=>by simpa using h.get j ob' (by simpa using e)
def ScL(n:Nat):St→Prop
 | []=>True
 |none::l=>ScL n l
 |some ob::l=>ob.sc n∧ScL n l
theorem ScL.get{n:Nat}:∀ {l:St},ScL n l→∀(j:Nat) (ob:Ob),l[j]? =some (some ob)→ob.sc n
 |none::l,h,0,ob,e=>by simp at e
 |some a::l,h,0,ob,e=>by simp at e;subst e;exact h.1
 |none::l,h,j+1,ob,e=>ScL.get (l:=l) h j ob (by simpa using e)
 |some a::l,h,j+1,ob,e=>ScL.get (l:=l) h.2 j ob (by simpa using e)
end
mutual
theorem D.i0N{n m:Nat}(h:n≤m):∀(d:D),D.sc n d→D.sc m d
 | .agg cs,hd=>D.d1K h cs hd
 | .tup cs,hd=>D.d1K h cs hd
 | .fn _ a b,hd=>⟨D.d1K h a hd.1,D.d1K h b hd.2⟩
 | .ref _ o _ _ _,hd=>(Nat.lt_of_lt_of_le hd h:o<m)
 | .ptr o _ _ _,hd=>(Nat.lt_of_lt_of_le hd h:o<m)
 | .mp o,hd=>(Nat.lt_of_lt_of_le hd h:o<m)
 | .it o,hd=>(Nat.lt_of_lt_of_le hd h:o<m)
 | .cond _ d,hd=>fun e=>D.i0N h d (hd e)
 | .any,_=>trivial
 | .bool _,_=>trivial
 | .int _ _,_=>trivial
 | .str _,_=>trivial
 | .d2v,_=>trivial
 | .OI,_=>trivial
 | .WZ,_=>trivial
 | .Xu,_=>trivial
 | .sl _ _ _ _,_=>trivial
 | .d1a _,_=>trivial
theorem D.d1K{n m:Nat}(h:n≤m):∀(l:List D),D.scs n l→D.scs m l
 | [],_=>trivial
 |d::l,hd=>⟨D.i0N h d hd.1,D.d1K h l hd.2⟩
end
theorem Ob.i0N{n m:Nat}(h:n≤m){ob:Ob}(hs:ob.sc n):ob.sc m:=by
 cases ob with
 |arr=>exact fun e he=>D.d1K h _ (hs e he)
 |mps=>exact fun e he=>D.d1K h _ (hs e he)
 |mpi=>exact fun e he=>D.d1K h _ (hs e he)
 |sit=>trivial
 |resv=>trivial
theorem i0O{d:D}(h:d.imm=true)(n:Nat):D.sc n d:=by cases d<;>first|trivial|cases h
theorem Imm.sc{rows:List (List D)}(h:Imm rows)(n:Nat):∀e∈rows,D.scs n e:=fun e he=>
 d0A fun j hj=>i0O (List.all_eq_true.1 (h e he) _ (List.getElem_mem _)) n
theorem d3i{s l l':St}(hs:YO s.length s)(hu:UpL (s++l) (s++l') l l')(hl:ScL (s++l').length l'):d9o (s++l) (s++l'):=by
 refine⟨by simp;exact hu.len,fun o ob' h=>?_,fun o ob' h=>?_⟩
 ·rcases Nat.lt_or_ge o s.length with ho|ho
  ·rw[List.getElem?_append_left ho]at h
   exact⟨ob',by rw[List.getElem?_append_left ho];exact h,.same _⟩
  ·rw[List.getElem?_append_right ho]at h
   obtain⟨ob,h1,h2⟩:=hu.get _ _ h
   exact⟨ob,by rw[List.getElem?_append_right ho];exact h1,h2⟩
 ·rcases Nat.lt_or_ge o s.length with ho|ho
  ·rw[List.getElem?_append_left ho]at h
   exact Ob.i0N (by simp) (hs o ob' h)
  ·rw[List.getElem?_append_right ho]at h
   exact hl.get _ _ h
theorem d1L{s l:St}(hs:YO s.length s):d9o (s++l) s:=by
 have:=d3i (l:=l) (l':=[]) hs (.nil l) trivial
 rwa[List.append_nil]at this
theorem d5d{s:St}(hs:YO s.length s):d9o s s:=by
 have:=d1L (l:=[]) hs
 rwa[List.append_nil]at this
section
variable {P:Program} {gl:Gl} {N n0:Nat} {keep:List Nat} {Q:AQ} {fr:Fr} {st:St} {c:Code} {w:World} {μ:Mu} {T:St}
theorem d9K.refl(st:St):d9K st st:=⟨Nat.le_refl _,fun o ob h=>⟨ob,h,by cases ob<;>simp[i6X]⟩⟩
theorem Spec.up{f:FuncId}{args args':List D}{R:D→St→Prop}(h:Spec P gl f args' st R)(hu:Ups st st args args')(hsc:D.scs st.length args'):Spec P gl f args st R:=
 ⟨h.1,fun w μ vs h1 h2 h3 h4=>h.2 w μ vs h1 h2 (h3.trans hu.len.symm) fun j hj=>VR.up h1 (d9K.refl st) (hu.get j (by rw[←hu.len];exact hj) hj) (h4 j (by rw[←hu.len];exact hj)) (Tm hsc j hj)⟩
theorem Pure.up{f:FuncId}{args args':List D}{r:D}(h:Pure P gl f args' r)(hu:∀st,Ups st st args args')(hi:args'.all D.imm=true∨∀n,D.scs n args'):Pure P gl f args r:=fun st=>
 (h st).up (hu st) (hi.elim (fun hi=>d0A fun j _=>i0O (List.all_eq_true.1 hi _ (List.getElem_mem _)) _) (fun h=>h _))
theorem i7b(hs:Sim w μ st)(n b:Nat):
 Sim w (upd μ st.length none) (st++[some (.arr 0 n b [])])∧Step w μ st w (upd μ st.length none) (st++[some (.arr 0 n b [])]):=by
 have look:∀o ob,(st++[some (Ob.arr 0 n b [])])[o]? =some (some ob)→(o<st.length∧st[o]? =some (some ob))∨(o=st.length∧ob= .arr 0 n b []):=by
  intro o ob h
  rcases Nat.lt_or_ge o st.length with hl|hl
  ·rw[List.getElem?_append_left hl]at h;exact .inl ⟨hl,h⟩
  ·rw[List.getElem?_append_right hl]at h
   have:o-st.length=0:=by
    rcases Nat.eq_zero_or_pos (o-st.length)with h0|h0
    ·exact h0
    ·rw[List.getElem?_eq_none (by simp;omega)]at h;cases h
   rw[this]at h
   simp at h
   exact .inr ⟨by omega,h.symm⟩
 have step:Step w μ st w (upd μ st.length none) (st++[some (.arr 0 n b [])]):=by
  refine⟨Nat.le_refl _,rfl,rfl,⟨rfl,Nat.le_refl _⟩,fun _ _ _=>rfl,fun blk hw=>?_,by simp,fun o ob hl h=>?_⟩
  ·obtain⟨o,ob,base,h,hm⟩:=hw
   rcases look o ob h with⟨hl,h⟩|⟨e,_⟩
   ·rw[Ru μ _ _ (by omega)]at hm;exact .inl ⟨o,ob,base,h,hm⟩
   ·subst e;rw[Pv]at hm;cases hm
  ·rw[List.getElem?_append_left hl]at h
   refine⟨ob,h,?_⟩
   rw[Ru μ _ _ (by omega)]
   exact TV.refl _ _ _
 refine⟨⟨fun o ob h=>?_,fun o1 o2 ob1 ob2 blk b1 b2 h1 h2 m1 m2=>?_⟩,step⟩
 ·rcases look o ob h with⟨hl,h⟩|⟨e,e2⟩
  ·rw[Ru μ _ _ (by omega)]
   exact(hs.obj o ob h).step step (fun _ _ _=>rfl)
  ·subst e;subst e2
   exact(⟨by simp[top],fun e he=>(by cases he),.inl ⟨Pv _ _ _,rfl⟩⟩:d0b w _ _ _ n b [])
 ·rcases look o1 ob1 h1 with⟨l1,h1⟩|⟨e,_⟩
  ·rcases look o2 ob2 h2 with⟨l2,h2⟩|⟨e,_⟩
   ·rw[Ru μ _ _ (by omega)]at m1 m2
    exact hs.inj _ _ _ _ _ _ _ h1 h2 m1 m2
   ·subst e;rw[Pv]at m2;cases m2
  ·subst e;rw[Pv]at m1;cases m1
theorem RO(n b:Nat)(h:AWp P gl N n0 keep c Q fr (st++[some (.arr 0 n b [])])):AWp P gl N n0 keep c Q fr st:=
 fun w0 μ0 st0 hl0 a w ⟨_,hc⟩=>h w0 μ0 st0 hl0 a w (let ⟨k1,k2⟩:=i7b hc.sim n b;⟨_,k1,hc.glob.step k2,hc.fr.step k2,hc.size,hc.defers,hc.step.trans k2⟩)
theorem d5e{s l:St}{d d':D}{R:D→St→Prop}(hsc:YO s.length s)(hu:Up (s++l) s d d')(hd:D.sc s.length d')(h:R d' s):fin s.length R d (s++l):=
 ⟨s,d',Nat.le_refl _,d1L hsc,hu,hd,h⟩
end
theorem d1o{s t:St}{k:Nat}:(s++t)[s.length+k]? =t[k]? :=by
 rw[List.getElem?_append_right (by omega)];congr 1;omega
theorem d9L{s:St}{k:Nat}:look s (s.length+k)=none:=by
 unfold look;rw[List.getElem?_eq_none (by omega)];rfl
attribute [go_sem] i8y
section
variable {P:Program} {gl:Gl} {N n0:Nat} {keep:List Nat} {Q:AQ} {fr:Fr} {st:St}
theorem i0P{w:World}{t e:TypeId}(hu:P.underlying t=some (.slice e))(a:Option Addr)(l c:Nat)(ox oy:Operand):
 (do eqGuard .eql t ox oy (.slice a l c) (.slice none 0 0);binOp .eql t (.slice a l c) (.slice none 0 0):Sem Value).run P w= .ok (.bool a.isNone) w:=by
 have h1:(eqGuard .eql t ox oy (.slice a l c) (.slice none 0 0)).run P w= .ok () w:=by unfold eqGuard;simp
 have h2':∀d,(Op.equalIn (d+1) t (.slice a l c) (.slice none 0 0)).run P w= .ok a.isNone w:=fun d=>by
  cases a<;>simp[Op.equalIn,run_underlying hu]
 have h2:(Op.equalIn 10000 t (.slice a l c) (.slice none 0 0)).run P w= .ok a.isNone w:=h2' 9999
 simp only[Sem.run_bind,h1,Result.andThen_ok,binOp,Op.equal,Op.maxDepth,h2]
 rfl
theorem d6c{id:Nat}{x a b:Nat}{t:TypeId}{ty1 ty2 ty3:TypeId}{p1 p2:String}{e1 e2:Array Edge}{f:Bool}{n bb:Nat}{es:List (List D)}
 (hx:fr.get x= .sl f n bb es) (hk:∃e,(OD P t).k= .slice e) (ha:a<N) (hb:b<N)
 (h:∀c:Bool,(c=true→es=[])→Q .normal (Fr.only keep ((fr.put a (.sl f n bb es)).put b (.bool c))) st):
 AWp P gl N n0 keep (.region id #[⟨some a,.move (.tmp x),ty1,p1,e1,none⟩,⟨some b,.binOp .eql t (.tmp a) (.const (.slice none 0 0)) ty3,ty2,p2,e2,none⟩] false) Q fr st:=by
 intro w0 μ0 st0 hl act w ⟨μ,hc⟩
 obtain⟨e,hk⟩:=hk
 have hu:=TB hk
 refine wp_region ?_
 have hr:List.range 2=[0,1]:=rfl
 show wpOps P _ _ (List.range 2) act w
 rw[hr,wpOps_cons]
 obtain⟨nx,v,w',μ',h1,h2,h3⟩:=d7Y (P:=P) (q:=0) (o:=⟨some a,.move (.tmp x),ty1,p1,e1,none⟩) hc (by simp only[aop,eok,ev,hx,d4U]) ha (fun h=>by cases h)
 have hd:(aop P gl true (.move (.tmp x)) fr (look st) 0).d= .sl f n bb es:=by simp only[aop,ev1,ev,hx,strip]
 have hst:(aop P gl true (.move (.tmp x)) fr (look st) 0).app 0 st=st:=rfl
 simp only[hst,hd]at h3
 have second:wpOps P #[⟨some a,.move (.tmp x),ty1,p1,e1,none⟩,⟨some b,.binOp .eql t (.tmp a) (.const (.slice none 0 0)) ty3,ty2,p2,e2,none⟩] (cq gl N w0 μ0 st0 Q) [1] (act.put (some a) v) w':=by
  rw[wpOps_cons]
  have hva:=h3.fr a
  simp only[Fr.Ye,Fr.d2U,if_pos]at hva
  have hv:∃ad l c,(act.put (some a) v).tmps.getD a undef= .slice ad l c∧(ad=none→es=[]):=by
   generalize (act.put (some a) v).tmps.getD a undef=u at hva
   cases hva with
   |tr h=>cases h with
    |sl _ _ _ _ ad len cap cv _ _ _ _ _ _ ha' _=>
     refine⟨ad,len,cap,rfl,fun e=>?_⟩
     rcases ha' with h|⟨_,_,h,_⟩
     ·exact h
     ·rw[e]at h;cases h
  obtain⟨ad,l,c,hv1,hv2⟩:=hv
  have hrun:=i0P (w:=w') hu ad l c (.tmp a) (.const (.slice none 0 0))
  have hex:(execOp (act.put (some a) v).eval ⟨some b,.binOp .eql t (.tmp a) (.const (.slice none 0 0)) ty3,ty2,p2,e2,none⟩).run P w'= .ok (.value (.bool ad.isNone)) w':=by
   have e1:(act.put (some a) v).eval (.tmp a)= .slice ad l c:=hv1
   have:execOp (act.put (some a) v).eval ⟨some b,.binOp .eql t (.tmp a) (.const (.slice none 0 0)) ty3,ty2,p2,e2,none⟩=
    (do pure (.value (←(do eqGuard .eql t (.tmp a) (.const (.slice none 0 0)) ((act.put (some a) v).eval (.tmp a)) (.slice none 0 0);binOp .eql t ((act.put (some a) v).eval (.tmp a)) (.slice none 0 0):Sem Value)))):=rfl
   rw[this,e1,Sem.run_bind,hrun];rfl
  have d9p:d0p gl N w0 μ0 st0 ((fr.put a (.sl f n bb es)).Ye (some b) (.bool ad.isNone)) st ((act.put (some a) v).put (some b) (.bool ad.isNone)) w' μ':=
   ⟨h3.sim,h3.glob,h3.fr.put (Rv _ _ _ _) (by rw[h3.size];exact hb),by simp[Act.put,h3.size];exact hc.size,by simpa[Act.put]using h3.defers,h3.step⟩
  simp only[wpOp,List.getElem?_toArray,List.getElem?_cons_succ,List.getElem?_cons_zero,Region.wanted,if_true]
  left
  unfold Oper.wp
  rw[hex]
  exact⟨_,_,h ad.isNone (fun e=>hv2 (by simpa using e)),μ',d9p.sim,d9p.glob,d9p.fr.only keep,d9p.size,d9p.defers,d9p.step⟩
 simp only[wpOp,List.getElem?_toArray,List.getElem?_cons_succ,List.getElem?_cons_zero,Region.wanted,if_true]
 left
 unfold Oper.wp
 rw[h1]
 rcases h2 with rfl|⟨rfl,rfl⟩<;>exact second
end
def wr(k:IntKind)(n:Int):Int:=k.wrap n
def get{α:Type}[Inhabited α](l:List α)(k:Nat):α:=l.getD k default
def chk{α:Type}(p:Prop)[Decidable p](x:Option α):Option α:=if p then x else none
def Tg{α β:Type}(a:α)(f:α→Option β):Option β:=f a
def gd{α:Type}(G:Bool)(x:Option α)(d:α):Option α:=bif G then x else some d
inductive Ctl(ρ σ τ:Type) where
 |nxt (s:σ)
 |brk (t:τ)
 |ret (x:ρ)
inductive Ex(ρ τ:Type) where
 |nxt (t:τ)
 |ret (x:ρ)
def Pg{ρ τ:Type}(x:Option (Ex ρ τ))(k:τ→Option ρ):Option ρ:=
 match x with
 |none=>none
 |some (.nxt t)=>k t
 |some (.ret r)=>some r
def TL{ρ σ τ:Type}(body:σ→Option (Ctl ρ σ τ)):Nat→σ→Option (Ex ρ τ)
 |0,_=>none
 |n+1,s=>match body s with
  |none=>none
  |some (.nxt s')=>TL body n s'
  |some (.brk t)=>some (.nxt t)
  |some (.ret x)=>some (.ret x)
def SB{ρ σ:Type}(body:Nat→σ→Option (Ctl ρ σ σ)):Nat→Nat→σ→Option (Ex ρ σ)
 |0,_,s=>some (.nxt s)
 |m+1,k,s=>match body k s with
  |none=>none
  |some (.nxt s')=>SB body m (k+1) s'
  |some (.brk s')=>some (.nxt s')
  |some (.ret x)=>some (.ret x)
def Pr{ρ σ:Type}(body:Nat→σ→Option (Ctl ρ σ σ))(n:Nat)(s:σ):Option (Ex ρ σ):=SB body n 0 s
section
variable {α β ρ σ τ:Type}
theorem i3U{p:Prop}[Decidable p]{x:Option α}{e:α}(h:chk p x=some e):p∧x=some e:=by
 unfold chk at h
 split at h
 ·rename_i hp;exact⟨hp,h⟩
 ·cases h
theorem d3j{p:Prop}[Decidable p]{x:Option α}(hp:p):chk p x=x:=if_pos hp
theorem Xg{a:α}{f:α→Option β}{e:β}(h:Tg a f=some e):∃y,y=a∧f y=some e:=⟨a,rfl,h⟩
theorem Rs{x:Option α}{f:α→Option β}{e:β}(h:x.bind f=some e):∃v,x=some v∧f v=some e:=Option.bind_eq_some_iff.1 h
theorem i7c{c:Bool}{a b:Option α}{e:α}(h:(bif c then a else b)=some e)(hc:c=true):a=some e:=by subst hc;exact h
theorem i7d{c:Bool}{a b:Option α}{e:α}(h:(bif c then a else b)=some e)(hc:c=false):b=some e:=by subst hc;exact h
theorem d5D{G:Bool}{x:Option α}{d v:α}(h:gd G x d=some v)(hG:G=true):x=some v:=by subst hG;exact h
theorem p1u{G:Bool}{x:Option α}{d v:α}(h:gd G x d=some v)(hG:G=false):v=d:=by subst hG;cases h;rfl
end
def rows{α:Type}(E:α→List D)(l:List α):List (List D):=l.map E
class XW{α:Type}(E:α→List D)(n:outParam Nat):Prop where
 len:∀x,(E x).length=n
 one:∀x,(E x).all D.one=true
 imm:∀x,(E x).all D.imm=true
def bytesOf(s:Bs):List Int:=s.map fun c=>(c.toNat:Int)
def Tw(x:Int):List D:=[.int .i64 x]
def i8z(x:Int):List D:=[.int .u64 x]
def i8A(x:Int):List D:=[.int .i32 x]
def u8c(x:Int):List D:=[.int .u8 x]
def d7q(x:Bool):List D:=[.bool x]
def OC(x:Bs):List D:=[.str x]
def slc{α:Type}(n b:Nat)(E:α→List D)(x:List α):List D:=[.sl false n b (rows E x)]
instance:XW Tw 1:=⟨fun _=>rfl,fun _=>rfl,fun _=>rfl⟩
instance:XW i8z 1:=⟨fun _=>rfl,fun _=>rfl,fun _=>rfl⟩
instance:XW i8A 1:=⟨fun _=>rfl,fun _=>rfl,fun _=>rfl⟩
instance:XW u8c 1:=⟨fun _=>rfl,fun _=>rfl,fun _=>rfl⟩
instance:XW d7q 1:=⟨fun _=>rfl,fun _=>rfl,fun _=>rfl⟩
instance:XW OC 1:=⟨fun _=>rfl,fun _=>rfl,fun _=>rfl⟩
instance{α:Type}{n b:Nat}{E:α→List D}:XW (slc n b E) 1:=⟨fun _=>rfl,fun _=>rfl,fun _=>rfl⟩
section
variable {α:Type} {E:α→List D} {n:Nat}
theorem d1M(l:List α):(rows E l).length=l.length:=by simp[rows]
theorem i4R(x:α)(l:List α):rows E (x::l)=E x::rows E l:=rfl
theorem Pp(l m:List α):rows E l++rows E m=rows E (l++m):=by simp[rows]
theorem i7e(l:List α)(k:Nat):(rows E l).take k=rows E (l.take k):=by simp[rows,List.map_take]
theorem i7f(l:List α)(k:Nat):(rows E l).drop k=rows E (l.drop k):=by simp[rows,List.map_drop]
theorem i7g(l:List α):l.take l.length=l:=List.take_length
theorem QU[Inhabited α](l:List α)(k:Nat):(rows E l).getD k (E default)=E (get l k):=by
 simp only[rows,List.getD_eq_getElem?_getD,get,List.getElem?_map]
 cases l[k]? <;>rfl
theorem p1v[Inhabited α]{l:List α}{k:Nat}{d:List D}(h:k<l.length):(rows E l).getD k d=E (get l k):=by
 simp[rows,get,h]
theorem YP[h:XW E n](l:List α):Imm (rows E l):=by
 intro e he
 obtain⟨s,_,rfl⟩:=List.mem_map.1 he
 exact h.imm s
theorem i8B[h:XW E n](l:List α)(m:Nat):(∀e∈rows E l,D.scs m e)=True:=eq_true (Imm.sc (YP l) m)
theorem i9k(x:Int):Tw x=[.int .i64 x]:=rfl
theorem i9l(x:Int):i8z x=[.int .u64 x]:=rfl
theorem i9m(x:Int):i8A x=[.int .i32 x]:=rfl
theorem p0t(x:Int):u8c x=[.int .u8 x]:=rfl
theorem i8C(x:Bool):d7q x=[.bool x]:=rfl
theorem i9n(x:Bs):OC x=[.str x]:=rfl
theorem p0u{a b:Nat}(x:List α):slc a b E x=[.sl false a b (rows E x)]:=rfl
theorem i9o(l:List Int)(k:Nat):(rows Tw l).getD k [.int .i64 0]=[.int .i64 (get l k)]:=QU (E:=Tw) l k
theorem i9p(l:List Int)(k:Nat):(rows i8z l).getD k [.int .u64 0]=[.int .u64 (get l k)]:=QU (E:=i8z) l k
theorem i9q(l:List Int)(k:Nat):(rows i8A l).getD k [.int .i32 0]=[.int .i32 (get l k)]:=QU (E:=i8A) l k
theorem p0v(l:List Int)(k:Nat):(rows u8c l).getD k [.int .u8 0]=[.int .u8 (get l k)]:=QU (E:=u8c) l k
theorem i8D(l:List Bool)(k:Nat):(rows d7q l).getD k [.bool false]=[.bool (get l k)]:=QU (E:=d7q) l k
theorem i9r(l:List Bs)(k:Nat):(rows OC l).getD k [.str []]=[.str (get l k)]:=QU (E:=OC) l k
theorem p0w{a b:Nat}(l:List (List α))(k:Nat):(rows (slc a b E) l).getD k [.sl false a b []]=[.sl false a b (rows E (get l k))]:=QU (E:=slc a b E) l k
end
theorem i3V(s:Bs):Ve s=rows u8c (bytesOf s):=by simp[Ve,rows,bytesOf,u8c]
def mrw{κ α:Type}(E:α→List D)(m:List (κ×α)):List (κ×List D):=m.map fun p=>(p.1,E p.2)
theorem i9s{κ α:Type}{E:α→List D}(m:List (κ×α)):(mrw E m).length=m.length:=by simp[mrw]
theorem i7h{κ α:Type}[DecidableEq κ]{E:α→List D}(k:κ)(m:List (κ×α)):assoc k (mrw E m)=(assoc k m).map E:=by
 induction m with
 |nil=>rfl
 |cons p m ih=>
  obtain⟨a,v⟩:=p
  simp only[mrw,List.map_cons,assoc]at ih⊢
  split
  ·rfl
  ·exact ih
theorem XY{κ α:Type}[DecidableEq κ]{E:α→List D}(k:κ)(v:α)(m:List (κ×α)):OU k (E v) (mrw E m)=mrw E (OU k v m):=by
 induction m with
 |nil=>rfl
 |cons p m ih=>
  obtain⟨a,u⟩:=p
  simp only[mrw,List.map_cons,OU]at ih⊢
  split
  ·rfl
  ·simp only[List.map_cons];rw[ih]
theorem i4S{a b:Nat}{z dd:List D}{o:Option Int}:Vd ⟨a,b,z,dd,some (.int .i64 0),.int .i64⟩ (o.map Tw)= .int .i64 (o.getD default):=by cases o<;>rfl
theorem i3W{a b:Nat}{z dd:List D}{o:Option Bool}:Vd ⟨a,b,z,dd,some (.bool false),.bool⟩ (o.map d7q)= .bool (o.getD default):=by cases o<;>rfl
theorem i4T{a b:Nat}{z dd:List D}{o:Option Bs}:Vd ⟨a,b,z,dd,some (.str []),.str⟩ (o.map OC)= .str (o.getD default):=by cases o<;>rfl
theorem i9t{κ α:Type}{E:α→List D}{n:Nat}[h:XW E n](l:List (κ×α))(m:Nat):(∀(a:κ) (b:List D),(a,b)∈mrw E l→D.scs m b)=True:=by
 refine eq_true fun a b hb=>?_
 obtain⟨⟨x,y⟩,h1,h2⟩:=List.mem_map.1 hb
 cases h2
 exact d0A fun j hj=>i0O (List.all_eq_true.1 (h.imm y) _ (List.getElem_mem _)) m
section
variable {P:Program} {gl:Gl} {N n0:Nat} {keep:List Nat} {Q:AQ} {fr:Fr} {st:St}
theorem Wr{c:Code}(h:AWp P gl N n0 keep c Q fr st):AWp P gl N n0 keep (.scope c) Q fr st:=
 fun w0 μ0 st0 hl a w hc=>wp_scope_straight (wp_mono (h w0 μ0 st0 hl a w hc) fun e a' w' hq=>by
  cases e<;>exact hq)
theorem Ws{l:Nat}(h:Q .normal fr st):AWp P gl N n0 keep (.label l) Q fr st:=
 fun w0 μ0 st0 hl a w hc=>wp_label ⟨fr,st,h,hc⟩
end
theorem i2P{α:Type}(l:List α)(k:Nat):(l.drop k).take (l.length-k)=l.drop k:=List.take_of_length_le (by rw[List.length_drop];exact Nat.le_refl _)
theorem i7i{st:St}(a b:Nat):st.length+a+b=st.length+(a+b):=Nat.add_assoc _ _ _
theorem i7j{G:Bool}:d6G G True=True:=by simp[d6G]
theorem i8E{G:Bool}{p q:Prop}:d6G G (p∧q)=(d6G G p∧d6G G q):=by unfold d6G;exact propext ⟨fun h=>⟨fun e=>(h e).1,fun e=>(h e).2⟩,fun h e=>⟨h.1 e,h.2 e⟩⟩
instance{G:Bool}{p:Prop}[Decidable p]:Decidable (d6G G p):=by unfold d6G;exact inferInstance
instance{k:IntKind}{n:Int}:Decidable (InK k n):=by unfold InK;exact inferInstance
theorem i8F(k:IntKind)(n:Int):arith k n=⟨.int k (wr k n),True,[],none,none⟩:=rfl
theorem i9u(k:IntKind)(n:Int):k.wrap n=wr k n:=rfl
theorem d0H{n:Int}(h1: -9223372036854775808≤n)(h2:n≤9223372036854775807):wr .i64 n=n:=by
 unfold wr
 exact d6T (k:=.i64) ⟨h1,h2⟩
theorem i4U{k n:Nat}(hk:k<n)(h:n≤9223372036854775807):wr .i64 ((k:Int)+1)=((k+1:Nat):Int):=by
 rw[d0H (by omega) (by omega)];omega
section
variable {P:Program} {gl:Gl} {N n0:Nat} {keep:List Nat} {Q:AQ} {fr:Fr} {st:St} {c x:Code} {id:Nat}
inductive BkS(n0:Nat)(F:Fr)(T:St):Fr→St→Prop
 |nil:BkS n0 F T F T
 |cons {F' fr:Fr} {T' st:St} (h:Bk n0 F' T' fr st) (ht:BkS n0 F T F' T'):BkS n0 F T fr st
theorem BkS.one{F:Fr}{T:St}(h:Bk n0 F T fr st):BkS n0 F T fr st:=.cons h .nil
theorem BkS.trans{F F':Fr}{T T':St}(h:BkS n0 F' T' fr st)(h2:BkS n0 F T F' T'):BkS n0 F T fr st:=by
 induction h with
 |nil=>exact h2
 |cons h _ ih=>exact .cons h ih
theorem Rj{F:Fr}{T:St}(hb:BkS n0 F T fr st)(h:AWp P gl N n0 keep c Q F T):AWp P gl N n0 keep c Q fr st:=by
 induction hb with
 |nil=>exact h
 |cons hb _ ih=>exact i6Z hb ih
theorem d9q{s l l':St}{F:Fr}(hsc:YO s.length s)(hu:UpL (s++l) (s++l') l l')(hl:ScL (s++l').length l')(hf:d6H (s++l) (s++l') fr F)(hs:Fr.sc (s++l').length F):
 BkS s.length F (s++l') fr (s++l):=.one ⟨by simp,d3i hsc hu hl,hf,hs⟩
theorem i4V{s l:St}{F:Fr}(hsc:YO s.length s)(hf:d6H (s++l) s fr F)(hs:Fr.sc s.length F):BkS s.length F s fr (s++l):=.one ⟨Nat.le_refl _,d1L hsc,hf,hs⟩
theorem i2Q{s:St}{F:Fr}(hsc:YO s.length s)(hf:d6H s s fr F)(hs:Fr.sc s.length F):BkS s.length F s fr s:=.one ⟨Nat.le_refl _,d5d hsc,hf,hs⟩
theorem d8l{s t:St}:(s++t)[s.length]? =t[0]? :=d1o (k:=0)
theorem i0Q{s:St}:look s s.length=none:=d9L (k:=0)
theorem i0R{s t:St}{k:Nat}(h:t.length≤k):look (s++t) (s.length+k)=none:=by
 unfold look;rw[List.getElem?_eq_none (by simp;omega)];rfl
theorem d0I{s:St}{d d':D}{R:D→St→Prop}(hsc:YO s.length s)(hu:Up s s d d')(hd:D.sc s.length d')(h:R d' s):fin s.length R d s:=
 ⟨s,d',Nat.le_refl _,d5d hsc,hu,hd,h⟩
def i6b(P:Program)(rs:List ResultVar)(n0:Nat)(R:D→St→Prop):AQ
 | .exit _,_,_=>False
 | _,fr,st=>∃F T,BkS n0 F T fr st∧i5T P F T rs∧fin n0 R (rsD P F T rs) T
theorem i6c{rs:List ResultVar}{R:D→St→Prop}(h:i8y P rs n0 R .ret fr st):i6b P rs n0 R .ret fr st:=⟨fr,st,.nil,h.1,h.2⟩
theorem d8m{rs:List ResultVar}{R:D→St→Prop}(h:i8y P rs n0 R .ret fr st):i6b P rs n0 R .normal fr st:=⟨fr,st,.nil,h.1,h.2⟩
theorem d2q{rs:List ResultVar}{R:D→St→Prop}{F:Fr}{T:St}(hb:BkS n0 F T fr st)(h:i6b P rs n0 R .normal F T):i6b P rs n0 R .normal fr st:=by
 obtain⟨F',T',h1,h2⟩:=h
 exact⟨F',T',hb.trans h1,h2⟩
theorem d5R.bks{w0:World}{μ0:Mu}{st0:St}{a:Act}{w:World}{F:Fr}{T:St}(hl0:st0.length=n0)(hb:BkS n0 F T fr st)(h:d5R gl N w0 μ0 st0 fr st a w):d5R gl N w0 μ0 st0 F T a w:=by
 induction hb with
 |nil=>exact h
 |cons hb _ ih=>
  obtain⟨μ,hc⟩:=h
  exact ih ⟨μ,hc.sim.wk hb.wk,d3c hc.glob (fun _ h=>hb.wk.kill.own h),
   fun t=>VR.up hc.sim hb.wk.kill (hb.up.get t) (hc.fr t) (Fr.i0m _ hb.sc t),hc.size,hc.defers,Step.wk (by rw[hl0];exact hb.len) hb.wk hc.step⟩
theorem i9v{f:FuncId}{fn:Func}{c:Code}{args:List D}{R:D→St→Prop}{rs:List ResultVar}(keep:List Nat)(hf:P.funcs[f]? =some fn)(hb:fn.body=some c)(hN:fn.ntmps=N)(hr:fn.results.toList=rs)
 (hname:(fn.name != "runtime.NumGoroutine")=true) (hlen:Nat.ble args.length N=true)
 (h:YO st.length st→AWp P gl N st.length keep c (i6b P rs st.length R) (d4W 0 args) st):Spec P gl f args st R:=by
 refine i4Q keep hf hb hN hr hname hlen fun hsc=>?_
 intro w0 μ0 st0 hl a w hc
 refine wp_mono (h hsc w0 μ0 st0 hl a w hc) fun e a' w' hq=>?_
 cases e with
 |normal=>
  obtain⟨fr',st',⟨F,T,h1,h2,h3⟩,h4⟩:=hq
  exact⟨F,T,⟨h2,h3⟩,h4.bks hl h1⟩
 |ret=>
  obtain⟨fr',st',⟨F,T,h1,h2,h3⟩,h4⟩:=hq
  exact⟨F,T,⟨h2,h3⟩,h4.bks hl h1⟩
 |exit id=>obtain⟨fr',st',h1,h2⟩:=hq;exact h1.elim
 |goto=>exact hq.elim
 |panic=>exact hq.elim
 |outgrown=>exact hq.elim
theorem VN{σ Γ ρ:Type}(K:σ→Option ρ)(e:ρ)(F:Γ→σ→Fr)(T:Γ→σ→St)(hk:∀γ s fr st,K s=some e→BkS n0 (F γ s) (T γ s) fr st→Q .normal fr st)
 (hx:(∀γ s fr st,K s=some e→BkS n0 (F γ s) (T γ s) fr st→Q .normal fr st)→AWp P gl N n0 keep x Q fr st):AWp P gl N n0 keep x Q fr st:=hx hk
def PBr{Γ ρ σ:Type}(n0 id:Nat)(F:Γ→Nat→σ→Fr)(T:Γ→Nat→σ→St)(Fb:Γ→σ→Fr)(Tb:Γ→σ→St)(Q:AQ)(k:Nat):Ctl ρ σ σ→AQ
 | .nxt s=>fun ex fr st=>ex= .normal∧∃γ,BkS n0 (F γ (k+1) s) (T γ (k+1) s) fr st
 | .brk s=>fun ex fr st=>ex= .exit id∧∃γ,BkS n0 (Fb γ s) (Tb γ s) fr st
 | .ret _=>fun ex fr st=>ex≠ .normal∧AQ.block id Q ex fr st
theorem arg_{Γ ρ σ:Type}{body:Nat→σ→Option (Ctl ρ σ σ)}{n:Nat}{s0:σ}{kk:σ→Option ρ}{e:ρ}(F:Γ→Nat→σ→Fr)(T:Γ→Nat→σ→St)(Fb:Γ→σ→Fr)(Tb:Γ→σ→St)(γ0:Γ)
 (h:Pg (Pr body n s0) kk=some e)
 (h0:BkS n0 (F γ0 0 s0) (T γ0 0 s0) fr st)
 (hs:∀γ k s b,k<n→body k s=some b→(∀x,b= .ret x→x=e)→AWp P gl N n0 keep c (PBr n0 id F T Fb Tb Q k b) (F γ k s) (T γ k s))
 (he:∀γ s,AWp P gl N n0 keep c (fun ex fr st=>ex= .exit id∧∃γ',BkS n0 (Fb γ' s) (Tb γ' s) fr st) (F γ n s) (T γ n s))
 (hk:∀γ s fr st,kk s=some e→BkS n0 (Fb γ s) (Tb γ s) fr st→Q .normal fr st):
 AWp P gl N n0 keep (.block id (.loop c)) Q fr st:=by
 refine i3N (Rj h0 ?_)
 unfold Pr at h
 have key:∀m k s γ,k+m=n→Pg (SB body m k s) kk=some e→AWp P gl N n0 keep (.loop c) (AQ.block id Q) (F γ k s) (T γ k s):=by
  intro m
  induction m with
  |zero=>
   intro k s γ hk' h1
   have:k=n:=by omega
   subst this
   refine d0B (d0C (he γ s) fun ex fr st hq=>?_)
   obtain⟨rfl,γ',hb⟩:=hq
   show AQ.block id Q (.exit id) fr st
   simp only[AQ.block,if_true]
   exact hk γ' s fr st h1 hb
  |succ m ih=>
   intro k s γ hk' h
   simp only[SB]at h
   cases hb:body k s with
   |none=>rw[hb]at h;cases h
   |some b=>
    rw[hb]at h
    refine d0B (d0C (hs γ k s b (by omega) hb ?_) fun ex fr st hq=>?_)
    ·intro x hx
     subst hx
     cases h;rfl
    ·cases b with
     |nxt s'=>
      obtain⟨rfl,γ',hb'⟩:=hq
      exact Rj hb' (ih (k+1) s' γ' (by omega) h)
     |brk s'=>
      obtain⟨rfl,γ',hb'⟩:=hq
      show AQ.block id Q (.exit id) fr st
      simp only[AQ.block,if_true]
      exact hk γ' s' fr st h hb'
     |ret x=>
      obtain⟨h1,h2⟩:=hq
      cases ex with
      |normal=>exact absurd rfl h1
      | _=>exact h2
 exact key n 0 s0 γ0 (by omega) h
def PBw{Γ Δ ρ σ τ:Type}(n0 id:Nat)(F:Γ→σ→Fr)(T:Γ→σ→St)(Fb:Δ→τ→Fr)(Tb:Δ→τ→St)(Q:AQ):Ctl ρ σ τ→AQ
 | .nxt s=>fun ex fr st=>ex= .normal∧∃γ,BkS n0 (F γ s) (T γ s) fr st
 | .brk s=>fun ex fr st=>ex= .exit id∧∃γ,BkS n0 (Fb γ s) (Tb γ s) fr st
 | .ret _=>fun ex fr st=>ex≠ .normal∧AQ.block id Q ex fr st
theorem Yo{Γ Δ ρ σ τ:Type}{body:σ→Option (Ctl ρ σ τ)}{n:Nat}{s0:σ}{kk:τ→Option ρ}{e:ρ}(F:Γ→σ→Fr)(T:Γ→σ→St)(Fb:Δ→τ→Fr)(Tb:Δ→τ→St)(γ0:Γ)
 (h:Pg (TL body n s0) kk=some e)
 (h0:BkS n0 (F γ0 s0) (T γ0 s0) fr st)
 (hs:∀γ s b,body s=some b→(∀x,b= .ret x→x=e)→AWp P gl N n0 keep c (PBw n0 id F T Fb Tb Q b) (F γ s) (T γ s))
 (hk:∀γ s fr st,kk s=some e→BkS n0 (Fb γ s) (Tb γ s) fr st→Q .normal fr st):
 AWp P gl N n0 keep (.block id (.loop c)) Q fr st:=by
 refine i3N (Rj h0 ?_)
 have key:∀m s γ,Pg (TL body m s) kk=some e→AWp P gl N n0 keep (.loop c) (AQ.block id Q) (F γ s) (T γ s):=by
  intro m
  induction m with
  |zero=>intro s γ h;cases h
  |succ m ih=>
   intro s γ h
   simp only[TL]at h
   cases hb:body s with
   |none=>rw[hb]at h;cases h
   |some b=>
    rw[hb]at h
    refine d0B (d0C (hs γ s b hb ?_) fun ex fr st hq=>?_)
    ·intro x hx
     subst hx
     cases h;rfl
    ·cases b with
     |nxt s'=>
      obtain⟨rfl,γ',hb'⟩:=hq
      exact Rj hb' (ih s' γ' h)
     |brk s'=>
      obtain⟨rfl,γ',hb'⟩:=hq
      show AQ.block id Q (.exit id) fr st
      simp only[AQ.block,if_true]
      exact hk γ' s' fr st h hb'
     |ret x=>
      obtain⟨h1,h2⟩:=hq
      cases ex with
      |normal=>exact absurd rfl h1
      | _=>exact h2
 exact key n s0 γ0 h
section
variable {Γ Δ ρ σ τ:Type} {F:Γ→σ→Fr} {T:Γ→σ→St} {Fb:Δ→τ→Fr} {Tb:Δ→τ→St} {Fk:Γ→Nat→σ→Fr} {Tk:Γ→Nat→σ→St} {Fc:Γ→σ→Fr} {Tc:Γ→σ→St} {k:Nat} {ex:i2t}
theorem Vh{s:σ}(γ:Γ)(h:BkS n0 (Fk γ (k+1) s) (Tk γ (k+1) s) fr st):PBr (ρ:=ρ) n0 id Fk Tk Fc Tc Q k (.nxt s) .normal fr st:=⟨rfl,γ,h⟩
theorem Qh{x:ρ}(h:AQ.block id Q .ret fr st):PBr n0 id Fk Tk Fc Tc Q k (.ret x) .ret fr st:=⟨i2t.noConfusion,h⟩
theorem d1p{s:σ}(γ:Γ)(h:BkS n0 (F γ s) (T γ s) fr st):PBw (ρ:=ρ) n0 id F T Fb Tb Q (.nxt s) .normal fr st:=⟨rfl,γ,h⟩
theorem d1q{s:τ}(γ:Δ)(h:BkS n0 (Fb γ s) (Tb γ s) fr st):PBw (ρ:=ρ) n0 id F T Fb Tb Q (.brk s) (.exit id) fr st:=⟨rfl,γ,h⟩
theorem d5f{x:ρ}(h:AQ.block id Q .ret fr st):PBw n0 id F T Fb Tb Q (.ret x) .ret fr st:=⟨i2t.noConfusion,h⟩
end
end
attribute [simp] i9t ScL Ob.sc D.sc D.scs Fr.sc i8B
attribute [go_sem] i3V or_true Int.cast_ofNat_Int i9k i9l i9m p0t i8C i9n p0u Int.reduceEq Int.reduceNe Nat.zero_le true_or List.length_replicate Option.mem_def Option.map_some Option.map_none false_implies forall_eq' Option.isSome_none Option.some.injEq i7i Int.le_refl decide_true decide_false i9s i7h i4S i3W i4T i7e i7f i2P i9u IntKind.bits Option.isSome_map List.drop_zero Int.toNat_zero Int.reduceToNat Int.reduceNeg Int.reduceLT Int.reduceLE Nat.reducePow i8F i7j i8E Option.isSome_some d1M i7g i9o i9p i9q p0v i8D i9r p0w Int.toNat_natCast Nat.zero_add Nat.sub_zero Nat.le_refl Int.natCast_nonneg Int.ofNat_lt reduceCtorEq
 Nat.reduceAdd Nat.reduceEqDiff Nat.reduceLT Nat.reduceLeDiff Nat.reduceMul Nat.reduceSub Nat.reduceBEq Nat.reduceBNe reduceIte
def OT(st:St):List (Nat×Ob)→St
 | []=>st
 |(o,x)::m=>(OT st m).set o (some x)
def d5g:List (Nat×Ob)→Nat→Option Ob→Option Ob
 | [],_,d=>d
 |(a,x)::m,o,d=>if o=a then some x else d5g m o d
def i2R:List (Nat×Ob)→Nat→Ob→List (Nat×Ob)
 | [],o,x=>[(o,x)]
 |(a,y)::m,o,x=>if o=a then(a,x)::m else(a,y)::i2R m o x
theorem Wj(st:St):∀m:List (Nat×Ob),(OT st m).length=st.length
 | []=>rfl
 |(o,x)::m=>by simp[OT,Wj st m]
theorem d3Z{st l:St}{o:Nat}(ho:o<st.length):∀m:List (Nat×Ob),look (OT st m++l) o=d5g m o (look st o)
 | []=>by
  simp only[OT,d5g]
  unfold look
  rw[List.getElem?_append_left ho]
 |(a,x)::m=>by
  have ih:=d3Z (l:=l) ho m
  have hl:=Wj st m
  simp only[OT,d5g]
  unfold look at ih⊢
  rw[List.getElem?_append_left (by simp[hl];exact ho)]
  rw[List.getElem?_append_left (by rw[hl];exact ho)]at ih
  rw[List.getElem?_set]
  by_cases e:o=a
  ·subst e;rw[if_pos rfl,if_pos (by rw[hl];exact ho),if_pos rfl];rfl
  ·rw[if_neg (fun h=>e h.symm),if_neg e];exact ih
theorem YD{st:St}{o:Nat}(ho:o<st.length)(m:List (Nat×Ob)):look (OT st m) o=d5g m o (look st o):=by
 have:=d3Z (l:=[]) ho m
 rwa[List.append_nil]at this
theorem OZ{st l:St}{m:List (Nat×Ob)}{k:Nat}:look (OT st m++l) (st.length+k)=look l k:=by
 rw[←Wj st m];exact XV
theorem d7r{st l:St}{m:List (Nat×Ob)}:look (OT st m++l) st.length=look l 0:=OZ (k:=0)
theorem d4a{st l:St}{o:Nat}{x:Ob}(ho:o<st.length):∀m:List (Nat×Ob),(OT st m++l).set o (some x)=OT st (i2R m o x)++l
 | []=>by simp only[i2R,OT];rw[List.set_append_left _ _ ho]
 |(a,y)::m=>by
  have ih:=d4a (l:=l) (x:=x) ho m
  have hl:=Wj st m
  simp only[OT,i2R]
  rw[List.set_append_left _ _ (by simp[hl];exact ho)]
  rw[List.set_append_left _ _ (by rw[hl];exact ho)]at ih
  have ih':=List.append_cancel_right ih
  split
  ·rename_i e;subst e
   simp[OT,List.set_set]
  ·rename_i e
   simp only[OT]
   rw[List.set_comm _ _ (fun h=>e h.symm),ih']
theorem YE{st:St}{o:Nat}{x:Ob}(ho:o<st.length)(m:List (Nat×Ob)):(OT st m).set o (some x)=OT st (i2R m o x):=by
 have:=d4a (l:=[]) (x:=x) ho m
 rwa[List.append_nil,List.append_nil]at this
theorem i0S{st l:St}{m:List (Nat×Ob)}{k:Nat}{x:Option Ob}:(OT st m++l).set (st.length+k) x=OT st m++l.set k x:=by
 rw[←Wj st m];exact i0s
theorem i6d{st l:St}{m:List (Nat×Ob)}{x:Option Ob}:(OT st m++l).set st.length x=OT st m++l.set 0 x:=i0S (k:=0)
theorem Pa{st l:St}{m:List (Nat×Ob)}{k:Nat}:(OT st m++l)[st.length+k]? =l[k]? :=by
 rw[←Wj st m];exact d1o
theorem i7k{st l:St}{m:List (Nat×Ob)}:(OT st m++l).length=st.length+l.length:=by rw[List.length_append,Wj]
theorem OW{st:St}:∀ {m:List (Nat×Ob)},(∀p∈m,look st p.1=some p.2)→OT st m=st
 | [],_=>rfl
 |(o,x)::m,h=>by
  simp only[OT]
  rw[OW (fun p hp=>h p (List.mem_cons_of_mem _ hp))]
  have:=Px (h (o,x) (List.mem_cons_self ..))
  apply List.ext_getElem?
  intro i
  rw[List.getElem?_set]
  split
  ·rename_i e;subst e
   have hl:=(List.getElem?_eq_some_iff.1 this).1
   rw[if_pos hl,this]
  ·rfl
theorem OM{st:St}{o:Nat}{x:Ob}(h:look st o=some x):o<st.length:=(List.getElem?_eq_some_iff.1 (Px h)).1
def scM(n:Nat):List (Nat×Ob)→Prop
 | []=>True
 |(_,x)::m=>x.sc n∧scM n m
theorem QX{st:St}(h:YO st.length st):∀ {m:List (Nat×Ob)},scM st.length m→YO (OT st m).length (OT st m)
 | [],_=>h
 |(o,x)::m,hm=>by
  have ih:=QX h hm.2
  intro o' ob e
  simp only[OT]at e⊢
  rw[List.length_set]
  rw[List.getElem?_set]at e
  split at e
  ·split at e
   ·cases e;rw[Wj];exact hm.1
   ·cases e
  ·exact ih o' ob e
section
variable {P:Program} {gl:Gl} {N n0:Nat} {keep:List Nat} {Q:AQ} {fr:Fr} {st:St} {c:Code}
theorem SZ{s s':St}(e:s'=s)(h:AWp P gl N n0 keep c Q fr s'):AWp P gl N n0 keep c Q fr s:=e▸h
theorem Vi{s l l':St}{F:Fr}(hn:n0≤s.length)(hsc:YO s.length s)(hu:UpL (s++l) (s++l') l l')(hl:ScL (s++l').length l')(hf:d6H (s++l) (s++l') fr F)(hs:Fr.sc (s++l').length F):
 BkS n0 F (s++l') fr (s++l):=.one ⟨by simp;omega,d3i hsc hu hl,hf,hs⟩
theorem i4W{s l:St}{F:Fr}(hn:n0≤s.length)(hsc:YO s.length s)(hf:d6H (s++l) s fr F)(hs:Fr.sc s.length F):BkS n0 F s fr (s++l):=.one ⟨hn,d1L hsc,hf,hs⟩
theorem i2S{s:St}{F:Fr}(hn:n0≤s.length)(hsc:YO s.length s)(hf:d6H s s fr F)(hs:Fr.sc s.length F):BkS n0 F s fr s:=.one ⟨hn,d5d hsc,hf,hs⟩
theorem i2T{s l:St}{d d':D}{R:D→St→Prop}(hn:n0≤s.length)(hsc:YO s.length s)(hu:Up (s++l) s d d')(hd:D.sc s.length d')(h:R d' s):fin n0 R d (s++l):=
 ⟨s,d',hn,d1L hsc,hu,hd,h⟩
theorem i0T{s:St}{d d':D}{R:D→St→Prop}(hn:n0≤s.length)(hsc:YO s.length s)(hu:Up s s d d')(hd:D.sc s.length d')(h:R d' s):fin n0 R d s:=
 ⟨s,d',hn,d5d hsc,hu,hd,h⟩
mutual
def D.flat:D→Bool
 | .bool _=>true
 | .int _ _=>true
 | .str _=>true
 | .agg cs=>D.d9r cs
 | .tup cs=>D.d9r cs
 | _=>false
def D.d9r:List D→Bool
 | []=>true
 |d::l=>d.flat&&D.d9r l
end
theorem d3k:∀ {l:List D},D.d9r l=true→∀j (h:j<l.length),(l[j]).flat=true
 |d::l,h,0,_=>by simp only[D.d9r,Bool.and_eq_true]at h;exact h.1
 |d::l,h,j+1,hj=>by
  simp only[D.d9r,Bool.and_eq_true]at h
  exact d3k (l:=l) h.2 j (by simpa using hj)
theorem VR.flat{w w':World}{μ μ':Mu}{s s':St}{v:Value}{d:D}(h:VR w μ s v d)(hf:d.flat=true):VR w' μ' s' v d:=by
 induction h with
 |any=>cases hf
 |tr h=>
  cases h with
  |bool b=>exact .tr (.bool b)
  |int k n=>exact .tr (.int k n)
  |str x=>exact .tr (.str x)
  | _=>cases hf
 |agg vs cs hs hc ih=>exact .agg vs cs hs fun j hj=>ih j hj (d3k hf j hj)
 |tup vs cs hs hc ih=>exact .tup vs cs hs fun j hj=>ih j hj (d3k hf j hj)
 |fn=>cases hf
 |ref=>cases hf
 |ptr=>cases hf
 |mp=>cases hf
 |it=>cases hf
 |cond=>cases hf
def dead(st:St):St:=List.replicate st.length none
theorem d0J{st:St}{o:Nat}{ob:Ob}:¬(dead st)[o]? =some (some ob):=by
 unfold dead
 rw[List.getElem?_replicate]
 split<;>simp
theorem d6d{st:St}{o:Nat}:look (dead st) o=none:=by
 cases h:look (dead st) o with
 |none=>rfl
 |some x=>exact absurd (Px h) d0J
theorem d8n{μ:Mu}{st:St}{blk:Nat}:¬own μ (dead st) blk:=fun⟨_,_,_,h,_⟩=>d0J h
theorem i0U{st:St}:d9K st (dead st):=⟨by simp[dead],fun _ _ h=>absurd h d0J⟩
theorem Pure.borrow{f:FuncId}{args args':List D}{r:D}(h:Pure P gl f args' r)(hu:Ups st (dead st) args args')(hsc:D.scs (dead st).length args')(hr:r.flat=true){R:D→St→Prop}(hR:R r st):Spec P gl f args st R:=by
 refine⟨(h st).1,fun w μ vs hs hg hsz hvs=>?_⟩
 have hs0:Sim w μ (dead st):=⟨fun o ob e=>absurd e d0J,fun o _ _ _ _ _ _ e=>absurd e d0J⟩
 have hg0:Glob gl w μ (dead st):=d3c hg (fun blk hb=>absurd hb d8n)
 have hv0:∀j (hj:j<args'.length),VR w μ (dead st) (vs.getD j undef) (args'[j]):=fun j hj=>by
  have hj':j<args.length:=by rw[←hu.len];exact hj
  exact VR.up hs i0U (hu.get j hj' hj) (hvs j hj') (Tm hsc j hj)
 refine((h (dead st)).2 w μ vs hs0 hg0 (by rw[hsz,hu.len]) hv0).mono fun e w' ⟨v,d,st',μ',he,⟨hd,hst⟩,hs',hstep,hv⟩=>?_
 subst hd;subst hst
 have hblk:∀blk,blk<w.heap.size→w'.heap[blk]? =w.heap[blk]? :=fun blk hb=>hstep.imm blk hb d8n
 have hlt:∀ {blk:Nat},(w.heap[blk]?).isSome=true→blk<w.heap.size:=fun {blk} e=>by
  rcases Nat.lt_or_ge blk w.heap.size with h|h
  ·exact h
  ·rw[Array.getElem?_eq_none h]at e;cases e
 have step:Step w μ st w' μ st:={
  size:=hstep.size,os:=hstep.os,output:=hstep.output,tape:=hstep.tape
  imm:=fun blk hb _=>hblk blk hb
  own:=fun blk hb=>.inl hb
  len:=Nat.le_refl _
  keep:=fun o ob ho e=>⟨ob,e,by
   cases ob with
   |arr g n b es=>exact⟨Nat.le_refl _,fun _=>⟨rfl,rfl,rfl,rfl,fun blk base c ty _ hh=>⟨c,by rw[hblk blk (hlt (by rw[hh];rfl))];exact hh,rfl⟩⟩⟩
   |mps=>exact⟨rfl,rfl⟩
   |mpi=>exact⟨rfl,rfl,rfl⟩
   |sit=>exact rfl
   |resv=>exact trivial⟩ }
 refine⟨v,d,st,μ,he,hR,⟨fun o ob e=>?_,hs.inj⟩,step,hv.flat hr⟩
 have hob:=hs.obj o ob e
 refine hob.step step fun blk base em=>?_
 cases ob with
 |arr g n b es=>
  obtain⟨_,_,h3⟩:=(hob:d0b w μ st (μ o) n b es)
  rcases h3 with⟨h3,_⟩|⟨d1b,base',c,ty,em',hh,_⟩
  ·rw[em]at h3;cases h3
  ·rw[em]at em';cases em';exact hblk _ (hlt (by rw[hh];rfl))
 |mps ag es=>
  obtain⟨d1b,ents,clock,_,em',hh,_⟩:=(hob:ZG _ ag w μ _ (μ o) es).loc
  rw[em]at em';cases em';exact hblk _ (hlt (by rw[hh];rfl))
 |mpi ag k es=>
  obtain⟨d1b,ents,clock,_,em',hh,_⟩:=(hob:ZG _ ag w μ _ (μ o) es).loc
  rw[em]at em';cases em';exact hblk _ (hlt (by rw[hh];rfl))
 |sit s p=>
  obtain⟨d1b,em',hh⟩:=hob
  rw[em]at em';cases em';exact hblk _ (hlt (by rw[hh];rfl))
 |resv=>
  have:μ o=none:=hob
  rw[em]at this;cases this
end
section
variable {P:Program} {gl:Gl} {st:St}
theorem Pure.freeze{f:FuncId}{args args':List D}{r:D}{T:St}(h:Pure P gl f args' r)(hw:d9o st T)(hl:st.length≤T.length)(hu:Ups st T args args')(hsc:D.scs T.length args'){R:D→St→Prop}(hR:R r T):Spec P gl f args st R:=by
 refine⟨(h T).1,fun w μ vs hs hg hsz hvs=>?_⟩
 have hv0:∀j (hj:j<args'.length),VR w μ T (vs.getD j undef) (args'[j]):=fun j hj=>by
  have hj':j<args.length:=by rw[←hu.len];exact hj
  exact VR.up hs hw.kill (hu.get j hj' hj) (hvs j hj') (Tm hsc j hj)
 refine((h T).2 w μ vs (hs.wk hw) (d3c hg (fun _ h=>hw.kill.own h)) (by rw[hsz,hu.len]) hv0).mono fun e w' ⟨v,d,st',μ',he,⟨hd,hst⟩,hs',hstep,hv⟩=>?_
 subst hd;subst hst
 exact⟨v,d,st',μ',he,hR,hs',(Step.wk hl hw (Step.refl w μ st)).trans hstep,hv⟩
end
attribute [simp] scM Wj
attribute [go_sem] d5g i2R OZ d7r i0S i6d i7k Wj
theorem RP{st:St}{m:List (Nat×Ob)}{k:Nat}:look (OT st m) (st.length+k)=none:=by rw[←Wj st m];exact d9L
theorem VU{st t:St}{m:List (Nat×Ob)}{k:Nat}(h:t.length≤k):look (OT st m++t) (st.length+k)=none:=by rw[←Wj st m];exact i0R h
attribute [go_sem] i8l i6n
section
variable {P:Program} {gl:Gl} {N b:Nat} {fr:Fr} {st:St} {dst:Option Nat} {f:FuncId} {args:List D} {r:D} {lg:Log} {tr G:Bool} {kk:Log→Fr→St→Prop} {k:Fr→St→Prop}
theorem WO(rd:List Nat){ups:List (Nat×Ob)}(h:∀st2,(∀o∈rd,look st2 o=look st o)→Spec P gl f args st2 fun d st'=>d=r∧st'=puts st2 ups)(hu:∀p∈ups,p.1∈rd)
 (hrd:∀o∈rd,o<b∧∃ob,look st o=some ob∧ob≠ .resv) (ht:tr=false→rd=[]) (hk:kk (ZH tr lg ⟨r,True,rd,none,none⟩ ups) (fr.Ye dst r) (puts st ups)):
 d9k P gl b tr dst lg fr st kk f args:=
 ⟨r,rd,ups,h,hu,hrd,ht,hk⟩
theorem i7l{ups:List (Nat×Ob)}(h:G=true→Spec P gl f args st fun d st'=>d=r∧st'=puts st ups)(hf:G=false→puts st ups=st)(hk:k (fr.Ye dst (.cond G r)) (puts st ups)):
 d9g P gl G dst fr st k f args:=⟨r,ups,h,hf,hk⟩
end
section
variable {P:Program} {gl:Gl} {N:Nat} {w0:World} {μ0:Mu} {st0:St}
variable {n0:Nat} {keep:List Nat} {AQ':AQ} {fr:Fr} {st:St}
end
section
variable {P:Program} {gl:Gl} {N n0:Nat} {keep:List Nat} {Q:AQ} {fr:Fr} {st:St} {x y:Code} {o:Operand} {i:Nat}
theorem Zf(h:AWp P gl N n0 keep (.seq x y) (AQ.block i Q) fr st):AWp P gl N n0 keep (.block i (.seq x y)) Q fr st:=i3N h
theorem XF(h:AWp P gl N n0 keep (.cond o x y) (AQ.block i Q) fr st):AWp P gl N n0 keep (.block i (.cond o x y)) Q fr st:=i3N h
theorem Zg{k:Nat}{l:Array Oper}{b:Bool}(h:AWp P gl N n0 keep (.region k l b) (AQ.block i Q) fr st):AWp P gl N n0 keep (.block i (.region k l b)) Q fr st:=i3N h
theorem Zh{k:Nat}(h:AWp P gl N n0 keep (.block k x) (AQ.block i Q) fr st):AWp P gl N n0 keep (.block i (.block k x)) Q fr st:=i3N h
theorem Wt(h:AWp P gl N n0 keep (.scope x) (AQ.block i Q) fr st):AWp P gl N n0 keep (.block i (.scope x)) Q fr st:=i3N h
theorem rn{A B:Prop}(b:B)(e:B→A:=by
 intro hb;(try simp only[go_sem,fx]);(repeat (first|apply sq_|(apply er_;simp only[go_sem,fx])|(apply i2d;(try simp only[go_sem,fx]))|(apply VK;(try simp only[go_sem,fx]))|apply Zf|apply XF|apply Zg|apply Zh|apply Wt|apply Wr|(apply Ws;(try simp only[go_sem,fx]))));exact hb):A:=e b
theorem r0{A B:Prop}(b:B)(e:B→A:=by
 intro hb;(try simp only[go_sem,fx]);(repeat apply sq_);(first|(apply er_;simp only[go_sem,fx])|(apply i2d;(try simp only[go_sem,fx]))|(apply VK;(try simp only[go_sem,fx]))|apply Zf|apply XF|apply Zg|apply Zh|apply Wt|apply Wr|(apply Ws;(try simp only[go_sem,fx])));exact hb):A:=e b
theorem r1{A B:Prop}(b:B)(e:B→A:=by
 intro hb;(try simp only[go_sem,fx]);(repeat apply sq_);apply er_;simp only[go_sem,fx,fy];exact hb):A:=e b
theorem rs{A B:Prop}(b:B)(e:B→A:=by
 intro hb;(try simp only[go_sem,fx]);(repeat apply sq_);exact hb):A:=e b
theorem cd{α:Type}{c t:Bool}{a b:Option α}{r:α}{W:Prop}(h:(bif c then a else b)=some r)
 (k1:c=true→a=some r→AWp P gl N n0 keep x Q fr st) (k0:c=false→b=some r→AWp P gl N n0 keep y Q fr st)
 (e:AWp P gl N n0 keep (.cond o x y) Q fr st→W:=by
  intro hb;(try simp only[go_sem,fx]);(repeat (first|apply sq_|(apply er_;simp only[go_sem,fx])|(apply i2d;(try simp only[go_sem,fx]))|(apply VK;(try simp only[go_sem,fx]))|apply Zf|apply XF|apply Zg|apply Zh|apply Wt|apply Wr|(apply Ws;(try simp only[go_sem,fx]))));exact hb)
 (ho:ev gl fr o= .bool t:=by rfl) (hc:t=c:=by first|rfl|simp):W:=
 e (i6x ho (fun ht=>k1 (hc▸ht) (i7c h (hc▸ht))) fun ht=>k0 (hc▸ht) (i7d h (hc▸ht)))
theorem ct{t:Bool}{W:Prop}(k:AWp P gl N n0 keep x Q fr st)
 (e:AWp P gl N n0 keep (.cond o x y) Q fr st→W:=by
  intro hb;(try simp only[go_sem,fx]);(repeat (first|apply sq_|(apply er_;simp only[go_sem,fx])));exact hb)
 (ho:ev gl fr o= .bool t:=by rfl) (ht:t=true:=by first|rfl|exact decide_eq_true (by omega)|(simp;done)|(simp;omega)):W:=
 e (i6x ho (fun _=>k) fun h=>by rw[ht]at h;cases h)
theorem cf{t:Bool}{W:Prop}(k:AWp P gl N n0 keep y Q fr st)
 (e:AWp P gl N n0 keep (.cond o x y) Q fr st→W:=by
  intro hb;(try simp only[go_sem,fx]);(repeat (first|apply sq_|(apply er_;simp only[go_sem,fx])));exact hb)
 (ho:ev gl fr o= .bool t:=by rfl) (ht:t=false:=by first|rfl|exact decide_eq_false (by omega)|(simp;done)|(simp;omega)):W:=
 e (i6x ho (fun h=>by rw[ht]at h;cases h) fun _=>k)
theorem ck{φ p:Prop}[Decidable p]{β:Type}{x:Option β}{e:β}(f:φ)(h:chk p x=some e):(φ∧p)∧x=some e:=
 let ⟨a,b⟩:=i3U h;⟨⟨f,a⟩,b⟩
theorem cl{α β:Type}{x:Option α}{k:α→Option β}{r:β}{d:α→D}{f:FuncId}{args:List D}{R:D→St→Prop}{W:Prop}
 (h:x.bind k=some r) (p:∀v,x=some v→Pure P gl f args (d v)) (b:∀v,k v=some r→R (d v) st)
 (e:Spec P gl f args st R→W:=by
  intro hb;(try simp only[go_sem,fx]);(repeat (first|apply sq_|(apply er_;simp only[go_sem,fx])|(apply i2d;(try simp only[go_sem,fx]))|(apply VK;(try simp only[go_sem,fx]))|apply Zf|apply XF|apply Zg|apply Zh|apply Wt|apply Wr|(apply Ws;(try simp only[go_sem,fx]))));exact hb):W:=by
 obtain⟨v,hv,h⟩:=Rs h
 exact e ((p v hv).to (b v h))
theorem up{α:Type}{x:Option α}{f:FuncId}{args args':List D}{d:α→D}(p:∀v,x=some v→Pure P gl f args' (d v))(u:∀st,Ups st st args args')(s:∀n,D.scs n args':=by intro n;simp):∀v,x=some v→Pure P gl f args (d v):=
 fun v hv=>(p v hv).up u (.inr s)
theorem c0{α β:Type}{x:Option α}{k:α→Option β}{r:β}{W:Prop}(h:x.bind k=some r)(b:∀v,x=some v→k v=some r→W):W:=by
 obtain⟨v,hv,h⟩:=Rs h
 exact b v hv h
theorem l0{α β:Type}{a:α}{f:α→Option β}{e:β}{W:Prop}(h:Tg a f=some e)(b:∀y,y=a→f y=some e→W):W:=b a rfl h
theorem fa{p q:Prop}(a:p)(b:q):p∧q:=⟨a,b⟩
theorem rt{W:Prop}(e:W:=by
 (try simp only[go_sem,fx]);(repeat (first|apply sq_|(apply er_;simp only[go_sem,fx])|(apply i2d;(try simp only[go_sem,fx]))|(apply VK;(try simp only[go_sem,fx]))|apply Zf|apply XF|apply Zg|apply Zh|apply Wt|apply Wr|(apply Ws;(try simp only[go_sem,fx]))));(try (apply i4z;(try simp only[go_sem,fx])));(first|apply i6c|apply d8m);simp only[go_sem,fx];
 first|exact d0I hsc (.same _) (by simp) ⟨by cases h;rfl,rfl⟩|exact d5e hsc (.same _) (by simp) ⟨by cases h;rfl,rfl⟩):W:=e
theorem rr{A B:Prop}(b:B)(e:B→A:=by
 intro hb;(try simp only[go_sem,fx]);(repeat (first|apply sq_|(apply er_;simp only[go_sem,fx])|(apply i2d;(try simp only[go_sem,fx]))|(apply VK;(try simp only[go_sem,fx]))|apply Zf|apply XF|apply Zg|apply Zh|apply Wt|apply Wr|(apply Ws;(try simp only[go_sem,fx]))));(try (apply i4z;(try simp only[go_sem,fx])));(first|apply i6c|apply d8m);simp only[go_sem,fx];exact hb):A:=e b
theorem ra{A B:Prop}(b:B)(e:B→A:=by
 intro hb;(try simp only[go_sem,fx]);(repeat (first|apply sq_|(apply er_;simp only[go_sem,fx])|(apply i2d;(try simp only[go_sem,fx]))|(apply VK;(try simp only[go_sem,fx]))|apply Zf|apply XF|apply Zg|apply Zh|apply Wt|apply Wr|(apply Ws;(try simp only[go_sem,fx]))));apply i4z;(try simp only[go_sem,fx]);exact hb):A:=e b
theorem fo{α:Type}{e r:α}{s l:St}{d:D}(d':D){R:D→St→Prop}(hu:Up (s++l) s d d')(h:some e=some r)(hsc:YO s.length s)(hd:D.sc s.length d':=by simp)(hr:e=r→R d' s:=by rintro rfl;exact⟨rfl,rfl⟩):fin s.length R d (s++l):=
 d5e hsc hu hd (hr (Option.some.inj h))
theorem fs{α:Type}{e r:α}{s:St}{d:D}(d':D){R:D→St→Prop}(hu:Up s s d d')(h:some e=some r)(hsc:YO s.length s)(hd:D.sc s.length d':=by simp)(hr:e=r→R d' s:=by rintro rfl;exact⟨rfl,rfl⟩):fin s.length R d s:=
 d0I hsc hu hd (hr (Option.some.inj h))
theorem bm{s l l':St}{F:Fr}(hsc:YO s.length s)(hu:UpL (s++l) (s++l') l l':=by(repeat (first|exact .nil _|refine .live _ _ _ _ (.same _) ?_|refine .dead _ _ _ ?_)))(hf:d6H (s++l) (s++l') fr F:=by(repeat (first|exact trivial|refine⟨.same _,?_⟩|refine⟨.d6b _ _ _ _,?_⟩|refine⟨.full _ _ _ _,?_⟩|refine⟨.OI _ _ _ (by decide),?_⟩|refine⟨.any _,?_⟩)))(hl:ScL (s++l').length l':=by simp)(hs:Fr.sc (s++l').length F:=by simp):BkS s.length F (s++l') fr (s++l):=d9q hsc hu hl hf hs
theorem bm0{s l:St}{F:Fr}(hsc:YO s.length s)(hf:d6H (s++l) s fr F:=by(repeat (first|exact trivial|refine⟨.same _,?_⟩|refine⟨.d6b _ _ _ _,?_⟩|refine⟨.full _ _ _ _,?_⟩|refine⟨.OI _ _ _ (by decide),?_⟩|refine⟨.any _,?_⟩)))(hs:Fr.sc s.length F:=by simp):BkS s.length F s fr (s++l):=i4V hsc hf hs
theorem d1N{s:St}{F:Fr}(hsc:YO s.length s)(hf:d6H s s fr F:=by(repeat (first|exact trivial|refine⟨.same _,?_⟩|refine⟨.d6b _ _ _ _,?_⟩|refine⟨.full _ _ _ _,?_⟩|refine⟨.OI _ _ _ (by decide),?_⟩|refine⟨.any _,?_⟩)))(hs:Fr.sc s.length F:=by simp):BkS s.length F s fr s:=i2Q hsc hf hs
theorem bu{s:St}{m:List (Nat×Ob)}{l l':St}{F:Fr}(hsc:YO s.length s)(hu:UpL (OT s m++l) (OT s m++l') l l':=by(repeat (first|exact .nil _|refine .live _ _ _ _ (.same _) ?_|refine .dead _ _ _ ?_)))(hf:d6H (OT s m++l) (OT s m++l') fr F:=by(repeat (first|exact trivial|refine⟨.same _,?_⟩|refine⟨.d6b _ _ _ _,?_⟩|refine⟨.full _ _ _ _,?_⟩|refine⟨.OI _ _ _ (by decide),?_⟩|refine⟨.any _,?_⟩)))(hm:scM s.length m:=by simp<;>omega)(hl:ScL (OT s m++l').length l':=by simp<;>omega)(hs:Fr.sc (OT s m++l').length F:=by simp<;>omega):BkS s.length F (OT s m++l') fr (OT s m++l):=Vi (by simp) (QX hsc hm) hu hl hf hs
theorem bu0{s:St}{m:List (Nat×Ob)}{l:St}{F:Fr}(hsc:YO s.length s)(hf:d6H (OT s m++l) (OT s m) fr F:=by(repeat (first|exact trivial|refine⟨.same _,?_⟩|refine⟨.d6b _ _ _ _,?_⟩|refine⟨.full _ _ _ _,?_⟩|refine⟨.OI _ _ _ (by decide),?_⟩|refine⟨.any _,?_⟩)))(hm:scM s.length m:=by simp<;>omega)(hs:Fr.sc (OT s m).length F:=by simp<;>omega):BkS s.length F (OT s m) fr (OT s m++l):=i4W (by simp) (QX hsc hm) hf hs
theorem i0V{s:St}{m:List (Nat×Ob)}{F:Fr}(hsc:YO s.length s)(hf:d6H (OT s m) (OT s m) fr F:=by(repeat (first|exact trivial|refine⟨.same _,?_⟩|refine⟨.d6b _ _ _ _,?_⟩|refine⟨.full _ _ _ _,?_⟩|refine⟨.OI _ _ _ (by decide),?_⟩|refine⟨.any _,?_⟩)))(hm:scM s.length m:=by simp<;>omega)(hs:Fr.sc (OT s m).length F:=by simp<;>omega):BkS s.length F (OT s m) fr (OT s m):=i2S (by simp) (QX hsc hm) hf hs
theorem rng{φ:Prop}{Γ ρ σ:Type}{c:Code}{id n:Nat}{body:Nat→σ→Option (Ctl ρ σ σ)}{s0:σ}{kk:σ→Option ρ}{e:ρ}(F:Γ→Nat→σ→Fr)(T:Γ→Nat→σ→St)(Fb:Γ→σ→Fr)(Tb:Γ→σ→St)(γ0:Γ)(fx:φ)(hl:n≤9223372036854775807)
 (h:Pg (Pr body n s0) kk=some e)
 (h0:BkS n0 (F γ0 0 s0) (T γ0 0 s0) fr st)
 (hs:∀γ k s b,φ∧k<n∧wr .i64 ((k:Int)+1)=((k+1:Nat):Int)→body k s=some b→(∀x,b= .ret x→x=e)→AWp P gl N n0 keep c (PBr n0 id F T Fb Tb Q k b) (F γ k s) (T γ k s))
 (he:∀γ s,AWp P gl N n0 keep c (fun ex fr st=>ex= .exit id∧∃γ',BkS n0 (Fb γ' s) (Tb γ' s) fr st) (F γ n s) (T γ n s))
 (hk:∀γ s fr st,kk s=some e→BkS n0 (Fb γ s) (Tb γ s) fr st→Q .normal fr st):
 AWp P gl N n0 keep (.block id (.loop c)) Q fr st:=
 arg_ F T Fb Tb γ0 h h0 (fun γ k s b hk=>hs γ k s b ⟨fx,hk,i4U hk hl⟩) he hk
theorem aln{W:Prop}{n b:Nat}{full:Bool}{α:Type}{E:α→List D}{l:List α}{c:Code}(t:Nat)(k:l.length≤9223372036854775807→AWp P gl N n0 keep c Q fr st)
 (e:AWp P gl N n0 keep c Q fr st→W:=by
  intro hb;(try simp only[go_sem,fx]);(repeat (first|apply sq_|(apply er_;simp only[go_sem,fx])|(apply i2d;(try simp only[go_sem,fx]))|(apply VK;(try simp only[go_sem,fx]))|apply Zf|apply XF|apply Zg|apply Zh|apply Wt|apply Wr|(apply Ws;(try simp only[go_sem,fx]))));exact hb)
 (hg:fr.get t= .sl full n b (rows E l):=by rfl) (hb:1≤b:=by decide):W:=
 e (i9j hg fun h=>k (by
  rw[d1M]at h
  have h1:l.length*1≤l.length*b:=Nat.mul_le_mul_left _ hb
  unfold top at h;omega))
theorem fb{f:FuncId}{fn:Func}{c:Code}{args:List D}{R:D→St→Prop}(N:Nat)(rs:List ResultVar)(keep:List Nat)(hf:P.funcs[f]? =some fn)(h:YO st.length st→AWp P gl N st.length keep c (i6b P rs st.length R) (d4W 0 args) st)
 (hb:fn.body=some c:=by rfl) (hN:fn.ntmps=N:=by rfl) (hr:fn.results.toList=rs:=by rfl) (hname:(fn.name != "runtime.NumGoroutine")=true:=by kernel_rfl) (hlen:Nat.ble args.length N=true:=by rfl):Spec P gl f args st R:=
 i9v keep hf hb hN hr hname hlen h
theorem idf{o:Nat}(ho:o<st.length):(∀(l:St) (x:Ob) (m:List (Nat×Ob)),(OT st m++l).set o (some x)=OT st (i2R m o x)++l)∧(∀(x:Ob) (m:List (Nat×Ob)),(OT st m).set o (some x)=OT st (i2R m o x))∧(∀(l:St) (m:List (Nat×Ob)),look (OT st m++l) o=d5g m o (look st o))∧∀m:List (Nat×Ob),look (OT st m) o=d5g m o (look st o):=
 ⟨fun _ _ m=>d4a ho m,fun _ m=>YE ho m,fun _ m=>d3Z ho m,fun m=>YD ho m⟩
theorem nd2{a b:Nat}(h: [a,b].Nodup):((a=b)=False)∧((b=a)=False):=by
 simp at h;exact⟨eq_false h,eq_false fun e=>h e.symm⟩
theorem nd3{a b c:Nat}(h: [a,b,c].Nodup):(((a=b)=False)∧((b=a)=False))∧(((a=c)=False)∧((c=a)=False))∧((b=c)=False)∧((c=b)=False):=by
 simp at h
 exact⟨nd2 (by simp[h]),nd2 (by simp[h]),nd2 (by simp[h])⟩
theorem nd4{a b c d:Nat}(h: [a,b,c,d].Nodup):(((a=b)=False)∧((b=a)=False))∧(((a=c)=False)∧((c=a)=False))∧(((a=d)=False)∧((d=a)=False))∧(((b=c)=False)∧((c=b)=False))∧(((b=d)=False)∧((d=b)=False))∧((c=d)=False)∧((d=c)=False):=by
 simp at h
 exact⟨nd2 (by simp[h]),nd2 (by simp[h]),nd2 (by simp[h]),nd2 (by simp[h]),nd2 (by simp[h]),nd2 (by simp[h])⟩
theorem nd5{a b c d e:Nat}(h: [a,b,c,d,e].Nodup):(((a=b)=False)∧((b=a)=False))∧(((a=c)=False)∧((c=a)=False))∧(((a=d)=False)∧((d=a)=False))∧(((a=e)=False)∧((e=a)=False))∧(((b=c)=False)∧((c=b)=False))∧(((b=d)=False)∧((d=b)=False))∧(((b=e)=False)∧((e=b)=False))∧(((c=d)=False)∧((d=c)=False))∧(((c=e)=False)∧((e=c)=False))∧((d=e)=False)∧((e=d)=False):=by
 simp at h
 exact⟨nd2 (by simp[h]),nd2 (by simp[h]),nd2 (by simp[h]),nd2 (by simp[h]),nd2 (by simp[h]),nd2 (by simp[h]),nd2 (by simp[h]),nd2 (by simp[h]),nd2 (by simp[h]),nd2 (by simp[h])⟩
theorem fuo{α:Type}{e r:α}{s l:St}{m:List (Nat×Ob)}{d:D}(d':D){R:D→St→Prop}(hu:Up (OT s m++l) (OT s m) d d')(h:some e=some r)(hsc:YO s.length s)(hr:e=r→R d' (OT s m):=by rintro rfl;exact⟨rfl,rfl⟩)(hm:scM s.length m:=by simp<;>omega)(hd:D.sc (OT s m).length d':=by simp<;>omega):fin s.length R d (OT s m++l):=
 i2T (by simp) (QX hsc hm) hu hd (hr (Option.some.inj h))
theorem fus{α:Type}{e r:α}{s:St}{m:List (Nat×Ob)}{d:D}(d':D){R:D→St→Prop}(hu:Up (OT s m) (OT s m) d d')(h:some e=some r)(hsc:YO s.length s)(hr:e=r→R d' (OT s m):=by rintro rfl;exact⟨rfl,rfl⟩)(hm:scM s.length m:=by simp<;>omega)(hd:D.sc (OT s m).length d':=by simp<;>omega):fin s.length R d (OT s m):=
 i0T (by simp) (QX hsc hm) hu hd (hr (Option.some.inj h))
theorem dw{B:Prop}{i:Nat}{l:List Oper}(trk:List Nat)(n:Nat)(b:B)
 (e:B→EvD P gl N l.toArray st.length trk (fun fr st=>Q .normal (Fr.only keep fr) st) l 0 0 [] fr (st++List.replicate n (some .resv)):=by intro hb;simp only[go_sem,List.replicate_succ,List.replicate_zero,fx];exact hb)
 (hm:P.follows .mixedOrders=true:=by exact follows) (ho:d3h l.toArray trk=true:=by kernel_rfl) (hn:XE l=n:=by rfl):AWp P gl N n0 keep (.region i l.toArray true) Q fr st:=p0h trk n hm ho hn (e b)
theorem dwy{B:Prop}{i:Nat}{l:List Oper}(trk:List Nat)(n:Nat)(b:B)
 (e:B→EvD P gl N l.toArray st.length trk (fun fr st=>Q .normal (Fr.only keep fr) st) l 0 0 [] fr (st++List.replicate n (some .resv)):=by intro hb;simp only[go_sem,List.replicate_succ,List.replicate_zero,fx,fy];exact hb)
 (hm:P.follows .mixedOrders=true:=by exact follows) (ho:d3h l.toArray trk=true:=by kernel_rfl) (hn:XE l=n:=by rfl):AWp P gl N n0 keep (.region i l.toArray true) Q fr st:=p0h trk n hm ho hn (e b)
theorem i6e{k:Nat}(h:k≤140737488355328):(k≤top)=True:=eq_true (by unfold top;exact h)
section
variable {α:Type} {E:α→List D}
end
end
attribute [go_sem] i6e
end Go.Am
