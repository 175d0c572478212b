import Derived.Test.YtahjhbkhcaphgaaGreatDoorFTLaw2
set_option linter.unusedVariables false
set_option linter.unusedSimpArgs false
namespace Go.Proofs.YtahjhbkhcaphgaaGreatDoor
open Go Go.Am
theorem Aq{s:w8}{i:Nat}(h:i<s.words.length):Am.get (vns s) i=Am.get s.words i:=by
 unfold vns Am.get
 rw[List.getD_eq_getElem?_getD,List.getD_eq_getElem?_getD,List.append_assoc,List.getElem?_append_left h]
theorem Ar{s:w8}{i:Nat}(h:i<s.B1.length):Am.get (vns s) (s.words.length+i)=Am.get s.B1 i:=by
 unfold vns Am.get
 rw[List.getD_eq_getElem?_getD,List.getD_eq_getElem?_getD,List.append_assoc,List.getElem?_append_right (by omega),List.getElem?_append_left (by omega)]
 congr 2;omega
theorem Au{s:w8}{i:Nat}(h:i<s.parts.length):Am.get (vns s) (s.words.length+s.B1.length+i)=Am.get s.parts i:=by
 unfold vns Am.get
 rw[List.getD_eq_getElem?_getD,List.getD_eq_getElem?_getD,List.getElem?_append_right (by simp only[List.length_append];omega)]
 congr 2;simp only[List.length_append];omega
structure Av(s:w8):Prop where
 form:OkF s.form
 len:(vns s).length≤300
 name:∀x∈vns s,A8 x
 uniq:∀i j,i<j→j<(vns s).length→Am.get (vns s) i≠Am.get (vns s) j
 words:∀x∈s.words,fre s.form [] x
 B1:∀x∈s.B1,jm (J8 s.form) x∨kf (J8 s.form) x
 parts:∀x∈s.parts,¬jm (J8 s.form) x∧kf (J8 s.form) x
 LU:QOk s
theorem OkS.good{s:w8}(h:OkS s):Av s:=by
 obtain⟨h1,h2,h3,h4⟩:=h
 have hvl:=oM s
 have hn:∀j,j<(vns s).length→A8 (Am.get (vns s) j):=fun j hj=>Classical.byContradiction fun h=>by
  have:=h3 j hj
  unfold O5 at this
  rw[if_pos h]at this
  exact absurd this (by decide)
 have hu:∀j,j<(vns s).length→Am.get (vns s) j∉ (vns s).take j:=fun j hj h=>by
  have:=h3 j hj
  unfold O5 at this
  rw[if_neg (fun e=>e (hn j hj)),if_pos h]at this
  exact absurd this (by decide)
 refine⟨h1,h2,fun x hx=>?_,fun i j hij hj e=>hu j hj ((iV (by omega)).2 ⟨i,hij,e⟩),fun x hx=>?_,fun x hx=>?_,fun x hx=>?_,h4⟩
 ·obtain⟨j,hj,rfl⟩:=bT.1 hx
  exact hn j hj
 ·obtain⟨j,hj,rfl⟩:=bT.1 hx
  have hjv:j<(vns s).length:=by omega
  have:=h3 j hjv
  unfold O5 at this
  rw[if_neg (fun e=>e (hn j hjv)),if_neg (hu j hjv),if_pos hj]at this
  rw[←Aq hj]
  exact Classical.byContradiction fun h=>by rw[if_neg h]at this;exact absurd this (by decide)
 ·obtain⟨i,hi,rfl⟩:=bT.1 hx
  have hjv:s.words.length+i<(vns s).length:=by omega
  have:=h3 _ hjv
  unfold O5 at this
  rw[if_neg (fun e=>e (hn _ hjv)),if_neg (hu _ hjv),if_neg (by omega),if_pos (by omega)]at this
  rw[←Ar hi]
  exact Classical.byContradiction fun h=>by rw[if_neg h]at this;exact absurd this (by decide)
 ·obtain⟨i,hi,rfl⟩:=bT.1 hx
  have hjv:s.words.length+s.B1.length+i<(vns s).length:=by omega
  have:=h3 _ hjv
  unfold O5 at this
  rw[if_neg (fun e=>e (hn _ hjv)),if_neg (hu _ hjv),if_neg (by omega),if_neg (by omega)]at this
  rw[←Au hi]
  by_cases hw:jm (J8 s.form) (Am.get (vns s) (s.words.length+s.B1.length+i))
  ·rw[if_pos hw]at this;exact absurd this (by decide)
  ·rw[if_neg hw]at this
   exact⟨hw,Classical.byContradiction fun h=>by rw[if_neg h]at this;exact absurd this (by decide)⟩
def ij(s:w8)(f:u6):Prop:=(f.kind=2∧f.words.length=0)∧f.name∈s.parts
instance(s:w8)(f:u6):Decidable (ij s f):=inferInstanceAs (Decidable (_∧_))
def mkw(W bd:List Bs)(w:Bs):Bs:=if w∈bd then 63::w else if w∈W then 46::w else w
def mkn(s:w8)(f:u6):Bs:=if QK f.kind then 63::f.name else if ij s f then 43::f.name else if f.kind=2∧f.name∈s.B1 then 33::f.name else f.name
mutual
def cC(s:w8):u6→List Bs→u6
 | .mk k n w l,bd=>.mk k (mkn s (.mk k n w l)) (w.map (mkw s.words bd)) (aU s l (if QK k then n::bd else bd))
def aU(s:w8):List u6→List Bs→List u6
 | [],_=>[]
 |f::l,bd=>cC s f bd::aU s l bd
end
theorem jo(s:w8)(f:u6)(bd:List Bs):cC s f bd= .mk f.kind (mkn s f) (f.words.map (mkw s.words bd)) (aU s f.subs (if QK f.kind then f.name::bd else bd)):=by cases f;rw[cC];rfl
theorem qq(s:w8):∀(l:List u6) (bd:List Bs),(aU s l bd).length=l.length
 | [],_=>by rw[aU]
 |f::l,bd=>by rw[aU,List.length_cons,List.length_cons,qq s l]
theorem Aw{W bd bd':List Bs}(h:∀y,y∈bd↔y∈bd')(w:Bs):mkw W bd w=mkw W bd' w:=by
 unfold mkw
 by_cases e:w∈bd
 ·rw[if_pos e,if_pos ((h w).1 e)]
 ·rw[if_neg e,if_neg fun e'=>e ((h w).2 e')]
mutual
theorem uU(s:w8):∀(f:u6) (bd bd':List Bs),(∀y,y∈bd↔y∈bd')→cC s f bd=cC s f bd'
 | .mk k n w l,bd,bd',h=>by
   rw[cC,cC,mC s l _ (if QK k then n::bd' else bd') (fun y=>?_),List.map_congr_left fun x _=>Aw h x]
   split
   ·simp[h y]
   ·exact h y
theorem mC(s:w8):∀(l:List u6) (bd bd':List Bs),(∀y,y∈bd↔y∈bd')→aU s l bd=aU s l bd'
 | [],bd,bd',h=>by rw[aU,aU]
 |f::l,bd,bd',h=>by rw[aU,aU,uU s f bd bd' h,mC s l bd bd' h]
end
theorem Fg(s:w8)(f:u6):aH s f=some (decide (ij s f)):=by
 unfold aH ij
 simp only[bJ]
 by_cases h1:f.kind=2<;>by_cases h2:f.words.length=0<;>simp[h1,h2,gd]
theorem Ax{f:u6}(hwf:WfF f){x:Bs}(hx:x∈f.words):A8 x:=(dS ((dL f).1 hwf).1).2.2.2.2 x hx
def pH(s:w8):w8:=⟨cC s s.form [],s.words.map (46:: ·),s.B1.map (33:: ·),s.parts.map (43:: ·)⟩
def zf:u6:=.mk 0 [] [] []
abbrev Env:=List (Bs×w7)
theorem lT{V:Type}(k:Bs)(v:V):∀m:List (Bs×V),assoc k (y6 k v m)=some v
 | []=>by simp[y6,assoc]
 |(a,u)::m=>by
  rw[y6]
  split
  ·simp[assoc]
  ·rename_i h
   rw[assoc,if_neg h,lT k v m]
theorem rD{V:Type}{k k':Bs}(h:k'≠k)(v:V):∀m:List (Bs×V),assoc k' (y6 k v m)=assoc k' m
 | []=>by
   show(if k'=k then some v else assoc k' ([]:List (Bs×V)))=_
   rw[if_neg h]
 |(a,u)::m=>by
  rw[y6]
  split
  ·rename_i e
   subst e
   rw[assoc,assoc,if_neg h,if_neg h]
  ·rw[assoc,assoc,rD h v m]
open Classical in
noncomputable def tB(env:Env)(b:w7):Option Env:=match assoc b.name env with
 |none=>some (y6 b.name b env)
 |some b'=>if b'=b then some env else none
noncomputable def fh:Env→List w7→Option Env
 |env,[]=>some env
 |env,b::l=>(tB env b).bind fun e=>fh e l
theorem wu:∀(a b:List w7) (env:Env),fh env (a++b)=(fh env a).bind fun e=>fh e b
 | [],b,env=>rfl
 |x::a,b,env=>by
  rw[List.cons_append,fh,fh]
  cases tB env x with
  |none=>rfl
  |some e=>exact wu a b e
theorem kX{env e:Env}{b:w7}(h:tB env b=some e):assoc b.name e=some b∧(∀k c,assoc k env=some c→assoc k e=some c)∧(∀k c,assoc k e=some c→assoc k env=some c∨(b.name=k∧b=c)):=by
 unfold tB at h
 split at h
 ·rename_i h0
  cases h
  refine⟨lT _ _ _,fun k c hc=>?_,fun k c hc=>?_⟩
  ·by_cases e:k=b.name
   ·rw[e,h0]at hc;cases hc
   ·rw[rD e];exact hc
  ·by_cases e:k=b.name
   ·rw[e,lT]at hc
    exact .inr ⟨e.symm,Option.some.inj hc⟩
   ·rw[rD e]at hc;exact .inl hc
 ·rename_i b' h0
  split at h
  ·rename_i hb
   cases h
   exact⟨by rw[h0,hb],fun k c hc=>hc,fun k c hc=>.inl hc⟩
  ·cases h
theorem nk:∀(ps:List w7) (env e:Env),fh env ps=some e→(∀b∈ps,assoc b.name e=some b)∧(∀k c,assoc k env=some c→assoc k e=some c)∧(∀k c,assoc k e=some c→assoc k env=some c∨(∃b∈ps,b.name=k∧b=c))
 | [],env,e,h=>by cases h;exact⟨fun b hb=>(by cases hb),fun k c hc=>hc,fun k c hc=>.inl hc⟩
 |b::l,env,e,h=>by
  rw[fh]at h
  cases hp:tB env b with
  |none=>rw[hp]at h;cases h
  |some e1=>
   rw[hp]at h
   obtain⟨p1,p2,p3⟩:=kX hp
   obtain⟨r1,r2,r3⟩:=nk l e1 e h
   refine⟨fun c hc=>?_,fun k c hc=>r2 k c (p2 k c hc),fun k c hc=>?_⟩
   ·rcases List.mem_cons.1 hc with rfl|hc
    ·exact r2 _ _ p1
    ·exact r1 c hc
   ·rcases r3 k c hc with h|⟨x,hx,h1,h2⟩
    ·rcases p3 k c h with h|⟨h1,h2⟩
     ·exact .inl h
     ·exact .inr ⟨b,List.mem_cons_self ..,h1,h2⟩
    ·exact .inr ⟨x,List.mem_cons_of_mem _ hx,h1,h2⟩
def IsKey(k:Bs):Prop:=∃c t,k=c::t∧(c=33∨c=43∨c=46∨c=63)
theorem wv{x:Bs}(h:A8 x):¬IsKey x:=fun⟨c,t,e,hc⟩=>by
 have:=h.2.2.1.1
 subst e
 rcases hc with rfl|rfl|rfl|rfl<;>simp[B3]at this
def mJ(b:w7):Prop:=SmF b.form∧((∃x,b.name=43::x∧b.text=[])∨(∃c x,b.name=c::x∧(c=33∨c=46∨c=63)∧b.form=zf))
def jV(env:Env):Prop:=∀k b,assoc k env=some b→b.name=k∧mJ b
theorem Ay{env e:Env}{b:w7}(h:jV env)(hb:mJ b)(hp:tB env b=some e):jV e:=fun k c hc=>by
 rcases(kX hp).2.2 k c hc with h1|⟨rfl,rfl⟩
 ·exact h k c h1
 ·exact⟨rfl,hb⟩
theorem Az{env e:Env}{ps:List w7}(h:jV env)(hb:∀b∈ps,mJ b)(hp:fh env ps=some e):jV e:=fun k c hc=>by
 rcases(nk _ _ _ hp).2.2 k c hc with h1|⟨b,hm,h1,h2⟩
 ·exact h k c h1
 ·subst h2;exact⟨h1,hb _ hm⟩
theorem mJ.key{b:w7}(h:mJ b):IsKey b.name:=by
 rcases h.2 with⟨x,e,_⟩|⟨c,x,e,hc,_⟩
 ·exact⟨43,x,e,by simp⟩
 ·exact⟨c,x,e,by rcases hc with h|h|h<;>simp[h]⟩
theorem Ir:SmF zf:=by unfold zf;rw[SmF];exact⟨by decide,by decide,by rw[qp];trivial⟩
theorem xJ{c:UInt8}{x y:Bs}(h:c=33∨c=46∨c=63):mJ ⟨c::x,y,zf⟩:=⟨Ir,.inr ⟨c,x,rfl,h,rfl⟩⟩
def cat(a b:Option (List w7)):Option (List w7):=a.bind fun x=>b.bind fun y=>some (x++y)
theorem uV(a b:Option (List w7))(s:Env):(cat a b).bind (fh s)=(a.bind (fh s)).bind fun s'=>b.bind (fh s'):=by
 cases a with
 |none=>rfl
 |some x=>
  cases b with
  |none=>
   show none=(fh s x).bind fun s'=>none
   cases fh s x<;>rfl
  |some y=>exact wu x y s
theorem CN(o:Option (List w7))(b:w7)(s:Env):(o.map (b:: ·)).bind (fh s)=(tB s b).bind fun s'=>o.bind (fh s'):=by
 cases o with
 |none=>show none=_;cases tB s b<;>rfl
 |some x=>rfl
def ptw(W bd:List Bs):List Bs→List Bs→Option (List w7)
 |x::xs,y::ys=>if x∈bd then(ptw W bd xs ys).map (⟨63::x,y,zf⟩:: ·)else if x∈W then(ptw W bd xs ys).map (⟨46::x,y,zf⟩:: ·)else if x=y then ptw W bd xs ys else none
 | _,_=>some []
def pth(s:w8)(f g:u6):Option (List w7):=
 if QK f.kind then some [⟨63::f.name,g.name,zf⟩]else if f.kind=2∧f.name∈s.B1 then some [⟨33::f.name,g.name,zf⟩]else if f.name=g.name then some []else none
mutual
def pts(s:w8):u6→List Bs→u6→Option (List w7)
 | .mk k n w l,bd,g=>if ij s (.mk k n w l)then some [⟨43::n,[],g⟩]
   else if k≠g.kind∨w.length≠g.words.length then none
   else cat (pth s (.mk k n w l) g) (cat (ptw s.words bd w g.words) (tC s l (if QK k then n::bd else bd) g.subs))
def tC(s:w8):List u6→List Bs→List u6→Option (List w7)
 | [],_,_=>some []
 |f::l,bd,gs=>match gs with
  | []=>some []
  |g::gs=>cat (pts s f bd g) (tC s l bd gs)
end
theorem Iu(s:w8)(f:u6)(bd:List Bs)(g:u6):pts s f bd g=if ij s f then some [⟨43::f.name,[],g⟩]else if f.kind≠g.kind∨f.words.length≠g.words.length then none else cat (pth s f g) (cat (ptw s.words bd f.words g.words) (tC s f.subs (if QK f.kind then f.name::bd else bd) g.subs)):=by cases f;rw[pts];rfl
theorem AA{a b:Option (List w7)}{Q:w7→Prop}(ha:∀x,a=some x→∀c∈x,Q c)(hb:∀x,b=some x→∀c∈x,Q c):∀x,cat a b=some x→∀c∈x,Q c:=fun x hx c hc=>by
 unfold cat at hx
 cases a with
 |none=>cases hx
 |some y=>
  cases b with
  |none=>cases hx
  |some z=>
   cases hx
   rcases List.mem_append.1 hc with h|h
   ·exact ha y rfl c h
   ·exact hb z rfl c h
theorem DK(W bd:List Bs):∀(xs ys:List Bs) (ps:List w7),ptw W bd xs ys=some ps→∀b∈ps,mJ b
 | [],ys,ps,h,b,hb=>by rw[ptw]at h;cases h;cases hb;simp
 |x::xs,[],ps,h,b,hb=>by rw[ptw]at h;cases h;cases hb;simp
 |x::xs,y::ys,ps,h,b,hb=>by
  rw[ptw]at h
  have ih:=DK W bd xs ys
  have mp:∀c:w7,mJ c→(ptw W bd xs ys).map (c:: ·)=some ps→mJ b:=fun c hc h=>by
   cases hp:ptw W bd xs ys with
   |none=>rw[hp]at h;cases h
   |some q=>
    rw[hp]at h;cases h
    rcases List.mem_cons.1 hb with rfl|hb
    ·exact hc
    ·exact ih q hp b hb
  split at h
  ·exact mp _ (xJ (.inr (.inr rfl))) h
  ·split at h
   ·exact mp _ (xJ (.inr (.inl rfl))) h
   ·split at h
    ·exact ih ps h b hb
    ·cases h
theorem Iv(s:w8)(f g:u6)(ps:List w7)(h:pth s f g=some ps):∀b∈ps,mJ b:=fun b hb=>by
 unfold pth at h
 split at h
 ·cases h
  rw[List.mem_singleton]at hb;subst hb
  exact xJ (.inr (.inr rfl))
 ·split at h
  ·cases h
   rw[List.mem_singleton]at hb;subst hb
   exact xJ (.inl rfl)
  ·split at h
   ·cases h;cases hb
   ·cases h
mutual
theorem AB(s:w8):∀(f:u6) (bd:List Bs) (g:u6),SmF g→∀ps,pts s f bd g=some ps→∀b∈ps,mJ b
 | .mk k n w l,bd,g,hg,ps,h,b,hb=>by
   rw[pts]at h
   split at h
   ·cases h
    rw[List.mem_singleton]at hb;subst hb
    exact⟨hg,.inl ⟨n,rfl,rfl⟩⟩
   ·split at h
    ·cases h
    ·exact AA (fun x hx=>Iv s _ g x hx) (AA (fun x hx=>DK _ _ _ _ x hx) (fun x hx=>AE s l _ g.subs ((Ao g).1 hg).2.2 x hx)) ps h b hb
theorem AE(s:w8):∀(l:List u6) (bd:List Bs) (gs:List u6),qp gs→∀ps,tC s l bd gs=some ps→∀b∈ps,mJ b
 | [],bd,gs,hg,ps,h,b,hb=>by rw[tC]at h;cases h;cases hb
 |f::l,bd,[],hg,ps,h,b,hb=>by rw[tC]at h;cases h;cases hb
 |f::l,bd,g::gs,hg,ps,h,b,hb=>by
  rw[tC]at h
  rw[qp]at hg
  exact AA (fun x hx=>AB s f bd g hg.1 x hx) (fun x hx=>AE s l bd gs hg.2 x hx) ps h b hb
end
theorem CO(a b:List Bs):G1 a b=some (decide (a=b)):=by
 have h:Evt (fun _=>G1 a b) (fun r=>r=decide (a=b)):=by
  unfold G1
  refine Evt.cond (fun e=>Evt.pure ?_) (fun e=>?_)
  ·replace e:=bx e
   exact(decide_eq_false fun h=>e (by rw[h])).symm
  replace e:=bx e
  have hl:a.length=b.length:=by omega
  refine Evt.B2 (Evt.scan (fun k _=>a.take k=b.take k) (fun k r=>r=false∧Am.get a k≠Am.get b k) (by simp) (fun k u hk hi=>?_)) (fun t ht=>?_) (fun r hr=>?_)
  ·unfold L0
   refine Evt.chk (by omega) (Evt.cond (fun e=>Evt.pure ?_) (fun e=>Evt.pure ?_))
   ·replace e:=bx e
    exact⟨rfl,e⟩
   ·replace e:=bx e
    show a.take (k+1)=b.take (k+1)
    rw[U9 hk,U9 (l:=b) (by omega),hi,e]
  ·unfold L1
   refine Evt.pure (decide_eq_true ?_).symm
   have ht:a.take a.length=b.take a.length:=ht
   rw[List.take_length,hl,List.take_length]at ht
   exact ht
  ·obtain⟨k,_,_,_,rfl,h⟩:=hr
   exact(decide_eq_false fun e=>h (by rw[e])).symm
 obtain⟨r,rfl,N,hN⟩:=h
 exact hN N (Nat.le_refl _)
open Classical in
theorem Fh:∀(m:Nat) (f:u6),SizeOf.sizeOf f≤m→SmF f→∀g:u6,Evt (fun n=>br n f g) (fun r=>r=decide (f=g)):=by
 intro m
 induction m with
 |zero=>intro f h;cases f;simp only[u6.mk.sizeOf_spec]at h;omega
 |succ m ih=>
  intro f hf hsm g
  obtain⟨_,hsl,hsm⟩:=(Ao f).1 hsm
  refine Evt.succ ?_
  simp only[br,CO]
  refine Evt.bind (P:=fun v=>f.kind=g.kind→f.name=g.name→v=decide (f.words=g.words)) (Evt.gd (fun _=>Evt.pure fun _ _=>by congr) (fun h h1 h2=>by simp[h1,h2]at h)) fun v hv=>?_
  refine Evt.cond (fun e=>Evt.pure (decide_eq_false fun h=>?_).symm) (fun e=>?_)
  ·subst h
   have:=hv rfl rfl
   simp[this]at e
  have e1:f.kind=g.kind:=Classical.byContradiction fun h=>by simp[h]at e
  have e2:f.name=g.name:=Classical.byContradiction fun h=>by simp[h]at e
  have e3:f.words=g.words:=Classical.byContradiction fun h=>by have:=hv e1 e2;rw[decide_eq_false h]at this;simp[this]at e
  have e4:f.subs.length=g.subs.length:=Classical.byContradiction fun h=>by
   have:¬((f.subs.length:Int)=(g.subs.length:Int)):=by omega
   rw[decide_eq_false this]at e
   revert e
   cases (bif bif !decide (f.kind=g.kind)then true else !decide (f.name=g.name)then true else !v)<;>simp
  refine Evt.chk (by omega) (Evt.B2 (Evt.scan (fun k _=>f.subs.take k=g.subs.take k) (fun k r=>r=false∧Am.get f.subs k≠Am.get g.subs k) (by simp) (fun k u hk hi=>?_)) (fun t ht=>?_) (fun r hr=>?_))
  ·unfold cR
   have hsz:=bU hk
   refine Evt.chk (by omega) (Evt.bind (ih _ (by omega) (rB hsm _ (get_mem hk)) _) fun v2 hv2=>Evt.cond (fun e=>Evt.pure ?_) (fun e=>Evt.pure ?_))
   ·subst hv2
    exact⟨rfl,fun h=>by rw[decide_eq_true h]at e;cases e⟩
   ·subst hv2
    have h:Am.get f.subs k=Am.get g.subs k:=Classical.byContradiction fun h=>by rw[decide_eq_false h]at e;cases e
    show f.subs.take (k+1)=g.subs.take (k+1)
    rw[U9 hk,U9 (l:=g.subs) (by omega),hi,h]
  ·unfold cS
   refine Evt.pure (decide_eq_true ?_).symm
   have ht:f.subs.take f.subs.length=g.subs.take f.subs.length:=ht
   rw[List.take_length,e4,List.take_length]at ht
   cases f;cases g
   simp only[u6.kind,u6.name,u6.words,u6.subs]at*
   rw[e1,e2,e3,ht]
  ·obtain⟨k,_,_,_,rfl,h⟩:=hr
   exact(decide_eq_false fun e=>h (by rw[e])).symm
def RM(o:Option Env)(r:Bool×Env):Prop:=(∀e,o=some e→r=(true,e))∧(o=none→r.1=false)
theorem tD{env:Env}(he:jV env){c:UInt8}(hc:c=33∨c=46∨c=63)(x y:Bs):Evt (fun _=>S7 (c::x) y env) (RM (tB env ⟨c::x,y,zf⟩)):=by
 unfold S7 tB
 cases h:assoc (c::x) env with
 |none=>
  refine Evt.cond (fun e=>by simp at e) (fun _=>Evt.aB (Evt.pure ?_))
  simp only[h]
  exact⟨fun e he=>by cases he;rfl,fun he=>by cases he⟩
 |some b=>
  refine Evt.cond (fun _=>Evt.pure ?_) (fun e=>by simp at e)
  simp only[h]
  obtain⟨h1,h2⟩:=he _ _ h
  have hiff:b=⟨c::x,y,zf⟩↔b.text=y:=by
   constructor
   ·intro e;rw[e]
   ·intro e
    obtain⟨_,h2⟩:=h2
    rcases h2 with⟨z,e1,_⟩|⟨c',z,e1,hc',e2⟩
    ·rw[h1]at e1
     have:=(List.cons.inj e1).1
     rcases hc with rfl|rfl|rfl<;>cases this
    ·cases b
     simp only at h1 e2 e
     rw[h1,e,e2]
  by_cases hb:b.text=y
  ·rw[if_pos (hiff.2 hb)]
   refine⟨fun e he=>?_,fun he=>by cases he⟩
   cases he
   show(decide (((some b).getD default).text=y),env)=_
   rw[decide_eq_true (show((some b).getD default).text=y from hb)]
  ·rw[if_neg fun e=>hb (hiff.1 e)]
   exact⟨fun e he=>(by cases he),fun _=>decide_eq_false hb⟩
def Has(bd:List Bs)(env:Env):Prop:=∀x∈bd,(assoc (63::x) env).isSome=true
theorem Has.mono{bd:List Bs}{env e:Env}(h:Has bd env)(hm:∀k c,assoc k env=some c→assoc k e=some c):Has bd e:=fun x hx=>by
 obtain⟨c,hc⟩:=Option.isSome_iff_exists.1 (h x hx)
 rw[hm _ _ hc];rfl
theorem rE{c:UInt8}{x:Bs}{l:List Bs}:(c::x)∈l.map (c:: ·)↔x∈l:=by
 rw[List.mem_map]
 exact⟨fun⟨y,hy,e⟩=>(List.cons.inj e).2▸hy,fun h=>⟨x,h,rfl⟩⟩
theorem AF{c:UInt8}(hc:c=33∨c=43∨c=46∨c=63){k:Bs}{l:List Bs}(h:k∈l.map (c:: ·)):IsKey k:=by
 obtain⟨y,_,rfl⟩:=List.mem_map.1 h
 exact⟨c,y,rfl,hc⟩
theorem CP{env:Env}(he:jV env){x:Bs}(hx:¬IsKey x):assoc x env=none:=by
 cases h:assoc x env with
 |none=>rfl
 |some b=>
  obtain⟨h1,h2⟩:=he _ _ h
  exact absurd (h1▸h2.key) hx
section
variable {s:w8}
theorem wz{xs:List Bs}{k:Nat}(h:k<xs.length):xs.drop k=Am.get xs k::xs.drop (k+1):=Fa h
theorem Fi(W bd ys:List Bs):ptw W bd [] ys=some []:=by cases ys<;>simp[ptw]
theorem CQ(env:Env)(b:w7):fh env [b]=tB env b:=by
 rw[fh]
 cases tB env b<;>rfl
theorem CS{f g:u6}(hf:WfF f)(hlen:f.words.length=g.words.length)(bd:List Bs){env:Env}(he:jV env)(hh:Has bd env):
 Evt (fun _=>G2 (S8 (cC s f bd) (pH s) g) (cC s f bd).words.length env) (ExP (fun t=>(ptw s.words bd f.words g.words).bind (fh env)=some t∧jV t∧Has bd t) (fun r=>(ptw s.words bd f.words g.words).bind (fh env)=none∧r.1=false)):=by
 have hml:(cC s f bd).words.length=f.words.length:=by rw[jo];exact List.length_map _
 rw[hml]
 refine(Evt.range (fun k t=>(ptw s.words bd f.words g.words).bind (fh env)=(ptw s.words bd (f.words.drop k) (g.words.drop k)).bind (fh t)∧jV t∧Has bd t) (fun _=>False) (fun r=>(ptw s.words bd f.words g.words).bind (fh env)=none∧r.1=false) ⟨rfl,he,hh⟩ (fun k t hk ht=>?_)).mono fun e h=>?_
 ·obtain⟨ht,hte,hth⟩:=ht
  have hkg:k<g.words.length:=by omega
  have hkm:Am.get (cC s f bd).words k=mkw s.words bd (Am.get f.words k):=by rw[jo];exact get_map _ hk
  rw[wz hk,wz hkg,ptw]at ht
  unfold S8
  simp only[hkm,bJ]
  have nx:¬IsKey (Am.get f.words k):=wv (Ax hf (get_mem hk))
  have fin:∀(c:UInt8),c=46∨c=63→(ptw s.words bd f.words g.words).bind (fh env)=((ptw s.words bd (f.words.drop (k+1)) (g.words.drop (k+1))).map (⟨c::Am.get f.words k,Am.get g.words k,zf⟩:: ·)).bind (fh t)→
   Evt (fun _:Nat=>chk ((k:Int)<(g.words.length:Int)) <| (S7 (c::Am.get f.words k) (Am.get g.words k) t).bind fun v14=>bif (!v14.1)then some (Ctl.ret (τ:=Env) (false,v14.2))else some (.nxt v14.2)) (zC (fun t=>(ptw s.words bd f.words g.words).bind (fh env)=(ptw s.words bd (f.words.drop (k+1)) (g.words.drop (k+1))).bind (fh t)∧jV t∧Has bd t) (fun _=>False) (fun r=>(ptw s.words bd f.words g.words).bind (fh env)=none∧r.1=false)):=by
   intro c hc ht
   rw[CN]at ht
   refine Evt.chk (by omega) (Evt.bind (tD hte (hc.elim (fun h=>.inr (.inl h)) fun h=>.inr (.inr h)) _ _) fun v hv=>?_)
   cases hp:tB t ⟨c::Am.get f.words k,Am.get g.words k,zf⟩with
   |none=>
    rw[hp]at ht hv
    have h1:=hv.2 rfl
    refine Evt.cond (fun _=>Evt.pure ⟨ht,rfl⟩) (fun e=>by rw[h1]at e;cases e)
   |some t'=>
    rw[hp]at ht hv
    have h1:=hv.1 _ rfl
    subst h1
    refine Evt.cond (fun e=>by cases e) (fun _=>Evt.pure ⟨ht,Ay hte (xJ (hc.elim (fun h=>.inr (.inl h)) fun h=>.inr (.inr h))) hp,hth.mono (kX hp).2.1⟩)
  by_cases h1:Am.get f.words k∈bd
  ·rw[if_pos h1]at ht
   have e1:mkw s.words bd (Am.get f.words k)=63::Am.get f.words k:=by unfold mkw;rw[if_pos h1]
   rw[e1]
   have h2:=hth _ h1
   simp only[h2]
   exact fin 63 (.inr rfl) ht
  ·rw[if_neg h1]at ht
   by_cases h2:Am.get f.words k∈s.words
   ·rw[if_pos h2]at ht
    have e1:mkw s.words bd (Am.get f.words k)=46::Am.get f.words k:=by unfold mkw;rw[if_neg h1,if_pos h2]
    rw[e1]
    have h3:decide (46::Am.get f.words k∈(pH s).words)=true:=decide_eq_true (rE.2 h2)
    simp only[h3]
    cases h4:(assoc (46::Am.get f.words k) t).isSome
    ·exact fin 46 (.inl rfl) ht
    ·exact fin 46 (.inl rfl) ht
   ·rw[if_neg h2]at ht
    have e1:mkw s.words bd (Am.get f.words k)=Am.get f.words k:=by unfold mkw;rw[if_neg h1,if_neg h2]
    rw[e1]
    have h3:(assoc (Am.get f.words k) t).isSome=false:=by rw[CP hte nx];rfl
    have h4:decide (Am.get f.words k∈(pH s).words)=false:=decide_eq_false fun h=>nx (AF (.inr (.inr (.inl rfl))) h)
    simp only[h3,h4]
    refine Evt.chk (by omega) (Evt.cond (fun e=>Evt.pure ?_) (fun e=>Evt.pure ?_))
    ·replace e:=bx e
     rw[if_neg e]at ht
     exact⟨ht,rfl⟩
    ·replace e:=bx e
     rw[if_pos e]at ht
     exact⟨ht,hte,hth⟩
 ·cases e with
  |ret r=>exact h
  |nxt t=>
   obtain⟨h1,h2,h3⟩:=h.elim id False.elim
   rw[List.drop_length,Fi]at h1
   exact⟨h1,h2,h3⟩
open Classical in
theorem Iw:∀(m:Nat) (f:u6),SizeOf.sizeOf f≤m→WfF f→∀(g:u6),WfF g→∀(bd:List Bs) (env:Env),jV env→Has bd env→
 Evt (fun n=>D4 n (pH s) (cC s f bd) g env) (RM ((pts s f bd g).bind (fh env))):=by
 intro m
 induction m with
 |zero=>intro f h;cases f;simp only[u6.mk.sizeOf_spec]at h;omega
 |succ m ih=>
  intro f hf hwf g hwg bd env he hh
  have hnf:=dS ((dL f).1 hwf).1
  have hng:=dS ((dL g).1 hwg).1
  have hml:(cC s f bd).words.length=f.words.length:=by rw[jo];exact List.length_map _
  have hmk:(cC s f bd).kind=f.kind:=by rw[jo];rfl
  have hmn:(cC s f bd).name=mkn s f:=by rw[jo];rfl
  have hms:(cC s f bd).subs=aU s f.subs (if QK f.kind then f.name::bd else bd):=by rw[jo];rfl
  have hk2:f.kind=2→¬QK f.kind:=fun h=>by unfold QK;omega
  have hplain:f.kind=2→¬IsKey f.name:=fun h=>wv (hnf.2.2.1 (.inl h))
  have hpart:ij (pH s) (cC s f bd)↔ij s f:=by
   unfold ij
   rw[hmk,hml,hmn]
   constructor
   ·rintro⟨h1,h2⟩
    refine⟨h1,?_⟩
    unfold mkn at h2
    rw[if_neg (hk2 h1.1)]at h2
    split at h2
    ·rename_i h3;exact h3.2
    ·exfalso
     obtain⟨y,_,e⟩:=List.mem_map.1 h2
     split at e
     ·cases (List.cons.inj e).1
     ·exact hplain h1.1 (e▸ ⟨43,y,rfl,by simp⟩)
   ·rintro⟨h1,h2⟩
    refine⟨h1,?_⟩
    unfold mkn
    rw[if_neg (hk2 h1.1),if_pos (show ij s f from⟨h1,h2⟩)]
    exact rE.2 h2
  refine Evt.succ ?_
  simp only[D4,Fg,Option.bind_some,nj,bJ,hmk,hml,hmn]
  rw[Iu]
  refine Evt.cond (fun e=>?_) (fun e=>?_)
  ·have hp:ij s f:=hpart.1 (of_decide_eq_true e)
   rw[if_pos hp]
   have Na:mkn s f=43::f.name:=by unfold mkn;rw[if_neg (hk2 hp.1.1),if_pos hp]
   rw[Na]
   show Evt _ (RM (fh env [_]))
   rw[CQ]
   unfold tB
   cases h:assoc (43::f.name) env with
   |none=>
    refine Evt.cond (fun e=>by simp at e) (fun _=>Evt.aB (Evt.pure ?_))
    exact⟨fun e he=>by cases he;rfl,fun he=>by cases he⟩
   |some b=>
    refine Evt.cond (fun _=>?_) (fun e=>by simp at e)
    obtain⟨h1,h2⟩:=he _ _ h
    have hsm:=h2.1
    have htx:b.text=[]:=by
     rcases h2.2 with⟨z,e1,e2⟩|⟨c',z,e1,hc',e2⟩
     ·exact e2
     ·rw[h1]at e1
      have:=(List.cons.inj e1).1
      rcases hc' with rfl|rfl|rfl<;>cases this
    have hiff:b=⟨43::f.name,[],g⟩↔b.form=g:=by
     constructor
     ·intro e;rw[e]
     ·intro e
      cases b
      simp only at h1 htx e
      rw[h1,htx,e]
    refine Evt.bind (Fh _ b.form (Nat.le_refl _) hsm g) fun v hv=>Evt.pure ?_
    subst hv
    by_cases hb:b.form=g
    ·simp only[if_pos (hiff.2 hb),decide_eq_true hb]
     exact⟨fun e he=>by cases he;rfl,fun he=>by cases he⟩
    ·simp only[if_neg fun e=>hb (hiff.1 e),decide_eq_false hb]
     exact⟨fun e he=>(by cases he),fun _=>rfl⟩
  have hp:¬ij s f:=fun h=>(of_decide_eq_false e) (hpart.2 h)
  rw[if_neg hp]
  refine Evt.cond (fun e=>Evt.pure ?_) (fun e=>?_)
  ·have hc:f.kind≠g.kind∨f.words.length≠g.words.length:=Classical.byContradiction fun h=>by
    obtain⟨h1,h2⟩:=not_or.1 h
    have h1:=Classical.not_not.1 h1
    have h2:=Classical.not_not.1 h2
    simp[h1,h2]at e
   rw[if_pos hc]
   exact⟨fun e he=>(by cases he),fun _=>rfl⟩
  have hk:f.kind=g.kind:=Classical.byContradiction fun h=>by simp[h]at e
  have hl:f.words.length=g.words.length:=Classical.byContradiction fun h=>by
   have:¬((f.words.length:Int)=(g.words.length:Int)):=by omega
   simp[this]at e
  rw[if_neg fun h=>h.elim (fun h=>h hk) (fun h=>h hl),uV]
  have hsl:f.subs.length=g.subs.length:=by have:=hnf.1;have:=hng.1;rw[hk]at *; omega
  have rest:∀Gr:Env,jV Gr→Has bd Gr→Has (if QK f.kind then f.name::bd else bd) Gr→Evt (fun n=>L7 (D4 n) (cC s f bd) (pH s) g Gr) (RM ((cat (ptw s.words bd f.words g.words) (tC s f.subs (if QK f.kind then f.name::bd else bd) g.subs)).bind (fh Gr))):=by
   intro Gr he1 hh1 Nb
   rw[uV]
   unfold L7
   refine Evt.B2 (CS hwf hl bd he1 hh1) (fun t ht=>?_) (fun r hr=>?_)
   ·obtain⟨ht,hte,hth⟩:=ht
    have hmono:Has (if QK f.kind then f.name::bd else bd) t:=by
     cases hw:ptw s.words bd f.words g.words with
     |none=>rw[hw]at ht;cases ht
     |some ps=>rw[hw]at ht;exact Nb.mono (nk _ _ _ ht).2.1
    rw[ht]
    unfold Y5
    rw[hms,qq]
    refine Evt.B2 (P:=ExP (fun t'=>(tC s f.subs (if QK f.kind then f.name::bd else bd) g.subs).bind (fh t)=some t') (fun r=>(tC s f.subs (if QK f.kind then f.name::bd else bd) g.subs).bind (fh t)=none∧r.1=false)) ((Evt.range (fun k t'=>(tC s f.subs (if QK f.kind then f.name::bd else bd) g.subs).bind (fh t)=(tC s (f.subs.drop k) (if QK f.kind then f.name::bd else bd) (g.subs.drop k)).bind (fh t')∧jV t'∧Has (if QK f.kind then f.name::bd else bd) t') (fun _=>False) (fun r=>(tC s f.subs (if QK f.kind then f.name::bd else bd) g.subs).bind (fh t)=none∧r.1=false) ⟨rfl,hte,hmono⟩ (fun k t' hk ht'=>?_)).mono fun e h=>?_) (fun t' ht'=>?_) (fun r hr=>?_)
    ·obtain⟨ht',LV,LW⟩:=ht'
     have hkg:k<g.subs.length:=by omega
     have hkm:Am.get (cC s f bd).subs k=cC s (Am.get f.subs k) (if QK f.kind then f.name::bd else bd):=by
      rw[hms]
      have:∀(l:List u6) (bd:List Bs) (k:Nat),k<l.length→Am.get (aU s l bd) k=cC s (Am.get l k) bd:=by
       intro l
       induction l with
       |nil=>intro bd k h;cases h
       |cons a l ih=>
        intro bd k h
        rw[aU]
        cases k with
        |zero=>rfl
        |succ k=>exact ih bd k (by simpa using h)
      exact this _ _ _ hk
     have e1:f.subs.drop k=Am.get f.subs k::f.subs.drop (k+1):=by rw[List.drop_eq_getElem_cons hk];simp[Am.get,hk]
     have e2:g.subs.drop k=Am.get g.subs k::g.subs.drop (k+1):=by rw[List.drop_eq_getElem_cons hkg];simp[Am.get,hkg]
     rw[e1,e2,tC,uV]at ht'
     unfold Y6
     simp only[hkm]
     have hsz:=bU hk
     refine Evt.chk (by omega) (Evt.bind (ih _ (by omega) (qk hwf hk) _ (qk hwg hkg) _ t' LV LW) fun v hv=>?_)
     cases hp:(pts s (Am.get f.subs k) (if QK f.kind then f.name::bd else bd) (Am.get g.subs k)).bind (fh t')with
     |none=>
      rw[hp]at ht' hv
      have h1:=hv.2 rfl
      exact Evt.cond (fun _=>Evt.pure ⟨ht',rfl⟩) (fun e=>by rw[h1]at e;cases e)
     |some t''=>
      rw[hp]at ht' hv
      have h1:=hv.1 _ rfl
      subst h1
      refine Evt.cond (fun e=>by cases e) (fun _=>Evt.pure ⟨ht',?_,?_⟩)
      ·cases hq:pts s (Am.get f.subs k) (if QK f.kind then f.name::bd else bd) (Am.get g.subs k)with
       |none=>rw[hq]at hp;cases hp
       |some ps=>rw[hq]at hp;exact Az LV (AB s _ _ _ (WfF.sm _ (qk hwg hkg)) ps hq) hp
      ·cases hq:pts s (Am.get f.subs k) (if QK f.kind then f.name::bd else bd) (Am.get g.subs k)with
       |none=>rw[hq]at hp;cases hp
       |some ps=>rw[hq]at hp;exact LW.mono (nk _ _ _ hp).2.1
    ·cases e with
     |ret r=>exact h
     |nxt t'=>
      obtain⟨h1,h2,h3⟩:=h.elim id False.elim
      rw[List.drop_length,tC]at h1
      exact h1
    ·unfold Y7
     have ht':(tC s f.subs (if QK f.kind then f.name::bd else bd) g.subs).bind (fh t)=some t':=ht'
     refine Evt.pure ?_
     show RM ((some t).bind _) _
     rw[Option.bind_some,ht']
     exact⟨fun e he=>by cases he;rfl,fun he=>by cases he⟩
    ·show RM ((some t).bind _) _
     rw[Option.bind_some,hr.1]
     exact⟨fun e he=>(by cases he),fun _=>hr.2⟩
   ·rw[hr.1]
    exact⟨fun e he=>(by cases he),fun _=>hr.2⟩
  have LX:∀c:UInt8,c=33∨c=63→mkn s f=c::f.name→pth s f g=some [⟨c::f.name,g.name,zf⟩]→(QK f.kind→c=63)→Evt (fun n=>I7 (D4 n) (cC s f bd) g env (pH s) true) (RM (((pth s f g).bind (fh env)).bind fun s'=>(cat (ptw s.words bd f.words g.words) (tC s f.subs (if QK f.kind then f.name::bd else bd) g.subs)).bind (fh s'))):=by
   intro c hc hm hpt hq
   have hc3:c=33∨c=46∨c=63:=hc.elim .inl fun h=>.inr (.inr h)
   unfold I7
   simp only[cond_true,hmn,hm,hpt]
   have e0:(some [(⟨c::f.name,g.name,zf⟩:w7)]).bind (fh env)=tB env ⟨c::f.name,g.name,zf⟩:=by
    show fh env [_]=_
    rw[fh]
    cases tB env ⟨c::f.name,g.name,zf⟩<;>rfl
   rw[e0]
   refine Evt.bind (tD he hc3 f.name g.name) fun v hv=>?_
   cases hp:tB env ⟨c::f.name,g.name,zf⟩with
   |none=>
    rw[hp]at hv
    have h1:=hv.2 rfl
    exact Evt.cond (fun _=>Evt.pure ⟨fun e he=>(by cases he),fun _=>rfl⟩) (fun e=>by rw[h1]at e;cases e)
   |some t=>
    rw[hp]at hv
    have h1:=hv.1 _ rfl
    subst h1
    refine Evt.cond (fun e=>by cases e) (fun _=>?_)
    have hm1:=hh.mono (kX hp).2.1
    refine rest t (Ay he (xJ hc3) hp) hm1 ?_
    by_cases hqk:QK f.kind
    ·rw[if_pos hqk]
     intro x hx
     rcases List.mem_cons.1 hx with rfl|hx
     ·have:=(kX hp).1
      obtain rfl:=hq hqk
      show(assoc (63::f.name) t).isSome=true
      rw[show assoc (63::f.name) t=some _ from this];rfl
     ·exact hm1 x hx
    ·rw[if_neg hqk];exact hm1
  refine Evt.cond (fun e=>?_) (fun e=>?_)
  ·have hq:QK f.kind:=of_decide_eq_true e
   rw[e]
   exact LX 63 (.inr rfl) (by unfold mkn;rw[if_pos hq]) (by unfold pth;rw[if_pos hq]) (fun _=>rfl)
  ·have hq:¬QK f.kind:=of_decide_eq_false e
   have Gs:mkn s f=if f.kind=2∧f.name∈s.B1 then 33::f.name else f.name:=by unfold mkn;rw[if_neg hq,if_neg hp]
   refine Evt.bind (P:=fun v=>f.kind=2→v=decide (mkn s f∈(pH s).B1)) (Evt.gd (fun _=>Evt.pure fun _=>rfl) (fun g h=>by simp[h]at g)) fun v hv=>?_
   by_cases hpr:f.kind=2∧f.name∈s.B1
   ·rw[if_pos hpr]at Gs
    have h1:=hv hpr.1
    rw[Gs,decide_eq_true (show(33::f.name:Bs)∈(pH s).B1 from rE.2 hpr.2)]at h1
    have e2:(bif decide (f.kind=2)then v else false)=true:=by simp[hpr.1,h1]
    rw[e2]
    exact LX 33 (.inl rfl) Gs (by unfold pth;rw[if_neg hq,if_pos hpr]) (fun h=>absurd h hq)
   ·rw[if_neg hpr]at Gs
    have e2:(bif decide (f.kind=2)then v else false)=false:=by
     by_cases h2:f.kind=2
     ·have h1:=hv h2
      rw[Gs,decide_eq_false (show ¬f.name∈(pH s).B1 from fun h=>hplain h2 (AF (.inl rfl) h))]at h1
      simp[h1]
     ·simp[h2]
    rw[e2]
    have hpt:pth s f g=if f.name=g.name then some []else none:=by unfold pth;rw[if_neg hq,if_neg hpr]
    unfold I7
    simp only[cond_false,hmn,Gs,hpt]
    refine Evt.cond (fun e=>Evt.pure ?_) (fun e=>?_)
    ·replace e:=bx e
     rw[if_neg e]
     exact⟨fun e he=>(by cases he),fun _=>rfl⟩
    ·replace e:=bx e
     rw[if_pos e]
     exact rest env he hh (by rw[if_neg hq];exact hh)
end
mutual
theorem CT(s:w8):∀(f:u6) (bd:List Bs),ndF (cC s f bd)=ndF f
 | .mk k n w l,bd=>by rw[cC,ndF,ndF,tE s l]
theorem tE(s:w8):∀(l:List u6) (bd:List Bs),aD (aU s l bd)=aD l
 | [],bd=>by rw[aU]
 |f::l,bd=>by rw[aU,aD,aD,CT s f,tE s l]
end
mutual
theorem CU(s:w8):∀(f:u6) (bd:List Bs),qs (cC s f bd)=(qs f).map (63:: ·)
 | .mk k n w l,bd=>by
   rw[cC,qs,qs,tF s l,List.map_append]
   by_cases h:QK k
   ·have:mkn s (.mk k n w l)=63::n:=by unfold mkn;exact if_pos h
    simp only[if_pos h,this];rfl
   ·simp only[if_neg h];rfl
theorem tF(s:w8):∀(l:List u6) (bd:List Bs),qsL (aU s l bd)=(qsL l).map (63:: ·)
 | [],bd=>by rw[aU,qsL];rfl
 |f::l,bd=>by rw[aU,qsL,qsL,CU s f,tF s l,List.map_append]
end
def Fj(s:w8):List Bs:=(s.words.map (46:: ·)++s.B1.map (33:: ·)++s.parts.map (43:: ·))++(qs s.form).map (63:: ·)
def txE(e:Env)(k:Bs):Bs:=((assoc k e).getD default).text
def fmE(e:Env)(k:Bs):u6:=((assoc k e).getD default).form
def caught(s:w8)(e:Env):Prop:=∃w∈s.words,txE e (46::w)∈(qs s.form).map fun x=>txE e (63::x)
open Classical in
noncomputable def CV(s:w8)(g:u6):List w7×Bool:=match (pts s s.form [] g).bind (fh [])with
 |none=>([],false)
 |some e=>if caught s e then([],false)else((Fj s).map fun k=>⟨k.drop 1,txE e k,fmE e k⟩,true)
theorem Ix{e:Env}(h:jV e)(k:Bs):SmF (fmE e k):=by
 unfold fmE
 cases hk:assoc k e with
 |none=>exact Ir
 |some b=>exact(h k b hk).2.1
theorem AG{k:Int}{n n':Bs}{w w':List Bs}{l l':List u6}(h:Z5 (.mk k n w l)=0)(hn:k=2→n'=n)(hq:QK k→A8 n')(hn2:¬(k=2∨QK k)→n'=n)(hw:w'.length=w.length)(hl:l'.length=l.length)(hx:∀x∈w',A8 x):Z5 (.mk k n' w' l')=0:=by
 have o:=dS h
 refine CD (by have:=o.1;show 0≤arF k;have h2:((l.length:Nat):Int)=arF k:=this;omega) (by show(l'.length:Int)=arF k;rw[hl];exact o.1) (by show dQ k w'.length;rw[hw];exact o.2.1) (fun h=>?_) (fun h=>?_) hx
 ·rcases h with h|h
  ·have h:k=2:=h
   have:=o.2.2.1 (.inl h)
   show A8 n'
   rw[hn h];exact this
  ·exact hq h
 ·show n'=[]
  rw[hn2 h];exact o.2.2.2.1 h
mutual
theorem Iy(N:Nat→Bs)(q:Nat)(hN:∀i,i<q→A8 (N i)):∀(f:u6) (env:List (Bs×Bs)) (i:Nat),WfF f→i+nq f≤q→(∀p∈env,A8 p.2)→WfF (ren N f env i)
 | .mk k n w s,env,i,h,hq,DL=>by
   have h0:=(dL _).1 h
   have hnn:Z5 (.mk k n w s)=0:=h0.1
   have hss:ni s:=h0.2
   rw[nq]at hq
   rw[ren,dL]
   refine⟨AG hnn (fun e=>if_neg (by unfold QK;omega)) (fun e=>?_) (fun e=>if_neg fun e2=>e (.inr e2)) (List.length_map _) (rj _ _ _ _) (fun x hx=>?_),?_⟩
   ·rw[if_pos e]
    rw[if_pos e]at hq
    exact hN i (by omega)
   ·obtain⟨y,hy,rfl⟩:=List.mem_map.1 hx
    have hyn:A8 y:=Ax h hy
    by_cases hm:y∈env.map (·.1)
    ·obtain⟨p,hp,e⟩:=List.mem_map.1 (zP hm)
     rw[←e];exact DL p hp
    ·rw[zO fun p hp e=>hm (List.mem_map.2 ⟨p,hp,e⟩)];exact hyn
   ·refine AH N q hN s _ _ hss ?_ (fun p hp=>?_)
    ·by_cases e:QK k
     ·simp only[if_pos e]at hq ⊢; omega
     ·simp only[if_neg e]at hq ⊢; omega
    ·by_cases e:QK k
     ·rw[if_pos e]at hp
      rw[if_pos e]at hq
      rcases List.mem_cons.1 hp with rfl|hp
      ·exact hN i (by omega)
      ·exact DL p hp
     ·rw[if_neg e]at hp;exact DL p hp
theorem AH(N:Nat→Bs)(q:Nat)(hN:∀i,i<q→A8 (N i)):∀(l:List u6) (env:List (Bs×Bs)) (i:Nat),ni l→i+nqL l≤q→(∀p∈env,A8 p.2)→ni (gH N l env i)
 | [],env,i,_,_,_=>by rw[gH,ni];trivial
 |f::l,env,i,h,hq,DL=>by
  rw[nqL]at hq
  rw[gH,ni]
  exact⟨Iy N q hN f env i (M4.1 h f (List.mem_cons_self ..)) (by omega) DL,AH N q hN l env _ (M4.2 fun x hx=>M4.1 h x (List.mem_cons_of_mem _ hx)) (by omega) DL⟩
end
mutual
noncomputable def tG(s:w8):u6→Nat→List A9
 | .mk k n w l,b=>(if(CV s (.mk k n w l)).2 then [⟨(b:Int),(CV s (.mk k n w l)).1⟩]else [])++iW s l (b+1)
noncomputable def iW(s:w8):List u6→Nat→List A9
 | [],_=>[]
 |f::l,b=>tG s f b++iW s l (b+ndF f)
end
mutual
theorem xK(s:w8):∀(f:u6) (b:Nat),(tG s f b).length≤ndF f
 | .mk k n w l,b=>by
   rw[tG,ndF,List.length_append]
   have:=oO s l (b+1)
   split
   ·simp only[List.length_cons,List.length_nil];omega
   ·simp only[List.length_nil];omega
theorem oO(s:w8):∀(l:List u6) (b:Nat),(iW s l b).length≤aD l
 | [],b=>by rw[iW];simp
 |f::l,b=>by
  rw[iW,aD,List.length_append]
  have:=xK s f b
  have:=oO s l (b+ndF f)
  omega
end
set_option maxRecDepth 1000000 in
theorem kY(m:Nat):E3 (m+300)=some true:=by kernel_rfl
theorem jW:Evt E3 (fun b=>b=true):=⟨true,rfl,300,fun n hn=>by
 obtain⟨m,rfl⟩:∃m,n=m+300:=⟨n-300,by omega⟩
 exact kY m⟩
theorem Fl{s:w8}(hw:s.words.length≤1048576∧∀x∈s.words,x.length≤1048576)(hp:s.B1.length≤1048576∧∀x∈s.B1,x.length≤1048576)(hq:s.parts.length≤1048576∧∀x∈s.parts,x.length≤1048576):SB s:=by
 refine⟨hw.1,hp.1,hq.1,fun x hx=>?_⟩
 rcases List.mem_append.1 hx with hx|hx
 ·rcases List.mem_append.1 hx with hx|hx
  ·have:=hw.2 x hx;omega
  ·have:=hp.2 x hx;omega
 ·have:=hq.2 x hx;omega
theorem cT{l:List Bs}(hl:l.length≤8000000):Evt (fun n=>D0 n l l) (fun b=>b=true):=by
 unfold D0
 refine Evt.cond (fun e=>by simp at e) (fun _=>?_)
 refine Evt.B2 (Evt.kT l.length (fun k s=>s=(k:Int)) (fun _=>True) (fun _=>False) rfl (fun k s hk hs=>?_) (fun s hs=>?_)) (fun t ht=>?_) (fun r hr=>?_)
 ·subst hs
  unfold F5
  refine Evt.cond (fun _=>Evt.chk (by omega) (Evt.chk (by omega) (Evt.cond (fun e=>by simp at e) (fun _=>Evt.pure ?_)))) (fun e=>by replace e:=bx e;omega)
  exact(Z4 (by omega) (by omega)).trans rfl
 ·subst hs
  unfold F5
  exact Evt.cond (fun e=>by replace e:=bx e;omega) (fun _=>Evt.pure trivial)
 ·exact Evt.pure rfl
 ·exact False.elim hr
theorem kZ:∀(m:Nat) (f:u6),SizeOf.sizeOf f≤m→SmF f→Evt (fun n=>B9 n f f) (fun b=>b=true):=by
 intro m
 induction m with
 |zero=>intro f h;cases f;simp only[u6.mk.sizeOf_spec]at h;omega
 |succ m ih=>
  intro f hf hsm
  obtain⟨hws,hsl,hsm⟩:=(Ao f).1 hsm
  refine Evt.succ ?_
  simp only[B9]
  refine Evt.bind (P:=fun v=>v=true) (Evt.gd (fun _=>cT (by omega)) (fun h=>by simp at h)) fun v hv=>?_
  subst hv
  refine Evt.cond (fun e=>by simp at e) (fun _=>?_)
  refine Evt.B2 (Evt.kT f.subs.length (fun k s=>s=(k:Int)) (fun _=>True) (fun _=>False) rfl (fun k s hk hs=>?_) (fun s hs=>?_)) (fun t ht=>?_) (fun r hr=>?_)
  ·subst hs
   unfold G4
   have hsz:=bU hk
   refine Evt.cond (fun _=>Evt.chk (by omega) (Evt.chk (by omega) ?_)) (fun e=>by replace e:=bx e;omega)
   simp only[Int.toNat_natCast]
   refine Evt.bind (ih _ (by omega) (rB hsm _ (get_mem hk))) fun v hv=>?_
   subst hv
   refine Evt.cond (fun e=>by cases e) (fun _=>Evt.pure ?_)
   exact(Z4 (by omega) (by omega)).trans rfl
  ·subst hs
   unfold G4
   exact Evt.cond (fun e=>by replace e:=bx e;omega) (fun _=>Evt.pure trivial)
  ·exact Evt.pure rfl
  ·exact False.elim hr
def JL(l:List w7):Prop:=l.length≤1000∧∀b∈l,SmF b.form
theorem AJ{s:w8}(hs:Av s):(Fj s).length≤500:=by
 have hvl:=oM s
 have hl:=hs.len
 have hnd:=hs.form.2.1
 have hql:(qs s.form).length≤200:=by rw[sV];have:=zK s.form;omega
 unfold Fj;simp only[List.length_append,List.length_map];omega
open Classical in
theorem CW{s:w8}(hs:Av s){g:u6}(hg:WfF g):JL (CV s g).1:=by
 unfold CV
 cases hp:(pts s s.form [] g).bind (fh [])with
 |none=>exact⟨by simp,fun b hb=>(by cases hb)⟩
 |some env=>
  have DL:jV env:=by
   cases hq:pts s s.form [] g with
   |none=>rw[hq]at hp;cases hp
   |some ps=>rw[hq]at hp;exact Az (fun k b h=>by cases h) (AB s _ _ _ (WfF.sm g hg) ps hq) hp
  show JL (if caught s env then(([],false):List w7×Bool)else _).1
  split
  ·exact⟨by simp,fun b hb=>(by cases hb)⟩
  ·refine⟨by rw[List.length_map];have:=AJ hs;omega,fun b hb=>?_⟩
   obtain⟨k,_,rfl⟩:=List.mem_map.1 hb
   exact Ix DL k
mutual
theorem AK{s:w8}(hs:Av s):∀(g:u6),WfF g→∀(b:Nat),∀x∈tG s g b,JL x.bindings∧∃m:Nat,x.at_=(m:Int)∧b≤m∧m<b+ndF g
 | .mk k n w l,hg,b,x,hx=>by
   rw[tG]at hx
   rw[ndF]
   rcases List.mem_append.1 hx with hx|hx
   ·split at hx
    ·rw[List.mem_singleton]at hx
     subst hx
     exact⟨CW hs hg,b,rfl,Nat.le_refl _,by omega⟩
    ·cases hx
   ·obtain⟨h1,m,h2,h3,h4⟩:=qt hs l ((dL _).1 hg).2 (b+1) x hx
    exact⟨h1,m,h2,by omega,by omega⟩
theorem qt{s:w8}(hs:Av s):∀(l:List u6),ni l→∀(b:Nat),∀x∈iW s l b,JL x.bindings∧∃m:Nat,x.at_=(m:Int)∧b≤m∧m<b+aD l
 | [],_,b,x,hx=>by rw[iW]at hx;cases hx
 |f::l,hg,b,x,hx=>by
  rw[iW]at hx
  rw[aD]
  rcases List.mem_append.1 hx with hx|hx
  ·obtain⟨h1,m,h2,h3,h4⟩:=AK hs f (M4.1 hg f (List.mem_cons_self ..)) b x hx
   exact⟨h1,m,h2,by omega,by omega⟩
  ·obtain⟨h1,m,h2,h3,h4⟩:=qt hs l (M4.2 fun y hy=>M4.1 hg y (List.mem_cons_of_mem _ hy)) (b+ndF f) x hx
   exact⟨h1,m,h2,by omega,by omega⟩
end
def seg(T:Bs)(p q:Nat):Bs:=(T.drop p).take (q-p)
theorem oP{T:Bs}{p q:Nat}(h:q≤T.length):(seg T p q).length=q-p:=by
 unfold seg
 rw[List.length_take,List.length_drop]
 omega
theorem CX(T:Bs)(p:Nat):seg T p p=[]:=by unfold seg;rw[Nat.sub_self];rfl
theorem T8(T:Bs){p q r:Nat}(h:p≤q)(h':q≤r):seg T p q++seg T q r=seg T p r:=by
 unfold seg
 have e:T.drop q=(T.drop p).drop (q-p):=by rw[List.drop_drop];congr 1;omega
 rw[e,show r-p=(q-p)+(r-q)by omega,List.take_add]
theorem AL{T:Bs}{p q j:Nat}(h:j<q-p):B3 (seg T p q) (j:Int)=B3 T ((p+j:Nat):Int):=by
 unfold B3 seg
 rw[Int.toNat_natCast,Int.toNat_natCast,List.getD_eq_getElem?_getD,List.getD_eq_getElem?_getD,List.getElem?_take,if_pos h,List.getElem?_drop]
theorem Y8{T:Bs}{p:Nat}(h:p<T.length)(c:UInt8)(hc:B3 T (p:Int)=(c.toNat:Int)):seg T p (p+1)=[c]:=by
 unfold seg
 rw[show p+1-p=1 by omega,List.drop_eq_getElem_cons h,List.take_succ_cons,List.take_zero]
 unfold B3 at hc
 rw[Int.toNat_natCast,List.getD_eq_getElem?_getD,List.getElem?_eq_getElem h]at hc
 have:T[p].toNat=c.toNat:=by
  have:(T[p].toNat:Int)=(c.toNat:Int):=by simpa using hc
  omega
 rw[UInt8.toNat_inj.1 this]
def pk(T:Bs)(p:Nat):Int:=if p<T.length then B3 T (p:Int)else 0
theorem T9(T:Bs)(p:Nat)(e i k:Int):D7 T (p:Int) e i k=some (pk T p):=by
 unfold D7 pk
 by_cases h:p<T.length
 ·have h1:(p:Int)<(T.length:Int):=by omega
  rw[if_pos h,show decide ((p:Int)<(T.length:Int))=true from decide_eq_true h1]
  simp only[cond_true,Am.chk]
  rw[if_pos ⟨by omega,h1⟩]
 ·have h1:¬(p:Int)<(T.length:Int):=by omega
  rw[if_neg h,show decide ((p:Int)<(T.length:Int))=false from decide_eq_false h1]
  rfl
theorem tH{T:Bs}{p:Nat}{c:Int}(h:pk T p=c)(hc:c≠0):p<T.length∧B3 T (p:Int)=c:=by
 unfold pk at h
 split at h
 ·exact⟨by assumption,h⟩
 ·exact absurd h.symm hc
theorem eP(a b:Int)(T:Bs)(p e i k:Int):C4 a b T p e i k=some (if e=0 then(a,b)else(e,i)):=by
 unfold C4
 by_cases h:e=0<;>simp[h]
theorem dU{T:Bs}(hT:T.length≤4000){p:Nat}(hp:p≤T.length)(c e i k:Int):∃r,y8 c T (p:Int) e i k=some r∧∃q:Nat,r.2.1=(q:Int)∧p≤q∧q≤T.length∧
 (r.2.2.1=0→e=0∧q=p+1∧p<T.length∧B3 T (p:Int)=c∧r.2.2.2=i)∧(e=0→p<T.length→B3 T (p:Int)=c→r=(true,((p+1:Nat):Int),0,i)):=by
 unfold y8
 by_cases he:e=0
 ·subst he
  simp only[decide_true,Bool.not_true,cond_false]
  by_cases h1:p<T.length∧B3 T (p:Int)=c
  ·have h2:(p:Int)<(T.length:Int):=by omega
   refine⟨(true,((p+1:Nat):Int),0,i),?_,p+1,rfl,by omega,by omega,fun _=>⟨by trivial,rfl,h1.1,h1.2,rfl⟩,fun _ _ _=>rfl⟩
   rw[show wr .i64 ((p:Int)+1)=((p+1:Nat):Int)by rw[Z4 (by omega) (by omega)];omega]
   simp[Am.chk,cg,h2,h1.2]
  ·refine⟨(false,(p:Int),11,(p:Int)),?_,p,rfl,Nat.le_refl _,hp,fun h=>by simp at h,fun _ a b=>absurd ⟨a,b⟩ h1⟩
   by_cases h2:p<T.length
   ·have h3:¬B3 T (p:Int)=c:=fun h=>h1 ⟨h2,h⟩
    have h4:(p:Int)<(T.length:Int):=by omega
    simp[Am.chk,cg,h4,h3,eP]
   ·have h4:¬(p:Int)<(T.length:Int):=by omega
    simp[Am.chk,cg,h4,eP]
 ·refine⟨(false,(p:Int),e,i),?_,p,rfl,Nat.le_refl _,hp,fun h=>absurd h he,fun h=>absurd h he⟩
  simp[he]
theorem A8.pre{T:Bs}{p q r:Nat}(h:A8 (seg T p r))(hq:p<q)(hr:q≤r)(hl:r≤T.length):A8 (seg T p q):=by
 obtain⟨h1,h2,h3,h4⟩:=h
 rw[oP hl]at h1 h2 h4
 have e:∀j,j<q-p→B3 (seg T p q) (j:Int)=B3 (seg T p r) (j:Int):=fun j hj=>by rw[AL hj,AL (by omega)]
 refine⟨by rw[oP (by omega)];omega,by rw[oP (by omega)];omega,?_,fun j hj=>?_⟩
 ·rw[show B3 (seg T p q) 0=B3 (seg T p r) 0 from e 0 (by omega)];exact h3
 ·rw[oP (by omega)]at hj
  rw[e j hj]
  exact h4 j (by omega)
theorem AO{T:Bs}(hT:T.length≤4000){p:Nat}(hp:p≤T.length)(i k:Int):Evt (fun n=>C1 n T (p:Int) 0 i k) (fun r=>∃q:Nat,p≤q∧q≤T.length∧q≤p+30∧r.1=seg T p q∧r.2.1=(q:Int)∧
 (p<q→A8 r.1∧r.2.2=(0,i))∧(q=p→r.2.2=(11,(p:Int)))∧¬(q<T.length∧q<p+30∧A8 (seg T p (q+1)))):=by
 unfold C1
 refine Evt.cond (fun e=>by simp at e) (fun _=>?_)
 refine Evt.B2 (Evt.loop (fun s=>T.length-s.toNat) (fun s=>∃q:Nat,s=(q:Int)∧p≤q∧q≤T.length∧q≤p+30∧(p<q→A8 (seg T p q)))
  (fun s=>∃q:Nat,s=(q:Int)∧p≤q∧q≤T.length∧q≤p+30∧(p<q→A8 (seg T p q))∧¬(q<T.length∧q<p+30∧A8 (seg T p (q+1)))) (fun _=>False) ⟨p,rfl,Nat.le_refl _,hp,by omega,fun h=>absurd h (Nat.lt_irrefl _)⟩ (fun s hs=>?_)) (fun t ht=>?_) (fun r hr=>hr.elim)
 ·obtain⟨q,rfl,h1,h2,h3,h4⟩:=hs
  unfold X5
  have w1:wr .i64 ((q:Int)-(p:Int))=(q:Int)-(p:Int):=Z4 (by omega) (by omega)
  have w2:wr .i64 ((q:Int)+1)=((q+1:Nat):Int):=by rw[Z4 (by omega) (by omega)];omega
  rw[w1,w2]
  refine Evt.chk ⟨aR fun _=>by omega,aR fun _=>by omega,aR fun _=>by simp only[Int.toNat_natCast];omega,aR fun h=>?_⟩ ?_
  ·replace h:=bx h
   simp only[Int.toNat_natCast]
   omega
  simp only[Int.toNat_natCast]
  refine Evt.bind (P:=fun v=>q<T.length∧q<p+30→(v=true↔A8 (seg T p (q+1)))) (Evt.gd (fun _=>(eM _).mono fun v hv _=>Z6 hv) (fun g hh=>?_)) fun v hv=>?_
  ·replace g:=bx g
   omega
  refine Evt.cond (fun h=>Evt.pure ?_) (fun h=>Evt.pure ?_)
  ·replace h:=bx h
   have ha:q<T.length∧q<p+30:=by omega
   refine⟨⟨q+1,rfl,by omega,by omega,by omega,fun _=>(hv ha).1 (by simpa using h.2)⟩,?_⟩
   simp only[Int.toNat_natCast]
   omega
  ·refine⟨q,rfl,h1,h2,h3,h4,fun⟨a,b,c⟩=>?_⟩
   have:=(hv ⟨a,b⟩).2 c
   subst this
   simp at h
   omega
 ·obtain⟨q,rfl,h1,h2,h3,h4,h5⟩:=ht
  unfold X6
  rw[eP]
  refine Evt.cond (fun h=>?_) (fun h=>?_)
  ·replace h:=bx h
   obtain rfl:q=p:=by omega
   refine Evt.chk ⟨by omega,by omega,by omega,by simp only[Int.toNat_natCast];omega⟩ (Evt.pure ?_)
   simp only[Int.toNat_natCast]
   exact⟨q,Nat.le_refl _,h2,by omega,rfl,rfl,fun h=>absurd h (Nat.lt_irrefl _),fun _=>rfl,h5⟩
  ·replace h:=bx h
   refine Evt.chk ⟨by omega,by omega,by simp only[Int.toNat_natCast];omega,by simp only[Int.toNat_natCast];omega⟩ (Evt.pure ?_)
   simp only[Int.toNat_natCast]
   exact⟨q,h1,h2,h3,rfl,rfl,fun h=>⟨h4 h,by trivial⟩,fun hh=>by omega,h5⟩
theorem AP(sep x:Bs):∀l:List Bs,Lib.join (l++[x]) sep=if l=[]then x else Lib.join l sep++sep++x
 | []=>by simp[Lib.join_one]
 |a::l=>by
  rw[if_neg (by simp),List.cons_append,Lib.join_cons,Lib.join_cons]
  unfold Lib.joinTail
  simp[List.append_assoc]
theorem ld{T:Bs}(hT:T.length≤4000){p:Nat}(hp:p≤T.length)(e i k:Int):Evt (fun n=>C1 n T (p:Int) e i k) (fun r=>∃q:Nat,r.2.1=(q:Int)∧p≤q∧q≤T.length∧
 (r.2.2.1=0→e=0∧p<q∧r.1=seg T p q∧A8 r.1)):=by
 by_cases he:e=0
 ·subst he
  refine(AO hT hp i k).mono fun r ⟨q,h1,h2,_,h3,h4,h5,h6,_⟩=>⟨q,h4,h1,h2,fun h=>?_⟩
  have:p<q:=by
   rcases Nat.eq_or_lt_of_le h1 with hh|hh
   ·rw[h6 hh.symm]at h
    simp at h
   ·exact hh
  exact⟨rfl,this,h3,(h5 this).1⟩
 ·unfold C1
  exact Evt.cond (fun _=>Evt.pure ⟨p,rfl,Nat.le_refl _,hp,fun h=>absurd h he⟩) (fun h=>by simp[he]at h)
theorem AU{T:Bs}(hT:T.length≤4000){p:Nat}(hp:p≤T.length)(e i k:Int):Evt (fun n=>K2 n T (p:Int) e i k) (fun r=>∃q:Nat,r.2.1=(q:Int)∧p≤q∧q≤T.length∧
 (r.2.2.1=0→e=0∧seg T p q=Lib.join r.1 [44]++[41])):=by
 unfold K2
 rw[T9]
 refine Evt.bind (P:=fun v=>v=pk T p) (Evt.pure rfl) fun v hv=>?_
 subst hv
 refine Evt.cond (fun h=>?_) (fun _=>?_)
 ·replace h:=bx h
  obtain⟨h1,h2⟩:=tH h (by decide)
  refine Evt.pure ⟨p+1,?_,by omega,by omega,fun he=>⟨he,?_⟩⟩
  ·show wr .i64 ((p:Int)+1)=_
   rw[Z4 (by omega) (by omega)];omega
  ·rw[Y8 h1 41 h2];rfl
 refine Evt.B2 (Evt.loop (fun s=>3-s.2.2.2.length) (fun s=>∃q:Nat,s.1=(q:Int)∧p≤q∧q≤T.length∧s.2.2.2.length<3∧(s.2.1=0→e=0∧(s.2.2.2=[]∧q=p∨s.2.2.2≠ []∧seg T p q=Lib.join s.2.2.2 [44]++[44])))
  (fun s=>∃q:Nat,s.1=(q:Int)∧p≤q∧q≤T.length∧(s.2.1=0→e=0∧seg T p q=Lib.join s.2.2.2 [44]++[41])) (fun _=>False) ⟨p,rfl,Nat.le_refl _,hp,by simp,fun h=>⟨h,.inl ⟨rfl,rfl⟩⟩⟩ (fun s hs=>?_)) (fun t ht=>?_) (fun r hr=>hr.elim)
 ·obtain⟨at0,err,idx,l⟩:=s
  obtain⟨q,hq,h1,h2,h3,h4⟩:=hs
  simp only at hq h3 h4
  subst hq
  unfold N8
  refine Evt.cond (fun h=>?_) (fun h=>Evt.pure ⟨q,rfl,h1,h2,fun hh=>absurd hh (by simpa using h)⟩)
  replace h:=bx h
  replace h:err=0:=h
  subst h
  refine Evt.bind (ld hT h2 0 idx k) fun v11 ⟨q1,g0,g1,g2,g3⟩=>Evt.aB ?_
  have hl:(l++[v11.1]).length=l.length+1:=by simp
  refine Evt.chk (by rw[hl,eL];omega) ?_
  rw[g0]
  simp only[T9]
  have JM:v11.2.2.1=0→e=0∧seg T p q1=Lib.join (l++[v11.1]) [44]:=fun h=>by
   obtain⟨_,a2,a3,_⟩:=g3 h
   obtain⟨b1,b2⟩:=h4 rfl
   refine⟨b1,?_⟩
   rw[AP,a3, ←T8 T h1 g1]
   rcases b2 with⟨rfl,rfl⟩|⟨b2,b3⟩
   ·rw[if_pos rfl,CX];rfl
   ·rw[if_neg b2,b3]
  refine Evt.bind (P:=fun v=>l.length+1<3→v=pk T q1) (Evt.gd (fun _=>Evt.pure fun _=>rfl) (fun h hh=>?_)) fun v hv=>?_
  ·replace h:=bx h
   rw[hl]at h
   omega
  refine Evt.cond (fun h=>Evt.pure ?_) (fun h=>?_)
  ·replace h:=bx h
   have hlt:l.length+1<3:=by rw[hl]at h;omega
   obtain⟨c1,c2⟩:=tH ((hv hlt).symm.trans (by simpa using h.2)) (by decide)
   refine⟨⟨q1+1,?_,by omega,by omega,by simp only[hl];omega,fun h0=>⟨(JM h0).1,.inr ⟨by simp,?_⟩⟩⟩,?_⟩
   ·show wr .i64 ((q1:Int)+1)=_
    rw[Z4 (by omega) (by omega)];omega
   ·rw[←T8 T (show p≤q1 by omega) (show q1≤q1+1 by omega),(JM h0).2,Y8 c1 44 c2]
   ·simp only[hl]
    omega
  ·obtain⟨r,hr,q2,t1,t2,t3,t4,_⟩:=dU hT g2 41 v11.2.2.1 v11.2.2.2 k
   rw[hr]
   refine Evt.pure ⟨q2,t1,by omega,t3,fun h0=>?_⟩
   obtain⟨t5,rfl,t6,t7,_⟩:=t4 h0
   refine⟨(JM t5).1,?_⟩
   rw[←T8 T (show p≤q1 by omega) (show q1≤q1+1 by omega),(JM t5).2,Y8 t6 41 t7]
 ·obtain⟨q,h1,h2,h3,h4⟩:=ht
  unfold N9
  exact Evt.pure ⟨q,h1,h2,h3,h4⟩
def FmR(T:Bs)(p:Nat)(e:Int)(k:Nat)(r:u6×Int×Int×Int×Int):Prop:=
 ∃q kk:Nat,r.2.1=(q:Int)∧p≤q∧q≤T.length∧r.2.2.2.2=(kk:Int)∧kk≤201∧(r.2.2.1=0→e=0∧kk≤200∧L8 r.1=some (seg T p q))
theorem Iz:L8 (.mk 1 [] [] [])=some [116,114,117,101]:=by rw[aC];rfl
theorem IB(n:Bs)(ws:List Bs):L8 (.mk 2 n ws [])=some (n++[40]++Lib.join ws [44]++[41]):=by rw[aC];rfl
theorem IC(a b:Bs):L8 (.mk 3 [] [a,b] [])=some ([40]++a++[32,61,32]++b++[41]):=by rw[aC];rfl
theorem IE{f:u6}{t:Bs}(h:L8 f=some t):L8 (.mk 4 [] [] [f])=some ([45]++t):=by
 rw[aC]
 show([L8 f].getD 0 none).bind (fun t=>some ([45]++t))=_
 rw[h];rfl
theorem IG{f:u6}{t n:Bs}(h:L8 f=some t):L8 (.mk 8 n [] [f])=some ([97,108,108,32]++n++[32]++t):=by
 rw[aC]
 show([L8 f].getD 0 none).bind (fun t=>some ([97,108,108,32]++n++[32]++t))=_
 rw[h];rfl
theorem II{f:u6}{t n:Bs}(h:L8 f=some t):L8 (.mk 9 n [] [f])=some ([115,111,109,101,32]++n++[32]++t):=by
 rw[aC]
 show([L8 f].getD 0 none).bind (fun t=>some ([115,111,109,101,32]++n++[32]++t))=_
 rw[h];rfl
def sgn(k:Int):Bs:=if k=5 then [32,38,32]else if k=6 then [32,124,32]else [32,62,32]
theorem IJ{f g:u6}{t u:Bs}{k:Int}(hk:k=5∨k=6∨k=7)(h:L8 f=some t)(h':L8 g=some u):L8 (.mk k [] [] [f,g])=some ([40]++t++sgn k++u++[41]):=by
 rw[aC]
 rcases hk with rfl|rfl|rfl
 ·show([L8 f,L8 g].getD 0 none).bind (fun t=>([L8 f,L8 g].getD 1 none).bind fun u=>some ([40]++t++[32,38,32]++u++[41]))=_
  simp[h,h',sgn]
 ·show([L8 f,L8 g].getD 0 none).bind (fun t=>([L8 f,L8 g].getD 1 none).bind fun u=>some ([40]++t++[32,124,32]++u++[41]))=_
  simp[h,h',sgn]
 ·show([L8 f,L8 g].getD 0 none).bind (fun t=>([L8 f,L8 g].getD 1 none).bind fun u=>some ([40]++t++[32,62,32]++u++[41]))=_
  simp[h,h',sgn]
def kOf(c:Int):Int:=(assoc c (y6 62 7 (y6 124 6 (y6 38 5 [])))).getD default
theorem IK{c:Int}(h:kOf c≠0):c=38∧kOf c=5∨c=124∧kOf c=6∨c=62∧kOf c=7:=by
 by_cases h1:c=38
 ·subst h1;exact .inl ⟨rfl,by decide⟩
 by_cases h2:c=124
 ·subst h2;exact .inr (.inl ⟨rfl,by decide⟩)
 by_cases h3:c=62
 ·subst h3;exact .inr (.inr ⟨rfl,by decide⟩)
 refine absurd ?_ h
 unfold kOf
 simp[assoc,y6,List.find?, Ne.symm h1,Ne.symm h2,Ne.symm h3,h1,h2,h3]
theorem kg{a:Nat}(b:Nat)(h:a+b≤1000000):wr .i64 ((a:Int)+(b:Int))=((a+b:Nat):Int):=by rw[Z4 (by omega) (by omega)];omega
theorem oQ{T:Bs}(hT:T.length≤4000){self:Nat→Int→Bs→Int→Int→Int→Int→Option (u6×Int×Int×Int×Int)}{d p k:Nat}(hp:p+1≤T.length)(hd:d≤1000)(e i:Int)(e1 i1:Int)(he:e1=0→e=0)(hk:k≤201)(hk0:e=0→k≤200)
 (hc:B3 T (p:Int)=40)
 (ih:∀(p:Nat) (e i:Int) (k:Nat),p≤T.length→k≤201→(e=0→k≤200)→Evt (fun n=>self n ((d+1:Nat):Int) T (p:Int) e i (k:Int)) (FmR T p e k)):
 Evt (fun n=>B8 (self n) (d:Int) T (p:Int) (k:Int) (e1,i1)) (FmR T p e k):=by
 unfold B8
 rw[show wr .i64 ((d:Int)+1)=((d+1:Nat):Int)from kg 1 (by omega),show wr .i64 ((p:Int)+1)=((p+1:Nat):Int)from kg 1 (by omega)]
 refine Evt.bind (ih (p+1) e1 i1 k hp hk (fun h=>hk0 (he h))) fun v12 ⟨q1,k1,a1,a2,a3,a4,a5,a6⟩=>?_
 rw[a1]
 obtain⟨r13,Nc,q2,b1,b2,b3,b4,_⟩:=dU hT a3 32 v12.2.2.1 v12.2.2.2.1 v12.2.2.2.2
 rw[Nc]
 refine Evt.bind (P:=fun v=>v=r13) (Evt.pure rfl) fun v13 hv=>?_
 subst hv
 refine Evt.aB (Evt.aB (Evt.aB ?_))
 rw[b1,T9]
 refine Evt.bind (P:=fun v=>v=pk T q2) (Evt.pure rfl) fun v21 hv=>?_
 subst hv
 refine Evt.cond (fun h=>?_) (fun h=>?_)
 ·rw[eP]
  refine Evt.pure ⟨q2,k1,rfl,by omega,b3,a4,a5,fun h=>?_⟩
  simp only at h
  split at h
  ·cases h
  ·exact absurd h (by assumption)
 ·replace h:=bx h
  have hs:=IK (c:=pk T q2) h
  have hq2:q2<T.length∧B3 T (q2:Int)=pk T q2:=tH rfl (by omega)
  rw[show wr .i64 ((q2:Int)+1)=((q2+1:Nat):Int)from kg 1 (by omega)]
  obtain⟨r23,Nd,q3,c1,c2,c3,c4,_⟩:=dU hT (show q2+1≤T.length by omega) 32 v13.2.2.1 v13.2.2.2 v12.2.2.2.2
  rw[Nd]
  refine Evt.bind (P:=fun v=>v=r23) (Evt.pure rfl) fun v23 hv=>?_
  subst hv
  rw[c1,a4]
  refine Evt.bind (ih q3 v23.2.2.1 v23.2.2.2 k1 c3 a5 (fun h=>(a6 (b4 (c4 h).1).1).2.1)) fun v24 ⟨q4,k2,d1,d2,d3,d4,d5,d6⟩=>?_
  rw[d1]
  obtain⟨r25,Nf,q5,f1,f2,f3,f4,_⟩:=dU hT d3 41 v24.2.2.1 v24.2.2.2.1 v24.2.2.2.2
  rw[Nf]
  refine Evt.pure ⟨q5,k2,f1,by omega,f3,d4,d5,fun h=>?_⟩
  obtain⟨g1,rfl,g3,g4,_⟩:=f4 h
  obtain⟨g5,g6,g7⟩:=d6 g1
  obtain⟨g8,rfl,g9,g10,_⟩:=c4 g5
  obtain⟨g11,rfl,g12,g13,_⟩:=b4 g8
  obtain⟨g14,g15,g16⟩:=a6 g11
  refine⟨he g14,g6,?_⟩
  have hkk:kOf (pk T (q1+1))=5∨kOf (pk T (q1+1))=6∨kOf (pk T (q1+1))=7:=by omega
  refine(IJ hkk g16 g7).trans (congrArg some ?_)
  have e1:seg T p (p+1)=[40]:=Y8 (by omega) 40 hc
  have e2:seg T q1 (q1+1)=[32]:=Y8 g12 32 g13
  have e4:seg T (q1+1+1) (q1+1+1+1)=[32]:=Y8 g9 32 g10
  have e5:seg T q4 (q4+1)=[41]:=Y8 g3 41 g4
  have e3:seg T q1 (q1+1+1+1)=sgn (kOf (pk T (q1+1))):=by
   rw[←T8 T (show q1≤q1+1 by omega) (show q1+1≤q1+1+1+1 by omega), ←T8 T (show q1+1≤q1+1+1 by omega) (show q1+1+1≤q1+1+1+1 by omega),e2,e4]
   rcases hs with⟨s1,s2⟩|⟨s1,s2⟩|⟨s1,s2⟩
   ·rw[s2,Y8 hq2.1 38 (by rw[hq2.2,s1];rfl)];rfl
   ·rw[s2,Y8 hq2.1 124 (by rw[hq2.2,s1];rfl)];rfl
   ·rw[s2,Y8 hq2.1 62 (by rw[hq2.2,s1];rfl)];rfl
  rw[←e1, ←e3, ←e5,T8 T (by omega) (by omega),T8 T (by omega) (by omega),T8 T (by omega) (by omega),T8 T (by omega) (by omega)]
theorem CY{T:Bs}(hT:T.length≤4000){self:Nat→Int→Bs→Int→Int→Int→Int→Option (u6×Int×Int×Int×Int)}{d p k:Nat}(hp:p+1≤T.length)(hd:d≤1000)(e i:Int)(hk:k≤201)(hk0:e=0→k≤200)
 (hc:B3 T (p:Int)=40)
 (ih:∀(p:Nat) (e i:Int) (k:Nat),p≤T.length→k≤201→(e=0→k≤200)→Evt (fun n=>self n ((d+1:Nat):Int) T (p:Int) e i (k:Int)) (FmR T p e k)):
 Evt (fun n=>J1 (self n) n (d:Int) T (p:Int) e i (k:Int)) (FmR T p e k):=by
 unfold J1
 rw[show wr .i64 ((p:Int)+1)=((p+1:Nat):Int)from kg 1 (by omega),T9]
 refine Evt.bind (P:=fun v=>v=pk T (p+1)) (Evt.pure rfl) fun v hv=>?_
 subst hv
 refine Evt.cond (fun h=>?_) (fun h=>oQ hT hp hd e i e i id hk hk0 hc ih)
 refine Evt.bind (ld hT hp e i k) fun v2 ⟨q,a1,a2,a3,a4⟩=>?_
 rw[a1]
 simp only[T9]
 refine Evt.bind (P:=fun v=>v=pk T q) (Evt.pure rfl) fun v3 hv=>?_
 subst hv
 refine Evt.cond (fun h3=>?_) (fun h3=>oQ hT hp hd e i _ _ (fun h=>(a4 h).1) hk hk0 hc ih)
 replace h3:=bx h3
 obtain⟨h4,h5⟩:=tH h3 (by decide)
 rw[show wr .i64 ((q:Int)+1)=((q+1:Nat):Int)from kg 1 (by omega)]
 refine Evt.chk ⟨aR fun _=>by omega,aR fun h=>by replace h:=bx h;omega⟩ ?_
 refine Evt.cond (fun h6=>?_) (fun h6=>?_)
 ·replace h6:=bx h6
  rw[show wr .i64 ((q:Int)+2)=((q+2:Nat):Int)from kg 2 (by omega)]
  obtain⟨r7,hr7,q2,b1,b2,b3,b4,_⟩:=dU hT (show q+2≤T.length by omega) 32 v2.2.2.1 v2.2.2.2 (k:Int)
  rw[hr7]
  refine Evt.bind (P:=fun v=>v=r7) (Evt.pure rfl) fun v7 hv=>?_
  subst hv
  rw[b1]
  refine Evt.bind (ld hT b3 _ _ _) fun v8 ⟨q3,c1,c2,c3,c4⟩=>?_
  rw[c1]
  obtain⟨r9,hr9,q4,d1,d2,d3,d4,_⟩:=dU hT c3 41 v8.2.2.1 v8.2.2.2 (k:Int)
  rw[hr9]
  refine Evt.pure ⟨q4,k,d1,by omega,d3,rfl,hk,fun h0=>?_⟩
  obtain⟨g1,rfl,g3,g4,_⟩:=d4 h0
  obtain⟨g5,g6,g7,g8⟩:=c4 g1
  obtain⟨g9,rfl,g10,g11,_⟩:=b4 g5
  obtain⟨g12,g13,g14,g15⟩:=a4 g9
  refine⟨g12,hk0 g12,?_⟩
  refine(IC v2.1 v8.1).trans (congrArg some ?_)
  have e1:seg T p (p+1)=[40]:=Y8 (by omega) 40 hc
  have e2:seg T q (q+1)=[32]:=Y8 h4 32 h5
  have e3:seg T (q+1) (q+1+1)=[61]:=Y8 (by omega) 61 (by rw[h6.2];rfl)
  have e4:seg T (q+2) (q+2+1)=[32]:=Y8 g10 32 g11
  have e5:seg T q3 (q3+1)=[41]:=Y8 g3 41 g4
  have e6:seg T q (q+2+1)=[32,61,32]:=by
   rw[←T8 T (show q≤q+1 by omega) (show q+1≤q+2+1 by omega), ←T8 T (show q+1≤q+2 by omega) (show q+2≤q+2+1 by omega),e2,e3,e4]
   rfl
  rw[←e1, ←e5, ←e6,g7,g14,T8 T (by omega) (by omega),T8 T (by omega) (by omega),T8 T (by omega) (by omega),T8 T (by omega) (by omega)]
 ·refine Evt.cond (fun _=>?_) (fun _=>oQ hT hp hd e i _ _ (fun h=>(a4 h).1) hk hk0 hc ih)
  rw[eP]
  refine Evt.pure ⟨q,k,rfl,by omega,a3,rfl,hk,fun h=>?_⟩
  simp only at h
  split at h
  ·cases h
  ·exact absurd h (by assumption)
end Go.Proofs.YtahjhbkhcaphgaaGreatDoor
