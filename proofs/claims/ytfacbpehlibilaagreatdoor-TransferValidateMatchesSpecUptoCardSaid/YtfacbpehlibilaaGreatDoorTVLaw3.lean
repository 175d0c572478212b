import Derived.Test.YtfacbpehlibilaaGreatDoorTVLaw2
set_option linter.unusedVariables false
set_option linter.unusedSimpArgs false
namespace Go.Proofs.YtfacbpehlibilaaGreatDoor
open Go Go.Am
theorem x0V{s:r5b}{i:Nat}(h:i<s.words.length):Am.get (vns s) i=Am.get s.words i:=by
 unfold vns Am.get
 rw[List.getD_eq_getElem?_getD,List.getD_eq_getElem?_getD,List.append_assoc,List.getElem?_append_left h]
theorem x0W{s:r5b}{i:Nat}(h:i<s.r5o.length):Am.get (vns s) (s.words.length+i)=Am.get s.r5o i:=by
 unfold vns Am.get
 rw[List.getD_eq_getElem?_getD,List.getD_eq_getElem?_getD,List.append_assoc,List.getElem?_append_right (by omega),List.getElem?_append_left (by omega)]
 congr 2;omega
theorem x0X{s:r5b}{i:Nat}(h:i<s.parts.length):Am.get (vns s) (s.words.length+s.r5o.length+i)=Am.get s.parts i:=by
 unfold vns Am.get
 rw[List.getD_eq_getElem?_getD,List.getD_eq_getElem?_getD,List.getElem?_append_right (by simp only[List.length_append];omega)]
 congr 2;simp only[List.length_append];omega
structure w4P(s:r5b):Prop where
 form:OkF s.form
 len:(vns s).length≤300
 name:∀x∈vns s,r5Q x
 uniq:∀i j,i<j→j<(vns s).length→Am.get (vns s) i≠Am.get (vns s) j
 words:∀x∈s.words,fre s.form [] x
 r5o:∀x∈s.r5o,u6M (r5D s.form) x∨u7w (r5D s.form) x
 parts:∀x∈s.parts,¬u6M (r5D s.form) x∧u7w (r5D s.form) x
 y1r:QOk s
theorem OkS.good{s:r5b}(h:OkS s):w4P s:=by
 obtain⟨h1,h2,h3,h4⟩:=h
 have hvl:=w3n s
 have hn:∀j,j<(vns s).length→r5Q (Am.get (vns s) j):=fun j hj=>Classical.byContradiction fun h=>by
  have:=h3 j hj
  unfold r8n at this
  rw[if_pos h]at this
  exact absurd this (by decide)
 have hu:∀j,j<(vns s).length→Am.get (vns s) j∉ (vns s).take j:=fun j hj h=>by
  have:=h3 j hj
  unfold r8n at this
  rw[if_neg (fun e=>e (hn j hj)),if_pos h]at this
  exact absurd this (by decide)
 refine⟨h1,h2,fun x hx=>?_,fun i j hij hj e=>hu j hj ((u6v (by omega)).2 ⟨i,hij,e⟩),fun x hx=>?_,fun x hx=>?_,fun x hx=>?_,h4⟩
 ·obtain⟨j,hj,rfl⟩:=r9P.1 hx
  exact hn j hj
 ·obtain⟨j,hj,rfl⟩:=r9P.1 hx
  have hjv:j<(vns s).length:=by omega
  have:=h3 j hjv
  unfold r8n at this
  rw[if_neg (fun e=>e (hn j hjv)),if_neg (hu j hjv),if_pos hj]at this
  rw[←x0V hj]
  exact Classical.byContradiction fun h=>by rw[if_neg h]at this;exact absurd this (by decide)
 ·obtain⟨i,hi,rfl⟩:=r9P.1 hx
  have hjv:s.words.length+i<(vns s).length:=by omega
  have:=h3 _ hjv
  unfold r8n at this
  rw[if_neg (fun e=>e (hn _ hjv)),if_neg (hu _ hjv),if_neg (by omega),if_pos (by omega)]at this
  rw[←x0W hi]
  exact Classical.byContradiction fun h=>by rw[if_neg h]at this;exact absurd this (by decide)
 ·obtain⟨i,hi,rfl⟩:=r9P.1 hx
  have hjv:s.words.length+s.r5o.length+i<(vns s).length:=by omega
  have:=h3 _ hjv
  unfold r8n at this
  rw[if_neg (fun e=>e (hn _ hjv)),if_neg (hu _ hjv),if_neg (by omega),if_neg (by omega)]at this
  rw[←x0X hi]
  by_cases hw:u6M (r5D s.form) (Am.get (vns s) (s.words.length+s.r5o.length+i))
  ·rw[if_pos hw]at this;exact absurd this (by decide)
  ·rw[if_neg hw]at this
   exact⟨hw,Classical.byContradiction fun h=>by rw[if_neg h]at this;exact absurd this (by decide)⟩
def r7r(s:r5b)(f:p6w):Prop:=(f.kind=2∧f.words.length=0)∧f.name∈s.parts
instance(s:r5b)(f:p6w):Decidable (r7r s f):=inferInstanceAs (Decidable (_∧_))
def mkw(W bd:List Bs)(w:Bs):Bs:=if w∈bd then 63::w else if w∈W then 46::w else w
def mkn(s:r5b)(f:p6w):Bs:=if QK f.kind then 63::f.name else if r7r s f then 43::f.name else if f.kind=2∧f.name∈s.r5o then 33::f.name else f.name
mutual
def u0t(s:r5b):p6w→List Bs→p6w
 | .mk k n w l,bd=>.mk k (mkn s (.mk k n w l)) (w.map (mkw s.words bd)) (u0H s l (if QK k then n::bd else bd))
def u0H(s:r5b):List p6w→List Bs→List p6w
 | [],_=>[]
 |f::l,bd=>u0t s f bd::u0H s l bd
end
theorem u3j(s:r5b)(f:p6w)(bd:List Bs):u0t s f bd= .mk f.kind (mkn s f) (f.words.map (mkw s.words bd)) (u0H s f.subs (if QK f.kind then f.name::bd else bd)):=by cases f;rw[u0t];rfl
theorem u8E(s:r5b):∀(l:List p6w) (bd:List Bs),(u0H s l bd).length=l.length
 | [],_=>by rw[u0H]
 |f::l,bd=>by rw[u0H,List.length_cons,List.length_cons,u8E s l]
theorem x0Y{W bd bd':List Bs}(h:∀y,y∈bd↔y∈bd')(w:Bs):mkw W bd w=mkw W bd' w:=by
 unfold mkw
 by_cases e:w∈bd
 ·rw[if_pos e,if_pos ((h w).1 e)]
 ·rw[if_neg e,if_neg fun e'=>e ((h w).2 e')]
mutual
theorem w6i(s:r5b):∀(f:p6w) (bd bd':List Bs),(∀y,y∈bd↔y∈bd')→u0t s f bd=u0t s f bd'
 | .mk k n w l,bd,bd',h=>by
   rw[u0t,u0t,u9f s l _ (if QK k then n::bd' else bd') (fun y=>?_),List.map_congr_left fun x _=>x0Y h x]
   split
   ·simp[h y]
   ·exact h y
theorem u9f(s:r5b):∀(l:List p6w) (bd bd':List Bs),(∀y,y∈bd↔y∈bd')→u0H s l bd=u0H s l bd'
 | [],bd,bd',h=>by rw[u0H,u0H]
 |f::l,bd,bd',h=>by rw[u0H,u0H,w6i s f bd bd' h,u9f s l bd bd' h]
end
theorem w0V(s:r5b)(f:p6w):r7d s f=some (decide (r7r s f)):=by
 unfold r7d r7r
 simp only[r7E]
 by_cases h1:f.kind=2<;>by_cases h2:f.words.length=0<;>simp[h1,h2,gd]
theorem x0Z{f:p6w}(hwf:WfF f){x:Bs}(hx:x∈f.words):r5Q x:=(u1b ((u1l f).1 hwf).1).2.2.2.2 x hx
def u6w(s:r5b):r5b:=⟨u0t s s.form [],s.words.map (46:: ·),s.r5o.map (33:: ·),s.parts.map (43:: ·)⟩
def zf:p6w:=.mk 0 [] [] []
abbrev Env:=List (Bs×r4Y)
theorem u3V{V:Type}(k:Bs)(v:V):∀m:List (Bs×V),assoc k (r5j k v m)=some v
 | []=>by simp[r5j,assoc]
 |(a,u)::m=>by
  rw[r5j]
  split
  ·simp[assoc]
  ·rename_i h
   rw[assoc,if_neg h,u3V k v m]
theorem u6N{V:Type}{k k':Bs}(h:k'≠k)(v:V):∀m:List (Bs×V),assoc k' (r5j k v m)=assoc k' m
 | []=>by
   show(if k'=k then some v else assoc k' ([]:List (Bs×V)))=_
   rw[if_neg h]
 |(a,u)::m=>by
  rw[r5j]
  split
  ·rename_i e
   subst e
   rw[assoc,assoc,if_neg h,if_neg h]
  ·rw[assoc,assoc,u6N h v m]
open Classical in
noncomputable def u9r(env:Env)(b:r4Y):Option Env:=match assoc b.name env with
 |none=>some (r5j b.name b env)
 |some b'=>if b'=b then some env else none
noncomputable def u1u:Env→List r4Y→Option Env
 |env,[]=>some env
 |env,b::l=>(u9r env b).bind fun e=>u1u e l
theorem w7r:∀(a b:List r4Y) (env:Env),u1u env (a++b)=(u1u env a).bind fun e=>u1u e b
 | [],b,env=>rfl
 |x::a,b,env=>by
  rw[List.cons_append,u1u,u1u]
  cases u9r env x with
  |none=>rfl
  |some e=>exact w7r a b e
theorem u5I{env e:Env}{b:r4Y}(h:u9r env b=some e):assoc b.name e=some b∧(∀k c,assoc k env=some c→assoc k e=some c)∧(∀k c,assoc k e=some c→assoc k env=some c∨(b.name=k∧b=c)):=by
 unfold u9r at h
 split at h
 ·rename_i h0
  cases h
  refine⟨u3V _ _ _,fun k c hc=>?_,fun k c hc=>?_⟩
  ·by_cases e:k=b.name
   ·rw[e,h0]at hc;cases hc
   ·rw[u6N e];exact hc
  ·by_cases e:k=b.name
   ·rw[e,u3V]at hc
    exact .inr ⟨e.symm,Option.some.inj hc⟩
   ·rw[u6N e]at hc;exact .inl hc
 ·rename_i b' h0
  split at h
  ·rename_i hb
   cases h
   exact⟨by rw[h0,hb],fun k c hc=>hc,fun k c hc=>.inl hc⟩
  ·cases h
theorem u5J:∀(ps:List r4Y) (env e:Env),u1u env ps=some e→(∀b∈ps,assoc b.name e=some b)∧(∀k c,assoc k env=some c→assoc k e=some c)∧(∀k c,assoc k e=some c→assoc k env=some c∨(∃b∈ps,b.name=k∧b=c))
 | [],env,e,h=>by cases h;exact⟨fun b hb=>(by cases hb),fun k c hc=>hc,fun k c hc=>.inl hc⟩
 |b::l,env,e,h=>by
  rw[u1u]at h
  cases hp:u9r env b with
  |none=>rw[hp]at h;cases h
  |some e1=>
   rw[hp]at h
   obtain⟨p1,p2,p3⟩:=u5I hp
   obtain⟨r1,r2,r3⟩:=u5J l e1 e h
   refine⟨fun c hc=>?_,fun k c hc=>r2 k c (p2 k c hc),fun k c hc=>?_⟩
   ·rcases List.mem_cons.1 hc with rfl|hc
    ·exact r2 _ _ p1
    ·exact r1 c hc
   ·rcases r3 k c hc with h|⟨x,hx,h1,h2⟩
    ·rcases p3 k c h with h|⟨h1,h2⟩
     ·exact .inl h
     ·exact .inr ⟨b,List.mem_cons_self ..,h1,h2⟩
    ·exact .inr ⟨x,List.mem_cons_of_mem _ hx,h1,h2⟩
def IsKey(k:Bs):Prop:=∃c t,k=c::t∧(c=33∨c=43∨c=46∨c=63)
theorem w3s{x:Bs}(h:r5Q x):¬IsKey x:=fun⟨c,t,e,hc⟩=>by
 have:=h.2.2.1.1
 subst e
 rcases hc with rfl|rfl|rfl|rfl<;>simp[r6p]at this
def u9s(b:r4Y):Prop:=SmF b.form∧((∃x,b.name=43::x∧b.text=[])∨(∃c x,b.name=c::x∧(c=33∨c=46∨c=63)∧b.form=zf))
def u6x(env:Env):Prop:=∀k b,assoc k env=some b→b.name=k∧u9s b
theorem w6j{env e:Env}{b:r4Y}(h:u6x env)(hb:u9s b)(hp:u9r env b=some e):u6x e:=fun k c hc=>by
 rcases(u5I hp).2.2 k c hc with h1|⟨rfl,rfl⟩
 ·exact h k c h1
 ·exact⟨rfl,hb⟩
theorem w6k{env e:Env}{ps:List r4Y}(h:u6x env)(hb:∀b∈ps,u9s b)(hp:u1u env ps=some e):u6x e:=fun k c hc=>by
 rcases(u5J _ _ _ hp).2.2 k c hc with h1|⟨b,hm,h1,h2⟩
 ·exact h k c h1
 ·subst h2;exact⟨h1,hb _ hm⟩
theorem u9s.key{b:r4Y}(h:u9s b):IsKey b.name:=by
 rcases h.2 with⟨x,e,_⟩|⟨c,x,e,hc,_⟩
 ·exact⟨43,x,e,by simp⟩
 ·exact⟨c,x,e,by rcases hc with h|h|h<;>simp[h]⟩
theorem y0v:SmF zf:=by unfold zf;rw[SmF];exact⟨by decide,by decide,by rw[u9e];trivial⟩
theorem w6l{c:UInt8}{x y:Bs}(h:c=33∨c=46∨c=63):u9s ⟨c::x,y,zf⟩:=⟨y0v,.inr ⟨c,x,rfl,h,rfl⟩⟩
def cat(a b:Option (List r4Y)):Option (List r4Y):=a.bind fun x=>b.bind fun y=>some (x++y)
theorem u8F(a b:Option (List r4Y))(s:Env):(cat a b).bind (u1u s)=(a.bind (u1u s)).bind fun s'=>b.bind (u1u s'):=by
 cases a with
 |none=>rfl
 |some x=>
  cases b with
  |none=>
   show none=(u1u s x).bind fun s'=>none
   cases u1u s x<;>rfl
  |some y=>exact w7r x y s
theorem x2S(o:Option (List r4Y))(b:r4Y)(s:Env):(o.map (b:: ·)).bind (u1u s)=(u9r s b).bind fun s'=>o.bind (u1u s'):=by
 cases o with
 |none=>show none=_;cases u9r s b<;>rfl
 |some x=>rfl
def ptw(W bd:List Bs):List Bs→List Bs→Option (List r4Y)
 |x::xs,y::ys=>if x∈bd then(ptw W bd xs ys).map (⟨63::x,y,zf⟩:: ·)else if x∈W then(ptw W bd xs ys).map (⟨46::x,y,zf⟩:: ·)else if x=y then ptw W bd xs ys else none
 | _,_=>some []
def pth(s:r5b)(f g:p6w):Option (List r4Y):=
 if QK f.kind then some [⟨63::f.name,g.name,zf⟩]else if f.kind=2∧f.name∈s.r5o then some [⟨33::f.name,g.name,zf⟩]else if f.name=g.name then some []else none
mutual
def pts(s:r5b):p6w→List Bs→p6w→Option (List r4Y)
 | .mk k n w l,bd,g=>if r7r s (.mk k n w l)then some [⟨43::n,[],g⟩]
   else if k≠g.kind∨w.length≠g.words.length then none
   else cat (pth s (.mk k n w l) g) (cat (ptw s.words bd w g.words) (u7x s l (if QK k then n::bd else bd) g.subs))
def u7x(s:r5b):List p6w→List Bs→List p6w→Option (List r4Y)
 | [],_,_=>some []
 |f::l,bd,gs=>match gs with
  | []=>some []
  |g::gs=>cat (pts s f bd g) (u7x s l bd gs)
end
theorem w4Q(s:r5b)(f:p6w)(bd:List Bs)(g:p6w):pts s f bd g=if r7r s f then some [⟨43::f.name,[],g⟩]else if f.kind≠g.kind∨f.words.length≠g.words.length then none else cat (pth s f g) (cat (ptw s.words bd f.words g.words) (u7x s f.subs (if QK f.kind then f.name::bd else bd) g.subs)):=by cases f;rw[pts];rfl
theorem x1a{a b:Option (List r4Y)}{Q:r4Y→Prop}(ha:∀x,a=some x→∀c∈x,Q c)(hb:∀x,b=some x→∀c∈x,Q c):∀x,cat a b=some x→∀c∈x,Q c:=fun x hx c hc=>by
 unfold cat at hx
 cases a with
 |none=>cases hx
 |some y=>
  cases b with
  |none=>cases hx
  |some z=>
   cases hx
   rcases List.mem_append.1 hc with h|h
   ·exact ha y rfl c h
   ·exact hb z rfl c h
theorem x3N(W bd:List Bs):∀(xs ys:List Bs) (ps:List r4Y),ptw W bd xs ys=some ps→∀b∈ps,u9s b
 | [],ys,ps,h,b,hb=>by rw[ptw]at h;cases h;cases hb;simp
 |x::xs,[],ps,h,b,hb=>by rw[ptw]at h;cases h;cases hb;simp
 |x::xs,y::ys,ps,h,b,hb=>by
  rw[ptw]at h
  have ih:=x3N W bd xs ys
  have mp:∀c:r4Y,u9s c→(ptw W bd xs ys).map (c:: ·)=some ps→u9s b:=fun c hc h=>by
   cases hp:ptw W bd xs ys with
   |none=>rw[hp]at h;cases h
   |some q=>
    rw[hp]at h;cases h
    rcases List.mem_cons.1 hb with rfl|hb
    ·exact hc
    ·exact ih q hp b hb
  split at h
  ·exact mp _ (w6l (.inr (.inr rfl))) h
  ·split at h
   ·exact mp _ (w6l (.inr (.inl rfl))) h
   ·split at h
    ·exact ih ps h b hb
    ·cases h
theorem x8c(s:r5b)(f g:p6w)(ps:List r4Y)(h:pth s f g=some ps):∀b∈ps,u9s b:=fun b hb=>by
 unfold pth at h
 split at h
 ·cases h
  rw[List.mem_singleton]at hb;subst hb
  exact w6l (.inr (.inr rfl))
 ·split at h
  ·cases h
   rw[List.mem_singleton]at hb;subst hb
   exact w6l (.inl rfl)
  ·split at h
   ·cases h;cases hb
   ·cases h
mutual
theorem w7s(s:r5b):∀(f:p6w) (bd:List Bs) (g:p6w),SmF g→∀ps,pts s f bd g=some ps→∀b∈ps,u9s b
 | .mk k n w l,bd,g,hg,ps,h,b,hb=>by
   rw[pts]at h
   split at h
   ·cases h
    rw[List.mem_singleton]at hb;subst hb
    exact⟨hg,.inl ⟨n,rfl,rfl⟩⟩
   ·split at h
    ·cases h
    ·exact x1a (fun x hx=>x8c s _ g x hx) (x1a (fun x hx=>x3N _ _ _ _ x hx) (fun x hx=>x1b s l _ g.subs ((w7p g).1 hg).2.2 x hx)) ps h b hb
theorem x1b(s:r5b):∀(l:List p6w) (bd:List Bs) (gs:List p6w),u9e gs→∀ps,u7x s l bd gs=some ps→∀b∈ps,u9s b
 | [],bd,gs,hg,ps,h,b,hb=>by rw[u7x]at h;cases h;cases hb
 |f::l,bd,[],hg,ps,h,b,hb=>by rw[u7x]at h;cases h;cases hb
 |f::l,bd,g::gs,hg,ps,h,b,hb=>by
  rw[u7x]at h
  rw[u9e]at hg
  exact x1a (fun x hx=>w7s s f bd g hg.1 x hx) (fun x hx=>x1b s l bd gs hg.2 x hx) ps h b hb
end
theorem x2T(a b:List Bs):r6K a b=some (decide (a=b)):=by
 have h:Evt (fun _=>r6K a b) (fun r=>r=decide (a=b)):=by
  unfold r6K
  refine Evt.cond (fun e=>Evt.pure ?_) (fun e=>?_)
  ·replace e:=bx e
   exact(decide_eq_false fun h=>e (by rw[h])).symm
  replace e:=bx e
  have hl:a.length=b.length:=by omega
  refine Evt.r5r (Evt.scan (fun k _=>a.take k=b.take k) (fun k r=>r=false∧Am.get a k≠Am.get b k) (by simp) (fun k u hk hi=>?_)) (fun t ht=>?_) (fun r hr=>?_)
  ·unfold r7K
   refine Evt.chk (by omega) (Evt.cond (fun e=>Evt.pure ?_) (fun e=>Evt.pure ?_))
   ·replace e:=bx e
    exact⟨rfl,e⟩
   ·replace e:=bx e
    show a.take (k+1)=b.take (k+1)
    rw[r8p hk,r8p (l:=b) (by omega),hi,e]
  ·unfold r7L
   refine Evt.pure (decide_eq_true ?_).symm
   have ht:a.take a.length=b.take a.length:=ht
   rw[List.take_length,hl,List.take_length]at ht
   exact ht
  ·obtain⟨k,_,_,_,rfl,h⟩:=hr
   exact(decide_eq_false fun e=>h (by rw[e])).symm
 obtain⟨r,rfl,N,hN⟩:=h
 exact hN N (Nat.le_refl _)
open Classical in
theorem x1c:∀(m:Nat) (f:p6w),SizeOf.sizeOf f≤m→SmF f→∀g:p6w,Evt (fun n=>u1O n f g) (fun r=>r=decide (f=g)):=by
 intro m
 induction m with
 |zero=>intro f h;cases f;simp only[p6w.mk.sizeOf_spec]at h;omega
 |succ m ih=>
  intro f hf hsm g
  obtain⟨_,hsl,hsm⟩:=(w7p f).1 hsm
  refine Evt.succ ?_
  simp only[u1O,x2T]
  refine Evt.bind (P:=fun v=>f.kind=g.kind→f.name=g.name→v=decide (f.words=g.words)) (Evt.gd (fun _=>Evt.pure fun _ _=>by congr) (fun h h1 h2=>by simp[h1,h2]at h)) fun v hv=>?_
  refine Evt.cond (fun e=>Evt.pure (decide_eq_false fun h=>?_).symm) (fun e=>?_)
  ·subst h
   have:=hv rfl rfl
   simp[this]at e
  have e1:f.kind=g.kind:=Classical.byContradiction fun h=>by simp[h]at e
  have e2:f.name=g.name:=Classical.byContradiction fun h=>by simp[h]at e
  have e3:f.words=g.words:=Classical.byContradiction fun h=>by have:=hv e1 e2;rw[decide_eq_false h]at this;simp[this]at e
  have e4:f.subs.length=g.subs.length:=Classical.byContradiction fun h=>by
   have:¬((f.subs.length:Int)=(g.subs.length:Int)):=by omega
   rw[decide_eq_false this]at e
   revert e
   cases (bif bif !decide (f.kind=g.kind)then true else !decide (f.name=g.name)then true else !v)<;>simp
  refine Evt.chk (by omega) (Evt.r5r (Evt.scan (fun k _=>f.subs.take k=g.subs.take k) (fun k r=>r=false∧Am.get f.subs k≠Am.get g.subs k) (by simp) (fun k u hk hi=>?_)) (fun t ht=>?_) (fun r hr=>?_))
  ·unfold u3k
   have hsz:=u0r hk
   refine Evt.chk (by omega) (Evt.bind (ih _ (by omega) (w3q hsm _ (get_mem hk)) _) fun v2 hv2=>Evt.cond (fun e=>Evt.pure ?_) (fun e=>Evt.pure ?_))
   ·subst hv2
    exact⟨rfl,fun h=>by rw[decide_eq_true h]at e;cases e⟩
   ·subst hv2
    have h:Am.get f.subs k=Am.get g.subs k:=Classical.byContradiction fun h=>by rw[decide_eq_false h]at e;cases e
    show f.subs.take (k+1)=g.subs.take (k+1)
    rw[r8p hk,r8p (l:=g.subs) (by omega),hi,h]
  ·unfold u3l
   refine Evt.pure (decide_eq_true ?_).symm
   have ht:f.subs.take f.subs.length=g.subs.take f.subs.length:=ht
   rw[List.take_length,e4,List.take_length]at ht
   cases f;cases g
   simp only[p6w.kind,p6w.name,p6w.words,p6w.subs]at*
   rw[e1,e2,e3,ht]
  ·obtain⟨k,_,_,_,rfl,h⟩:=hr
   exact(decide_eq_false fun e=>h (by rw[e])).symm
def RM(o:Option Env)(r:Bool×Env):Prop:=(∀e,o=some e→r=(true,e))∧(o=none→r.1=false)
theorem w0W{env:Env}(he:u6x env){c:UInt8}(hc:c=33∨c=46∨c=63)(x y:Bs):Evt (fun _=>r8W (c::x) y env) (RM (u9r env ⟨c::x,y,zf⟩)):=by
 unfold r8W u9r
 cases h:assoc (c::x) env with
 |none=>
  refine Evt.cond (fun e=>by simp at e) (fun _=>Evt.r9F (Evt.pure ?_))
  simp only[h]
  exact⟨fun e he=>by cases he;rfl,fun he=>by cases he⟩
 |some b=>
  refine Evt.cond (fun _=>Evt.pure ?_) (fun e=>by simp at e)
  simp only[h]
  obtain⟨h1,h2⟩:=he _ _ h
  have hiff:b=⟨c::x,y,zf⟩↔b.text=y:=by
   constructor
   ·intro e;rw[e]
   ·intro e
    obtain⟨_,h2⟩:=h2
    rcases h2 with⟨z,e1,_⟩|⟨c',z,e1,hc',e2⟩
    ·rw[h1]at e1
     have:=(List.cons.inj e1).1
     rcases hc with rfl|rfl|rfl<;>cases this
    ·cases b
     simp only at h1 e2 e
     rw[h1,e,e2]
  by_cases hb:b.text=y
  ·rw[if_pos (hiff.2 hb)]
   refine⟨fun e he=>?_,fun he=>by cases he⟩
   cases he
   show(decide (((some b).getD default).text=y),env)=_
   rw[decide_eq_true (show((some b).getD default).text=y from hb)]
  ·rw[if_neg fun e=>hb (hiff.1 e)]
   exact⟨fun e he=>(by cases he),fun _=>decide_eq_false hb⟩
def Has(bd:List Bs)(env:Env):Prop:=∀x∈bd,(assoc (63::x) env).isSome=true
theorem Has.mono{bd:List Bs}{env e:Env}(h:Has bd env)(hm:∀k c,assoc k env=some c→assoc k e=some c):Has bd e:=fun x hx=>by
 obtain⟨c,hc⟩:=Option.isSome_iff_exists.1 (h x hx)
 rw[hm _ _ hc];rfl
theorem u7V{c:UInt8}{x:Bs}{l:List Bs}:(c::x)∈l.map (c:: ·)↔x∈l:=by
 rw[List.mem_map]
 exact⟨fun⟨y,hy,e⟩=>(List.cons.inj e).2▸hy,fun h=>⟨x,h,rfl⟩⟩
theorem w6m{c:UInt8}(hc:c=33∨c=43∨c=46∨c=63){k:Bs}{l:List Bs}(h:k∈l.map (c:: ·)):IsKey k:=by
 obtain⟨y,_,rfl⟩:=List.mem_map.1 h
 exact⟨c,y,rfl,hc⟩
theorem x2U{env:Env}(he:u6x env){x:Bs}(hx:¬IsKey x):assoc x env=none:=by
 cases h:assoc x env with
 |none=>rfl
 |some b=>
  obtain⟨h1,h2⟩:=he _ _ h
  exact absurd (h1▸h2.key) hx
section
variable {s:r5b}
theorem w7t{xs:List Bs}{k:Nat}(h:k<xs.length):xs.drop k=Am.get xs k::xs.drop (k+1):=x5e h
theorem x5g(W bd ys:List Bs):ptw W bd [] ys=some []:=by cases ys<;>simp[ptw]
theorem w7u(env:Env)(b:r4Y):u1u env [b]=u9r env b:=by
 rw[u1u]
 cases u9r env b<;>rfl
theorem w7v{f g:p6w}(hf:WfF f)(hlen:f.words.length=g.words.length)(bd:List Bs){env:Env}(he:u6x env)(hh:Has bd env):
 Evt (fun _=>r5J (r9R (u0t s f bd) (u6w s) g) (u0t s f bd).words.length env) (ExP (fun t=>(ptw s.words bd f.words g.words).bind (u1u env)=some t∧u6x t∧Has bd t) (fun r=>(ptw s.words bd f.words g.words).bind (u1u env)=none∧r.1=false)):=by
 have hml:(u0t s f bd).words.length=f.words.length:=by rw[u3j];exact List.length_map _
 rw[hml]
 refine(Evt.range (fun k t=>(ptw s.words bd f.words g.words).bind (u1u env)=(ptw s.words bd (f.words.drop k) (g.words.drop k)).bind (u1u t)∧u6x t∧Has bd t) (fun _=>False) (fun r=>(ptw s.words bd f.words g.words).bind (u1u env)=none∧r.1=false) ⟨rfl,he,hh⟩ (fun k t hk ht=>?_)).mono fun e h=>?_
 ·obtain⟨ht,hte,hth⟩:=ht
  have hkg:k<g.words.length:=by omega
  have hkm:Am.get (u0t s f bd).words k=mkw s.words bd (Am.get f.words k):=by rw[u3j];exact get_map _ hk
  rw[w7t hk,w7t hkg,ptw]at ht
  unfold r9R
  simp only[hkm,r7E]
  have nx:¬IsKey (Am.get f.words k):=w3s (x0Z hf (get_mem hk))
  have fin:∀(c:UInt8),c=46∨c=63→(ptw s.words bd f.words g.words).bind (u1u env)=((ptw s.words bd (f.words.drop (k+1)) (g.words.drop (k+1))).map (⟨c::Am.get f.words k,Am.get g.words k,zf⟩:: ·)).bind (u1u t)→
   Evt (fun _:Nat=>chk ((k:Int)<(g.words.length:Int)) <| (r8W (c::Am.get f.words k) (Am.get g.words k) t).bind fun v14=>bif (!v14.1)then some (Ctl.ret (τ:=Env) (false,v14.2))else some (.nxt v14.2)) (w4u (fun t=>(ptw s.words bd f.words g.words).bind (u1u env)=(ptw s.words bd (f.words.drop (k+1)) (g.words.drop (k+1))).bind (u1u t)∧u6x t∧Has bd t) (fun _=>False) (fun r=>(ptw s.words bd f.words g.words).bind (u1u env)=none∧r.1=false)):=by
   intro c hc ht
   rw[x2S]at ht
   refine Evt.chk (by omega) (Evt.bind (w0W hte (hc.elim (fun h=>.inr (.inl h)) fun h=>.inr (.inr h)) _ _) fun v hv=>?_)
   cases hp:u9r t ⟨c::Am.get f.words k,Am.get g.words k,zf⟩with
   |none=>
    rw[hp]at ht hv
    have h1:=hv.2 rfl
    refine Evt.cond (fun _=>Evt.pure ⟨ht,rfl⟩) (fun e=>by rw[h1]at e;cases e)
   |some t'=>
    rw[hp]at ht hv
    have h1:=hv.1 _ rfl
    subst h1
    refine Evt.cond (fun e=>by cases e) (fun _=>Evt.pure ⟨ht,w6j hte (w6l (hc.elim (fun h=>.inr (.inl h)) fun h=>.inr (.inr h))) hp,hth.mono (u5I hp).2.1⟩)
  by_cases h1:Am.get f.words k∈bd
  ·rw[if_pos h1]at ht
   have e1:mkw s.words bd (Am.get f.words k)=63::Am.get f.words k:=by unfold mkw;rw[if_pos h1]
   rw[e1]
   have h2:=hth _ h1
   simp only[h2]
   exact fin 63 (.inr rfl) ht
  ·rw[if_neg h1]at ht
   by_cases h2:Am.get f.words k∈s.words
   ·rw[if_pos h2]at ht
    have e1:mkw s.words bd (Am.get f.words k)=46::Am.get f.words k:=by unfold mkw;rw[if_neg h1,if_pos h2]
    rw[e1]
    have h3:decide (46::Am.get f.words k∈(u6w s).words)=true:=decide_eq_true (u7V.2 h2)
    simp only[h3]
    cases h4:(assoc (46::Am.get f.words k) t).isSome
    ·exact fin 46 (.inl rfl) ht
    ·exact fin 46 (.inl rfl) ht
   ·rw[if_neg h2]at ht
    have e1:mkw s.words bd (Am.get f.words k)=Am.get f.words k:=by unfold mkw;rw[if_neg h1,if_neg h2]
    rw[e1]
    have h3:(assoc (Am.get f.words k) t).isSome=false:=by rw[x2U hte nx];rfl
    have h4:decide (Am.get f.words k∈(u6w s).words)=false:=decide_eq_false fun h=>nx (w6m (.inr (.inr (.inl rfl))) h)
    simp only[h3,h4]
    refine Evt.chk (by omega) (Evt.cond (fun e=>Evt.pure ?_) (fun e=>Evt.pure ?_))
    ·replace e:=bx e
     rw[if_neg e]at ht
     exact⟨ht,rfl⟩
    ·replace e:=bx e
     rw[if_pos e]at ht
     exact⟨ht,hte,hth⟩
 ·cases e with
  |ret r=>exact h
  |nxt t=>
   obtain⟨h1,h2,h3⟩:=h.elim id False.elim
   rw[List.drop_length,x5g]at h1
   exact⟨h1,h2,h3⟩
open Classical in
theorem x8d:∀(m:Nat) (f:p6w),SizeOf.sizeOf f≤m→WfF f→∀(g:p6w),WfF g→∀(bd:List Bs) (env:Env),u6x env→Has bd env→
 Evt (fun n=>r5I n (u6w s) (u0t s f bd) g env) (RM ((pts s f bd g).bind (u1u env))):=by
 intro m
 induction m with
 |zero=>intro f h;cases f;simp only[p6w.mk.sizeOf_spec]at h;omega
 |succ m ih=>
  intro f hf hwf g hwg bd env he hh
  have hnf:=u1b ((u1l f).1 hwf).1
  have hng:=u1b ((u1l g).1 hwg).1
  have hml:(u0t s f bd).words.length=f.words.length:=by rw[u3j];exact List.length_map _
  have hmk:(u0t s f bd).kind=f.kind:=by rw[u3j];rfl
  have hmn:(u0t s f bd).name=mkn s f:=by rw[u3j];rfl
  have hms:(u0t s f bd).subs=u0H s f.subs (if QK f.kind then f.name::bd else bd):=by rw[u3j];rfl
  have hk2:f.kind=2→¬QK f.kind:=fun h=>by unfold QK;omega
  have hplain:f.kind=2→¬IsKey f.name:=fun h=>w3s (hnf.2.2.1 (.inl h))
  have hpart:r7r (u6w s) (u0t s f bd)↔r7r s f:=by
   unfold r7r
   rw[hmk,hml,hmn]
   constructor
   ·rintro⟨h1,h2⟩
    refine⟨h1,?_⟩
    unfold mkn at h2
    rw[if_neg (hk2 h1.1)]at h2
    split at h2
    ·rename_i h3;exact h3.2
    ·exfalso
     obtain⟨y,_,e⟩:=List.mem_map.1 h2
     split at e
     ·cases (List.cons.inj e).1
     ·exact hplain h1.1 (e▸ ⟨43,y,rfl,by simp⟩)
   ·rintro⟨h1,h2⟩
    refine⟨h1,?_⟩
    unfold mkn
    rw[if_neg (hk2 h1.1),if_pos (show r7r s f from⟨h1,h2⟩)]
    exact u7V.2 h2
  refine Evt.succ ?_
  simp only[r5I,w0V,Option.bind_some,u5H,r7E,hmk,hml,hmn]
  rw[w4Q]
  refine Evt.cond (fun e=>?_) (fun e=>?_)
  ·have hp:r7r s f:=hpart.1 (of_decide_eq_true e)
   rw[if_pos hp]
   have y0w:mkn s f=43::f.name:=by unfold mkn;rw[if_neg (hk2 hp.1.1),if_pos hp]
   rw[y0w]
   show Evt _ (RM (u1u env [_]))
   rw[w7u]
   unfold u9r
   cases h:assoc (43::f.name) env with
   |none=>
    refine Evt.cond (fun e=>by simp at e) (fun _=>Evt.r9F (Evt.pure ?_))
    exact⟨fun e he=>by cases he;rfl,fun he=>by cases he⟩
   |some b=>
    refine Evt.cond (fun _=>?_) (fun e=>by simp at e)
    obtain⟨h1,h2⟩:=he _ _ h
    have hsm:=h2.1
    have htx:b.text=[]:=by
     rcases h2.2 with⟨z,e1,e2⟩|⟨c',z,e1,hc',e2⟩
     ·exact e2
     ·rw[h1]at e1
      have:=(List.cons.inj e1).1
      rcases hc' with rfl|rfl|rfl<;>cases this
    have hiff:b=⟨43::f.name,[],g⟩↔b.form=g:=by
     constructor
     ·intro e;rw[e]
     ·intro e
      cases b
      simp only at h1 htx e
      rw[h1,htx,e]
    refine Evt.bind (x1c _ b.form (Nat.le_refl _) hsm g) fun v hv=>Evt.pure ?_
    subst hv
    by_cases hb:b.form=g
    ·simp only[if_pos (hiff.2 hb),decide_eq_true hb]
     exact⟨fun e he=>by cases he;rfl,fun he=>by cases he⟩
    ·simp only[if_neg fun e=>hb (hiff.1 e),decide_eq_false hb]
     exact⟨fun e he=>(by cases he),fun _=>rfl⟩
  have hp:¬r7r s f:=fun h=>(of_decide_eq_false e) (hpart.2 h)
  rw[if_neg hp]
  refine Evt.cond (fun e=>Evt.pure ?_) (fun e=>?_)
  ·have hc:f.kind≠g.kind∨f.words.length≠g.words.length:=Classical.byContradiction fun h=>by
    obtain⟨h1,h2⟩:=not_or.1 h
    have h1:=Classical.not_not.1 h1
    have h2:=Classical.not_not.1 h2
    simp[h1,h2]at e
   rw[if_pos hc]
   exact⟨fun e he=>(by cases he),fun _=>rfl⟩
  have hk:f.kind=g.kind:=Classical.byContradiction fun h=>by simp[h]at e
  have hl:f.words.length=g.words.length:=Classical.byContradiction fun h=>by
   have:¬((f.words.length:Int)=(g.words.length:Int)):=by omega
   simp[this]at e
  rw[if_neg fun h=>h.elim (fun h=>h hk) (fun h=>h hl),u8F]
  have hsl:f.subs.length=g.subs.length:=by have:=hnf.1;have:=hng.1;rw[hk]at *; omega
  have rest:∀w8E:Env,u6x w8E→Has bd w8E→Has (if QK f.kind then f.name::bd else bd) w8E→Evt (fun n=>r7j (r5I n) (u0t s f bd) (u6w s) g w8E) (RM ((cat (ptw s.words bd f.words g.words) (u7x s f.subs (if QK f.kind then f.name::bd else bd) g.subs)).bind (u1u w8E))):=by
   intro w8E he1 hh1 y0x
   rw[u8F]
   unfold r7j
   refine Evt.r5r (w7v hwf hl bd he1 hh1) (fun t ht=>?_) (fun r hr=>?_)
   ·obtain⟨ht,hte,hth⟩:=ht
    have hmono:Has (if QK f.kind then f.name::bd else bd) t:=by
     cases hw:ptw s.words bd f.words g.words with
     |none=>rw[hw]at ht;cases ht
     |some ps=>rw[hw]at ht;exact y0x.mono (u5J _ _ _ ht).2.1
    rw[ht]
    unfold r9S
    rw[hms,u8E]
    refine Evt.r5r (P:=ExP (fun t'=>(u7x s f.subs (if QK f.kind then f.name::bd else bd) g.subs).bind (u1u t)=some t') (fun r=>(u7x s f.subs (if QK f.kind then f.name::bd else bd) g.subs).bind (u1u t)=none∧r.1=false)) ((Evt.range (fun k t'=>(u7x s f.subs (if QK f.kind then f.name::bd else bd) g.subs).bind (u1u t)=(u7x s (f.subs.drop k) (if QK f.kind then f.name::bd else bd) (g.subs.drop k)).bind (u1u t')∧u6x t'∧Has (if QK f.kind then f.name::bd else bd) t') (fun _=>False) (fun r=>(u7x s f.subs (if QK f.kind then f.name::bd else bd) g.subs).bind (u1u t)=none∧r.1=false) ⟨rfl,hte,hmono⟩ (fun k t' hk ht'=>?_)).mono fun e h=>?_) (fun t' ht'=>?_) (fun r hr=>?_)
    ·obtain⟨ht',x8e,x8f⟩:=ht'
     have hkg:k<g.subs.length:=by omega
     have hkm:Am.get (u0t s f bd).subs k=u0t s (Am.get f.subs k) (if QK f.kind then f.name::bd else bd):=by
      rw[hms]
      have:∀(l:List p6w) (bd:List Bs) (k:Nat),k<l.length→Am.get (u0H s l bd) k=u0t s (Am.get l k) bd:=by
       intro l
       induction l with
       |nil=>intro bd k h;cases h
       |cons a l ih=>
        intro bd k h
        rw[u0H]
        cases k with
        |zero=>rfl
        |succ k=>exact ih bd k (by simpa using h)
      exact this _ _ _ hk
     have e1:f.subs.drop k=Am.get f.subs k::f.subs.drop (k+1):=by rw[List.drop_eq_getElem_cons hk];simp[Am.get,hk]
     have e2:g.subs.drop k=Am.get g.subs k::g.subs.drop (k+1):=by rw[List.drop_eq_getElem_cons hkg];simp[Am.get,hkg]
     rw[e1,e2,u7x,u8F]at ht'
     unfold r9T
     simp only[hkm]
     have hsz:=u0r hk
     refine Evt.chk (by omega) (Evt.bind (ih _ (by omega) (w0R hwf hk) _ (w0R hwg hkg) _ t' x8e x8f) fun v hv=>?_)
     cases hp:(pts s (Am.get f.subs k) (if QK f.kind then f.name::bd else bd) (Am.get g.subs k)).bind (u1u t')with
     |none=>
      rw[hp]at ht' hv
      have h1:=hv.2 rfl
      exact Evt.cond (fun _=>Evt.pure ⟨ht',rfl⟩) (fun e=>by rw[h1]at e;cases e)
     |some t''=>
      rw[hp]at ht' hv
      have h1:=hv.1 _ rfl
      subst h1
      refine Evt.cond (fun e=>by cases e) (fun _=>Evt.pure ⟨ht',?_,?_⟩)
      ·cases hq:pts s (Am.get f.subs k) (if QK f.kind then f.name::bd else bd) (Am.get g.subs k)with
       |none=>rw[hq]at hp;cases hp
       |some ps=>rw[hq]at hp;exact w6k x8e (w7s s _ _ _ (WfF.sm _ (w0R hwg hkg)) ps hq) hp
      ·cases hq:pts s (Am.get f.subs k) (if QK f.kind then f.name::bd else bd) (Am.get g.subs k)with
       |none=>rw[hq]at hp;cases hp
       |some ps=>rw[hq]at hp;exact x8f.mono (u5J _ _ _ hp).2.1
    ·cases e with
     |ret r=>exact h
     |nxt t'=>
      obtain⟨h1,h2,h3⟩:=h.elim id False.elim
      rw[List.drop_length,u7x]at h1
      exact h1
    ·unfold r9U
     have ht':(u7x s f.subs (if QK f.kind then f.name::bd else bd) g.subs).bind (u1u t)=some t':=ht'
     refine Evt.pure ?_
     show RM ((some t).bind _) _
     rw[Option.bind_some,ht']
     exact⟨fun e he=>by cases he;rfl,fun he=>by cases he⟩
    ·show RM ((some t).bind _) _
     rw[Option.bind_some,hr.1]
     exact⟨fun e he=>(by cases he),fun _=>hr.2⟩
   ·rw[hr.1]
    exact⟨fun e he=>(by cases he),fun _=>hr.2⟩
  have x8g:∀c:UInt8,c=33∨c=63→mkn s f=c::f.name→pth s f g=some [⟨c::f.name,g.name,zf⟩]→(QK f.kind→c=63)→Evt (fun n=>r6n (r5I n) (u0t s f bd) g env (u6w s) true) (RM (((pth s f g).bind (u1u env)).bind fun s'=>(cat (ptw s.words bd f.words g.words) (u7x s f.subs (if QK f.kind then f.name::bd else bd) g.subs)).bind (u1u s'))):=by
   intro c hc hm hpt hq
   have hc3:c=33∨c=46∨c=63:=hc.elim .inl fun h=>.inr (.inr h)
   unfold r6n
   simp only[cond_true,hmn,hm,hpt]
   have e0:(some [(⟨c::f.name,g.name,zf⟩:r4Y)]).bind (u1u env)=u9r env ⟨c::f.name,g.name,zf⟩:=by
    show u1u env [_]=_
    rw[u1u]
    cases u9r env ⟨c::f.name,g.name,zf⟩<;>rfl
   rw[e0]
   refine Evt.bind (w0W he hc3 f.name g.name) fun v hv=>?_
   cases hp:u9r env ⟨c::f.name,g.name,zf⟩with
   |none=>
    rw[hp]at hv
    have h1:=hv.2 rfl
    exact Evt.cond (fun _=>Evt.pure ⟨fun e he=>(by cases he),fun _=>rfl⟩) (fun e=>by rw[h1]at e;cases e)
   |some t=>
    rw[hp]at hv
    have h1:=hv.1 _ rfl
    subst h1
    refine Evt.cond (fun e=>by cases e) (fun _=>?_)
    have hm1:=hh.mono (u5I hp).2.1
    refine rest t (w6j he (w6l hc3) hp) hm1 ?_
    by_cases hqk:QK f.kind
    ·rw[if_pos hqk]
     intro x hx
     rcases List.mem_cons.1 hx with rfl|hx
     ·have:=(u5I hp).1
      obtain rfl:=hq hqk
      show(assoc (63::f.name) t).isSome=true
      rw[show assoc (63::f.name) t=some _ from this];rfl
     ·exact hm1 x hx
    ·rw[if_neg hqk];exact hm1
  refine Evt.cond (fun e=>?_) (fun e=>?_)
  ·have hq:QK f.kind:=of_decide_eq_true e
   rw[e]
   exact x8g 63 (.inr rfl) (by unfold mkn;rw[if_pos hq]) (by unfold pth;rw[if_pos hq]) (fun _=>rfl)
  ·have hq:¬QK f.kind:=of_decide_eq_false e
   have w8F:mkn s f=if f.kind=2∧f.name∈s.r5o then 33::f.name else f.name:=by unfold mkn;rw[if_neg hq,if_neg hp]
   refine Evt.bind (P:=fun v=>f.kind=2→v=decide (mkn s f∈(u6w s).r5o)) (Evt.gd (fun _=>Evt.pure fun _=>rfl) (fun g h=>by simp[h]at g)) fun v hv=>?_
   by_cases hpr:f.kind=2∧f.name∈s.r5o
   ·rw[if_pos hpr]at w8F
    have h1:=hv hpr.1
    rw[w8F,decide_eq_true (show(33::f.name:Bs)∈(u6w s).r5o from u7V.2 hpr.2)]at h1
    have e2:(bif decide (f.kind=2)then v else false)=true:=by simp[hpr.1,h1]
    rw[e2]
    exact x8g 33 (.inl rfl) w8F (by unfold pth;rw[if_neg hq,if_pos hpr]) (fun h=>absurd h hq)
   ·rw[if_neg hpr]at w8F
    have e2:(bif decide (f.kind=2)then v else false)=false:=by
     by_cases h2:f.kind=2
     ·have h1:=hv h2
      rw[w8F,decide_eq_false (show ¬f.name∈(u6w s).r5o from fun h=>hplain h2 (w6m (.inl rfl) h))]at h1
      simp[h1]
     ·simp[h2]
    rw[e2]
    have hpt:pth s f g=if f.name=g.name then some []else none:=by unfold pth;rw[if_neg hq,if_neg hpr]
    unfold r6n
    simp only[cond_false,hmn,w8F,hpt]
    refine Evt.cond (fun e=>Evt.pure ?_) (fun e=>?_)
    ·replace e:=bx e
     rw[if_neg e]
     exact⟨fun e he=>(by cases he),fun _=>rfl⟩
    ·replace e:=bx e
     rw[if_pos e]
     exact rest env he hh (by rw[if_neg hq];exact hh)
end
mutual
theorem x2V(s:r5b):∀(f:p6w) (bd:List Bs),ndF (u0t s f bd)=ndF f
 | .mk k n w l,bd=>by rw[u0t,ndF,ndF,w4R s l]
theorem w4R(s:r5b):∀(l:List p6w) (bd:List Bs),r9s (u0H s l bd)=r9s l
 | [],bd=>by rw[u0H]
 |f::l,bd=>by rw[u0H,r9s,r9s,x2V s f,w4R s l]
end
mutual
theorem x2W(s:r5b):∀(f:p6w) (bd:List Bs),qs (u0t s f bd)=(qs f).map (63:: ·)
 | .mk k n w l,bd=>by
   rw[u0t,qs,qs,w4S s l,List.map_append]
   by_cases h:QK k
   ·have:mkn s (.mk k n w l)=63::n:=by unfold mkn;exact if_pos h
    simp only[if_pos h,this];rfl
   ·simp only[if_neg h];rfl
theorem w4S(s:r5b):∀(l:List p6w) (bd:List Bs),qsL (u0H s l bd)=(qsL l).map (63:: ·)
 | [],bd=>by rw[u0H,qsL];rfl
 |f::l,bd=>by rw[u0H,qsL,qsL,x2W s f,w4S s l,List.map_append]
end
def x8h(s:r5b):List Bs:=(s.words.map (46:: ·)++s.r5o.map (33:: ·)++s.parts.map (43:: ·))++(qs s.form).map (63:: ·)
def txE(e:Env)(k:Bs):Bs:=((assoc k e).getD default).text
def fmE(e:Env)(k:Bs):p6w:=((assoc k e).getD default).form
def caught(s:r5b)(e:Env):Prop:=∃w∈s.words,txE e (46::w)∈(qs s.form).map fun x=>txE e (63::x)
open Classical in
noncomputable def x8i(s:r5b)(g:p6w):List r4Y×Bool:=match (pts s s.form [] g).bind (u1u [])with
 |none=>([],false)
 |some e=>if caught s e then([],false)else((x8h s).map fun k=>⟨k.drop 1,txE e k,fmE e k⟩,true)
theorem x1d{k:Int}{n n':Bs}{w w':List Bs}{l l':List p6w}(h:r9Z (.mk k n w l)=0)(hn:k=2→n'=n)(hq:QK k→r5Q n')(hn2:¬(k=2∨QK k)→n'=n)(hw:w'.length=w.length)(hl:l'.length=l.length)(hx:∀x∈w',r5Q x):r9Z (.mk k n' w' l')=0:=by
 have o:=u1b h
 refine x2N (by have:=o.1;show 0≤arF k;have h2:((l.length:Nat):Int)=arF k:=this;omega) (by show(l'.length:Int)=arF k;rw[hl];exact o.1) (by show u3z k w'.length;rw[hw];exact o.2.1) (fun h=>?_) (fun h=>?_) hx
 ·rcases h with h|h
  ·have h:k=2:=h
   have:=o.2.2.1 (.inl h)
   show r5Q n'
   rw[hn h];exact this
  ·exact hq h
 ·show n'=[]
  rw[hn2 h];exact o.2.2.2.1 h
mutual
theorem x8j(N:Nat→Bs)(q:Nat)(hN:∀i,i<q→r5Q (N i)):∀(f:p6w) (env:List (Bs×Bs)) (i:Nat),WfF f→i+nq f≤q→(∀p∈env,r5Q p.2)→WfF (ren N f env i)
 | .mk k n w s,env,i,h,hq,x3O=>by
   have h0:=(u1l _).1 h
   have hnn:r9Z (.mk k n w s)=0:=h0.1
   have hss:u6L s:=h0.2
   rw[nq]at hq
   rw[ren,u1l]
   refine⟨x1d hnn (fun e=>if_neg (by unfold QK;omega)) (fun e=>?_) (fun e=>if_neg fun e2=>e (.inr e2)) (List.length_map _) (u7T _ _ _ _) (fun x hx=>?_),?_⟩
   ·rw[if_pos e]
    rw[if_pos e]at hq
    exact hN i (by omega)
   ·obtain⟨y,hy,rfl⟩:=List.mem_map.1 hx
    have hyn:r5Q y:=x0Z h hy
    by_cases hm:y∈env.map (·.1)
    ·obtain⟨p,hp,e⟩:=List.mem_map.1 (w3g hm)
     rw[←e];exact x3O p hp
    ·rw[u7o fun p hp e=>hm (List.mem_map.2 ⟨p,hp,e⟩)];exact hyn
   ·refine x1e N q hN s _ _ hss ?_ (fun p hp=>?_)
    ·by_cases e:QK k
     ·simp only[if_pos e]at hq ⊢; omega
     ·simp only[if_neg e]at hq ⊢; omega
    ·by_cases e:QK k
     ·rw[if_pos e]at hp
      rw[if_pos e]at hq
      rcases List.mem_cons.1 hp with rfl|hp
      ·exact hN i (by omega)
      ·exact x3O p hp
     ·rw[if_neg e]at hp;exact x3O p hp
theorem x1e(N:Nat→Bs)(q:Nat)(hN:∀i,i<q→r5Q (N i)):∀(l:List p6w) (env:List (Bs×Bs)) (i:Nat),u6L l→i+nqL l≤q→(∀p∈env,r5Q p.2)→u6L (r9f N l env i)
 | [],env,i,_,_,_=>by rw[r9f,u6L];trivial
 |f::l,env,i,h,hq,x3O=>by
  rw[nqL]at hq
  rw[r9f,u6L]
  exact⟨x8j N q hN f env i (r7s.1 h f (List.mem_cons_self ..)) (by omega) x3O,x1e N q hN l env _ (r7s.2 fun x hx=>r7s.1 h x (List.mem_cons_of_mem _ hx)) (by omega) x3O⟩
end
theorem y0y{s:r5b}(hw:s.words.length≤1048576∧∀x∈s.words,x.length≤1048576)(hp:s.r5o.length≤1048576∧∀x∈s.r5o,x.length≤1048576)(hq:s.parts.length≤1048576∧∀x∈s.parts,x.length≤1048576):SB s:=by
 refine⟨hw.1,hp.1,hq.1,fun x hx=>?_⟩
 rcases List.mem_append.1 hx with hx|hx
 ·rcases List.mem_append.1 hx with hx|hx
  ·have:=hw.2 x hx;omega
  ·have:=hp.2 x hx;omega
 ·have:=hq.2 x hx;omega
theorem x8k{f:p6w}(h:SmF f):f.words.length≤3:=((w7p f).1 h).1
theorem x3P{f:p6w}(h:SmF f){k:Nat}(hk:k<f.subs.length):SmF (Am.get f.subs k):=w3q ((w7p f).1 h).2.2 _ (get_mem hk)
def Aft(env env' u1d:List (Bs×Bs)):Prop:=∀w,r5Q w→sub env' (sub env w)=sub u1d w
theorem x8l{env:List (Bs×Bs)}{w:Bs}:sub env w=w∨∃p∈env,sub env w=p.2:=by
 by_cases h:w∈env.map (·.1)
 ·obtain⟨p,hp,e⟩:=List.mem_map.1 (w3g h)
  exact .inr ⟨p,hp,e.symm⟩
 ·exact .inl (u7o fun p hp e=>h (List.mem_map.2 ⟨p,hp,e⟩))
theorem Aft.put{N M:Nat→Bs}(hN:∀i j,N i=N j→i=j)(hN2:∀i,¬r5Q (N i)){env env' u1d:List (Bs×Bs)}{i:Nat}(he:∀p∈env,∃j,j<i∧p.2=N j)(h:Aft env env' u1d)(n:Bs):Aft ((n,N i)::env) ((N i,M i)::env') ((n,M i)::u1d):=fun w hw=>by
 by_cases e:n=w
 ·have a:sub ((n,N i)::env) w=N i:=by rw[r7H,if_pos e]
  have b:sub ((n,M i)::u1d) w=M i:=by rw[r7H,if_pos e]
  rw[a,b,r7H,if_pos rfl]
 ·have a:sub ((n,N i)::env) w=sub env w:=by rw[r7H,if_neg e]
  have b:sub ((n,M i)::u1d) w=sub u1d w:=by rw[r7H,if_neg e]
  rw[a,b,r7H,if_neg fun e2=>?_]
  ·exact h w hw
  ·rcases x8l (env:=env) (w:=w)with e3|⟨p,hp,e3⟩
   ·rw[e3]at e2
    exact hN2 i (e2▸hw)
   ·obtain⟨j,hj,e4⟩:=he p hp
    rw[e3,e4]at e2
    have:=hN _ _ e2
    omega
mutual
theorem x5h(N M:Nat→Bs)(hN:∀i j,N i=N j→i=j)(hN2:∀i,¬r5Q (N i)):∀(f:p6w) (env env' u1d:List (Bs×Bs)) (i:Nat),WfF f→(∀p∈env,∃j,j<i∧p.2=N j)→Aft env env' u1d→ren M (ren N f env i) env' i=ren M f u1d i
 | .mk k n w s,env,env',u1d,i,hwf,he,ha=>by
   have hn:=((u1l _).1 hwf).1
   have hs:u6L s:=((u1l _).1 hwf).2
   have hw:=(u1b hn).2.2.2.2
   have e1:(w.map (sub env)).map (sub env')=w.map (sub u1d):=by
    rw[List.map_map]
    exact List.map_congr_left fun x hx=>ha x (hw x hx)
   rw[ren,ren,ren,e1]
   by_cases hq:QK k
   ·simp only[if_pos hq]
    rw[w3t N M hN hN2 s _ _ _ (i+1) hs (fun p hp=>by
     rcases List.mem_cons.1 hp with rfl|hp
     ·exact⟨i,by omega,rfl⟩
     ·obtain⟨j,h1,h2⟩:=he p hp
      exact⟨j,by omega,h2⟩) (Aft.put hN hN2 he ha n)]
   ·simp only[if_neg hq]
    rw[w3t N M hN hN2 s _ _ _ (i+0) hs he ha]
theorem w3t(N M:Nat→Bs)(hN:∀i j,N i=N j→i=j)(hN2:∀i,¬r5Q (N i)):∀(l:List p6w) (env env' u1d:List (Bs×Bs)) (i:Nat),u6L l→(∀p∈env,∃j,j<i∧p.2=N j)→Aft env env' u1d→r9f M (r9f N l env i) env' i=r9f M l u1d i
 | [],env,env',u1d,i,_,_,_=>by rw[r9f,r9f,r9f]
 |x::l,env,env',u1d,i,h,he,ha=>by
  rw[r9f,r9f,r9f,x5h N M hN hN2 x _ _ _ i (r7s.1 h x (List.mem_cons_self ..)) he ha,w7g,w3t N M hN hN2 l _ _ _ (i+nq x) (r7s.2 fun y hy=>r7s.1 h y (List.mem_cons_of_mem _ hy)) (fun p hp=>by
   obtain⟨j,h1,h2⟩:=he p hp
   exact⟨j,by omega,h2⟩) ha]
end
def qn(i:Nat):Bs:=63::Lib.decDigits (i+1)
theorem x3Q(i j:Nat)(h:qn i=qn j):i=j:=by have:=x0T (List.cons.inj h).2;omega
theorem x5i(i:Nat):¬r5Q (qn i):=fun h=>by
 have:=h.2.2.1.1
 simp[r6p,qn]at this
set_option maxRecDepth 1000000 in
theorem u8G(m:Nat):r6s (m+300)=some true:=by kernel_rfl
theorem u7W:Evt r6s (fun b=>b=true):=⟨true,rfl,300,fun n hn=>by
 obtain⟨m,rfl⟩:∃m,n=m+300:=⟨n-300,by omega⟩
 exact u8G m⟩
end Go.Proofs.YtfacbpehlibilaaGreatDoor
