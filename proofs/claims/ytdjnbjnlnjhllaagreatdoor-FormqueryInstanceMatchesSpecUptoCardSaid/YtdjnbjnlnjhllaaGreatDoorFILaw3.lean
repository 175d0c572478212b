import Derived.Test.YtdjnbjnlnjhllaaGreatDoorFILaw2
set_option linter.unusedVariables false
set_option linter.unusedSimpArgs false
namespace Go.Proofs.YtdjnbjnlnjhllaaGreatDoor
open Go Go.Am
theorem x9F{s:w3W}{i:Nat}(h:i<s.words.length):Am.get (vns s) i=Am.get s.words i:=by
 unfold vns Am.get
 rw[List.getD_eq_getElem?_getD,List.getD_eq_getElem?_getD,List.append_assoc,List.getElem?_append_left h]
theorem x9G{s:w3W}{i:Nat}(h:i<s.w4a.length):Am.get (vns s) (s.words.length+i)=Am.get s.w4a i:=by
 unfold vns Am.get
 rw[List.getD_eq_getElem?_getD,List.getD_eq_getElem?_getD,List.append_assoc,List.getElem?_append_right (by omega),List.getElem?_append_left (by omega)]
 congr 2;omega
theorem x9H{s:w3W}{i:Nat}(h:i<s.parts.length):Am.get (vns s) (s.words.length+s.w4a.length+i)=Am.get s.parts i:=by
 unfold vns Am.get
 rw[List.getD_eq_getElem?_getD,List.getD_eq_getElem?_getD,List.getElem?_append_right (by simp only[List.length_append];omega)]
 congr 2;simp only[List.length_append];omega
structure x0p(s:w3W):Prop where
 form:OkF s.form
 len:(vns s).length≤300
 name:∀x∈vns s,w4J x
 uniq:∀i j,i<j→j<(vns s).length→Am.get (vns s) i≠Am.get (vns s) j
 words:∀x∈s.words,fre s.form [] x
 w4a:∀x∈s.w4a,x5J (w4z s.form) x∨x6s (w4z s.form) x
 parts:∀x∈s.parts,¬x5J (w4z s.form) x∧x6s (w4z s.form) x
 z0A:QOk s
theorem OkS.good{s:w3W}(h:OkS s):x0p s:=by
 obtain⟨h1,h2,h3,h4⟩:=h
 have hvl:=x0o s
 have hn:∀j,j<(vns s).length→w4J (Am.get (vns s) j):=fun j hj=>Classical.byContradiction fun h=>by
  have:=h3 j hj
  unfold w7L at this
  rw[if_pos h]at this
  exact absurd this (by decide)
 have hu:∀j,j<(vns s).length→Am.get (vns s) j∉ (vns s).take j:=fun j hj h=>by
  have:=h3 j hj
  unfold w7L at this
  rw[if_neg (fun e=>e (hn j hj)),if_pos h]at this
  exact absurd this (by decide)
 refine⟨h1,h2,fun x hx=>?_,fun i j hij hj e=>hu j hj ((x2H (by omega)).2 ⟨i,hij,e⟩),fun x hx=>?_,fun x hx=>?_,fun x hx=>?_,h4⟩
 ·obtain⟨j,hj,rfl⟩:=w6G.1 hx
  exact hn j hj
 ·obtain⟨j,hj,rfl⟩:=w6G.1 hx
  have hjv:j<(vns s).length:=by omega
  have:=h3 j hjv
  unfold w7L at this
  rw[if_neg (fun e=>e (hn j hjv)),if_neg (hu j hjv),if_pos hj]at this
  rw[←x9F hj]
  exact Classical.byContradiction fun h=>by rw[if_neg h]at this;exact absurd this (by decide)
 ·obtain⟨i,hi,rfl⟩:=w6G.1 hx
  have hjv:s.words.length+i<(vns s).length:=by omega
  have:=h3 _ hjv
  unfold w7L at this
  rw[if_neg (fun e=>e (hn _ hjv)),if_neg (hu _ hjv),if_neg (by omega),if_pos (by omega)]at this
  rw[←x9G hi]
  exact Classical.byContradiction fun h=>by rw[if_neg h]at this;exact absurd this (by decide)
 ·obtain⟨i,hi,rfl⟩:=w6G.1 hx
  have hjv:s.words.length+s.w4a.length+i<(vns s).length:=by omega
  have:=h3 _ hjv
  unfold w7L at this
  rw[if_neg (fun e=>e (hn _ hjv)),if_neg (hu _ hjv),if_neg (by omega),if_neg (by omega)]at this
  rw[←x9H hi]
  by_cases hw:x5J (w4z s.form) (Am.get (vns s) (s.words.length+s.w4a.length+i))
  ·rw[if_pos hw]at this;exact absurd this (by decide)
  ·rw[if_neg hw]at this
   exact⟨hw,Classical.byContradiction fun h=>by rw[if_neg h]at this;exact absurd this (by decide)⟩
def x1c(s:w3W)(f:w3T):Prop:=(f.kind=2∧f.words.length=0)∧f.name∈s.parts
instance(s:w3W)(f:w3T):Decidable (x1c s f):=inferInstanceAs (Decidable (_∧_))
def mkw(W bd:List Bs)(w:Bs):Bs:=if w∈bd then 63::w else if w∈W then 46::w else w
def mkn(s:w3W)(f:w3T):Bs:=if QK f.kind then 63::f.name else if x1c s f then 43::f.name else if f.kind=2∧f.name∈s.w4a then 33::f.name else f.name
mutual
def x2j(s:w3W):w3T→List Bs→w3T
 | .mk k n w l,bd=>.mk k (mkn s (.mk k n w l)) (w.map (mkw s.words bd)) (x1n s l (if QK k then n::bd else bd))
def x1n(s:w3W):List w3T→List Bs→List w3T
 | [],_=>[]
 |f::l,bd=>x2j s f bd::x1n s l bd
end
theorem x5X(s:w3W)(f:w3T)(bd:List Bs):x2j s f bd= .mk f.kind (mkn s f) (f.words.map (mkw s.words bd)) (x1n s f.subs (if QK f.kind then f.name::bd else bd)):=by cases f;rw[x2j];rfl
theorem y0B(s:w3W):∀(l:List w3T) (bd:List Bs),(x1n s l bd).length=l.length
 | [],_=>by rw[x1n]
 |f::l,bd=>by rw[x1n,List.length_cons,List.length_cons,y0B s l]
theorem y7Z{W bd bd':List Bs}(h:∀y,y∈bd↔y∈bd')(w:Bs):mkw W bd w=mkw W bd' w:=by
 unfold mkw
 by_cases e:w∈bd
 ·rw[if_pos e,if_pos ((h w).1 e)]
 ·rw[if_neg e,if_neg fun e'=>e ((h w).2 e')]
mutual
theorem y3S(s:w3W):∀(f:w3T) (bd bd':List Bs),(∀y,y∈bd↔y∈bd')→x2j s f bd=x2j s f bd'
 | .mk k n w l,bd,bd',h=>by
   rw[x2j,x2j,x8n s l _ (if QK k then n::bd' else bd') (fun y=>?_),List.map_congr_left fun x _=>y7Z h x]
   split
   ·simp[h y]
   ·exact h y
theorem x8n(s:w3W):∀(l:List w3T) (bd bd':List Bs),(∀y,y∈bd↔y∈bd')→x1n s l bd=x1n s l bd'
 | [],bd,bd',h=>by rw[x1n,x1n]
 |f::l,bd,bd',h=>by rw[x1n,x1n,y3S s f bd bd' h,x8n s l bd bd' h]
end
theorem y8a(s:w3W)(f:w3T):w9X s f=some (decide (x1c s f)):=by
 unfold w9X x1c
 simp only[w9R]
 by_cases h1:f.kind=2<;>by_cases h2:f.words.length=0<;>simp[h1,h2,gd]
theorem y3T{f:w3T}(hwf:WfF f){x:Bs}(hx:x∈f.words):w4J x:=(x1r ((x1W f).1 hwf).1).2.2.2.2 x hx
def y0a(s:w3W):w3W:=⟨x2j s s.form [],s.words.map (46:: ·),s.w4a.map (33:: ·),s.parts.map (43:: ·)⟩
def zf:w3T:=.mk 0 [] [] []
abbrev Env:=List (Bs×w3V)
theorem x7T{V:Type}(k:Bs)(v:V):∀m:List (Bs×V),assoc k (w5l k v m)=some v
 | []=>by simp[w5l,assoc]
 |(a,u)::m=>by
  rw[w5l]
  split
  ·simp[assoc]
  ·rename_i h
   rw[assoc,if_neg h,x7T k v m]
theorem y1n{V:Type}{k k':Bs}(h:k'≠k)(v:V):∀m:List (Bs×V),assoc k' (w5l k v m)=assoc k' m
 | []=>by
   show(if k'=k then some v else assoc k' ([]:List (Bs×V)))=_
   rw[if_neg h]
 |(a,u)::m=>by
  rw[w5l]
  split
  ·rename_i e
   subst e
   rw[assoc,assoc,if_neg h,if_neg h]
  ·rw[assoc,assoc,y1n h v m]
open Classical in
noncomputable def y1D(env:Env)(b:w3V):Option Env:=match assoc b.name env with
 |none=>some (w5l b.name b env)
 |some b'=>if b'=b then some env else none
noncomputable def x3R:Env→List w3V→Option Env
 |env,[]=>some env
 |env,b::l=>(y1D env b).bind fun e=>x3R e l
theorem y5c:∀(a b:List w3V) (env:Env),x3R env (a++b)=(x3R env a).bind fun e=>x3R e b
 | [],b,env=>rfl
 |x::a,b,env=>by
  rw[List.cons_append,x3R,x3R]
  cases y1D env x with
  |none=>rfl
  |some e=>exact y5c a b e
theorem x5Y{env e:Env}{b:w3V}(h:y1D env b=some e):assoc b.name e=some b∧(∀k c,assoc k env=some c→assoc k e=some c)∧(∀k c,assoc k e=some c→assoc k env=some c∨(b.name=k∧b=c)):=by
 unfold y1D at h
 split at h
 ·rename_i h0
  cases h
  refine⟨x7T _ _ _,fun k c hc=>?_,fun k c hc=>?_⟩
  ·by_cases e:k=b.name
   ·rw[e,h0]at hc;cases hc
   ·rw[y1n e];exact hc
  ·by_cases e:k=b.name
   ·rw[e,x7T]at hc
    exact .inr ⟨e.symm,Option.some.inj hc⟩
   ·rw[y1n e]at hc;exact .inl hc
 ·rename_i b' h0
  split at h
  ·rename_i hb
   cases h
   exact⟨by rw[h0,hb],fun k c hc=>hc,fun k c hc=>.inl hc⟩
  ·cases h
theorem x8I:∀(ps:List w3V) (env e:Env),x3R env ps=some e→(∀b∈ps,assoc b.name e=some b)∧(∀k c,assoc k env=some c→assoc k e=some c)∧(∀k c,assoc k e=some c→assoc k env=some c∨(∃b∈ps,b.name=k∧b=c))
 | [],env,e,h=>by cases h;exact⟨fun b hb=>(by cases hb),fun k c hc=>hc,fun k c hc=>.inl hc⟩
 |b::l,env,e,h=>by
  rw[x3R]at h
  cases hp:y1D env b with
  |none=>rw[hp]at h;cases h
  |some e1=>
   rw[hp]at h
   obtain⟨p1,p2,p3⟩:=x5Y hp
   obtain⟨r1,r2,r3⟩:=x8I l e1 e h
   refine⟨fun c hc=>?_,fun k c hc=>r2 k c (p2 k c hc),fun k c hc=>?_⟩
   ·rcases List.mem_cons.1 hc with rfl|hc
    ·exact r2 _ _ p1
    ·exact r1 c hc
   ·rcases r3 k c hc with h|⟨x,hx,h1,h2⟩
    ·rcases p3 k c h with h|⟨h1,h2⟩
     ·exact .inl h
     ·exact .inr ⟨b,List.mem_cons_self ..,h1,h2⟩
    ·exact .inr ⟨x,List.mem_cons_of_mem _ hx,h1,h2⟩
def IsKey(k:Bs):Prop:=∃c t,k=c::t∧(c=33∨c=43∨c=46∨c=63)
theorem y5d{x:Bs}(h:w4J x):¬IsKey x:=fun⟨c,t,e,hc⟩=>by
 have:=h.2.2.1.1
 subst e
 rcases hc with rfl|rfl|rfl|rfl<;>simp[w5e]at this
def x7U(b:w3V):Prop:=SmF b.form∧((∃x,b.name=43::x∧b.text=[])∨(∃c x,b.name=c::x∧(c=33∨c=46∨c=63)∧b.form=zf))
def x6c(env:Env):Prop:=∀k b,assoc k env=some b→b.name=k∧x7U b
theorem y3U{env e:Env}{b:w3V}(h:x6c env)(hb:x7U b)(hp:y1D env b=some e):x6c e:=fun k c hc=>by
 rcases(x5Y hp).2.2 k c hc with h1|⟨rfl,rfl⟩
 ·exact h k c h1
 ·exact⟨rfl,hb⟩
theorem y8b{env e:Env}{ps:List w3V}(h:x6c env)(hb:∀b∈ps,x7U b)(hp:x3R env ps=some e):x6c e:=fun k c hc=>by
 rcases(x8I _ _ _ hp).2.2 k c hc with h1|⟨b,hm,h1,h2⟩
 ·exact h k c h1
 ·subst h2;exact⟨h1,hb _ hm⟩
theorem x7U.key{b:w3V}(h:x7U b):IsKey b.name:=by
 rcases h.2 with⟨x,e,_⟩|⟨c,x,e,hc,_⟩
 ·exact⟨43,x,e,by simp⟩
 ·exact⟨c,x,e,by rcases hc with h|h|h<;>simp[h]⟩
theorem z4e:SmF zf:=by unfold zf;rw[SmF];exact⟨by decide,by decide,by rw[y0A];trivial⟩
theorem y5N{c:UInt8}{x y:Bs}(h:c=33∨c=46∨c=63):x7U ⟨c::x,y,zf⟩:=⟨z4e,.inr ⟨c,x,rfl,h,rfl⟩⟩
def cat(a b:Option (List w3V)):Option (List w3V):=a.bind fun x=>b.bind fun y=>some (x++y)
theorem y3V(a b:Option (List w3V))(s:Env):(cat a b).bind (x3R s)=(a.bind (x3R s)).bind fun s'=>b.bind (x3R s'):=by
 cases a with
 |none=>rfl
 |some x=>
  cases b with
  |none=>
   show none=(x3R s x).bind fun s'=>none
   cases x3R s x<;>rfl
  |some y=>exact y5c x y s
theorem y9D(o:Option (List w3V))(b:w3V)(s:Env):(o.map (b:: ·)).bind (x3R s)=(y1D s b).bind fun s'=>o.bind (x3R s'):=by
 cases o with
 |none=>show none=_;cases y1D s b<;>rfl
 |some x=>rfl
def ptw(W bd:List Bs):List Bs→List Bs→Option (List w3V)
 |x::xs,y::ys=>if x∈bd then(ptw W bd xs ys).map (⟨63::x,y,zf⟩:: ·)else if x∈W then(ptw W bd xs ys).map (⟨46::x,y,zf⟩:: ·)else if x=y then ptw W bd xs ys else none
 | _,_=>some []
def pth(s:w3W)(f g:w3T):Option (List w3V):=
 if QK f.kind then some [⟨63::f.name,g.name,zf⟩]else if f.kind=2∧f.name∈s.w4a then some [⟨33::f.name,g.name,zf⟩]else if f.name=g.name then some []else none
mutual
def pts(s:w3W):w3T→List Bs→w3T→Option (List w3V)
 | .mk k n w l,bd,g=>if x1c s (.mk k n w l)then some [⟨43::n,[],g⟩]
   else if k≠g.kind∨w.length≠g.words.length then none
   else cat (pth s (.mk k n w l) g) (cat (ptw s.words bd w g.words) (y2F s l (if QK k then n::bd else bd) g.subs))
def y2F(s:w3W):List w3T→List Bs→List w3T→Option (List w3V)
 | [],_,_=>some []
 |f::l,bd,gs=>match gs with
  | []=>some []
  |g::gs=>cat (pts s f bd g) (y2F s l bd gs)
end
theorem z4f(s:w3W)(f:w3T)(bd:List Bs)(g:w3T):pts s f bd g=if x1c s f then some [⟨43::f.name,[],g⟩]else if f.kind≠g.kind∨f.words.length≠g.words.length then none else cat (pth s f g) (cat (ptw s.words bd f.words g.words) (y2F s f.subs (if QK f.kind then f.name::bd else bd) g.subs)):=by cases f;rw[pts];rfl
theorem y8c{a b:Option (List w3V)}{Q:w3V→Prop}(ha:∀x,a=some x→∀c∈x,Q c)(hb:∀x,b=some x→∀c∈x,Q c):∀x,cat a b=some x→∀c∈x,Q c:=fun x hx c hc=>by
 unfold cat at hx
 cases a with
 |none=>cases hx
 |some y=>
  cases b with
  |none=>cases hx
  |some z=>
   cases hx
   rcases List.mem_append.1 hc with h|h
   ·exact ha y rfl c h
   ·exact hb z rfl c h
theorem z0B(W bd:List Bs):∀(xs ys:List Bs) (ps:List w3V),ptw W bd xs ys=some ps→∀b∈ps,x7U b
 | [],ys,ps,h,b,hb=>by rw[ptw]at h;cases h;cases hb;simp
 |x::xs,[],ps,h,b,hb=>by rw[ptw]at h;cases h;cases hb;simp
 |x::xs,y::ys,ps,h,b,hb=>by
  rw[ptw]at h
  have ih:=z0B W bd xs ys
  have mp:∀c:w3V,x7U c→(ptw W bd xs ys).map (c:: ·)=some ps→x7U b:=fun c hc h=>by
   cases hp:ptw W bd xs ys with
   |none=>rw[hp]at h;cases h
   |some q=>
    rw[hp]at h;cases h
    rcases List.mem_cons.1 hb with rfl|hb
    ·exact hc
    ·exact ih q hp b hb
  split at h
  ·exact mp _ (y5N (.inr (.inr rfl))) h
  ·split at h
   ·exact mp _ (y5N (.inr (.inl rfl))) h
   ·split at h
    ·exact ih ps h b hb
    ·cases h
theorem z4g(s:w3W)(f g:w3T)(ps:List w3V)(h:pth s f g=some ps):∀b∈ps,x7U b:=fun b hb=>by
 unfold pth at h
 split at h
 ·cases h
  rw[List.mem_singleton]at hb;subst hb
  exact y5N (.inr (.inr rfl))
 ·split at h
  ·cases h
   rw[List.mem_singleton]at hb;subst hb
   exact y5N (.inl rfl)
  ·split at h
   ·cases h;cases hb
   ·cases h
mutual
theorem y8d(s:w3W):∀(f:w3T) (bd:List Bs) (g:w3T),SmF g→∀ps,pts s f bd g=some ps→∀b∈ps,x7U b
 | .mk k n w l,bd,g,hg,ps,h,b,hb=>by
   rw[pts]at h
   split at h
   ·cases h
    rw[List.mem_singleton]at hb;subst hb
    exact⟨hg,.inl ⟨n,rfl,rfl⟩⟩
   ·split at h
    ·cases h
    ·exact y8c (fun x hx=>z4g s _ g x hx) (y8c (fun x hx=>z0B _ _ _ _ x hx) (fun x hx=>y8e s l _ g.subs ((y2B g).1 hg).2.2 x hx)) ps h b hb
theorem y8e(s:w3W):∀(l:List w3T) (bd:List Bs) (gs:List w3T),y0A gs→∀ps,y2F s l bd gs=some ps→∀b∈ps,x7U b
 | [],bd,gs,hg,ps,h,b,hb=>by rw[y2F]at h;cases h;cases hb
 |f::l,bd,[],hg,ps,h,b,hb=>by rw[y2F]at h;cases h;cases hb
 |f::l,bd,g::gs,hg,ps,h,b,hb=>by
  rw[y2F]at h
  rw[y0A]at hg
  exact y8c (fun x hx=>y8d s f bd g hg.1 x hx) (fun x hx=>y8e s l bd gs hg.2 x hx) ps h b hb
end
theorem y9E(a b:List Bs):w5E a b=some (decide (a=b)):=by
 have h:Evt (fun _=>w5E a b) (fun r=>r=decide (a=b)):=by
  unfold w5E
  refine Evt.cond (fun e=>Evt.pure ?_) (fun e=>?_)
  ·replace e:=bx e
   exact(decide_eq_false fun h=>e (by rw[h])).symm
  replace e:=bx e
  have hl:a.length=b.length:=by omega
  refine Evt.w4h (Evt.scan (fun k _=>a.take k=b.take k) (fun k r=>r=false∧Am.get a k≠Am.get b k) (by simp) (fun k u hk hi=>?_)) (fun t ht=>?_) (fun r hr=>?_)
  ·unfold w6K
   refine Evt.chk (by omega) (Evt.cond (fun e=>Evt.pure ?_) (fun e=>Evt.pure ?_))
   ·replace e:=bx e
    exact⟨rfl,e⟩
   ·replace e:=bx e
    show a.take (k+1)=b.take (k+1)
    rw[w4C hk,w4C (l:=b) (by omega),hi,e]
  ·unfold w6L
   refine Evt.pure (decide_eq_true ?_).symm
   have ht:a.take a.length=b.take a.length:=ht
   rw[List.take_length,hl,List.take_length]at ht
   exact ht
  ·obtain⟨k,_,_,_,rfl,h⟩:=hr
   exact(decide_eq_false fun e=>h (by rw[e])).symm
 obtain⟨r,rfl,N,hN⟩:=h
 exact hN N (Nat.le_refl _)
open Classical in
theorem z1J:∀(m:Nat) (f:w3T),SizeOf.sizeOf f≤m→SmF f→∀g:w3T,Evt (fun n=>x1z n f g) (fun r=>r=decide (f=g)):=by
 intro m
 induction m with
 |zero=>intro f h;cases f;simp only[w3T.mk.sizeOf_spec]at h;omega
 |succ m ih=>
  intro f hf hsm g
  obtain⟨_,hsl,hsm⟩:=(y2B f).1 hsm
  refine Evt.succ ?_
  simp only[x1z,y9E]
  refine Evt.bind (P:=fun v=>f.kind=g.kind→f.name=g.name→v=decide (f.words=g.words)) (Evt.gd (fun _=>Evt.pure fun _ _=>by congr) (fun h h1 h2=>by simp[h1,h2]at h)) fun v hv=>?_
  refine Evt.cond (fun e=>Evt.pure (decide_eq_false fun h=>?_).symm) (fun e=>?_)
  ·subst h
   have:=hv rfl rfl
   simp[this]at e
  have e1:f.kind=g.kind:=Classical.byContradiction fun h=>by simp[h]at e
  have e2:f.name=g.name:=Classical.byContradiction fun h=>by simp[h]at e
  have e3:f.words=g.words:=Classical.byContradiction fun h=>by have:=hv e1 e2;rw[decide_eq_false h]at this;simp[this]at e
  have e4:f.subs.length=g.subs.length:=Classical.byContradiction fun h=>by
   have:¬((f.subs.length:Int)=(g.subs.length:Int)):=by omega
   rw[decide_eq_false this]at e
   revert e
   cases (bif bif !decide (f.kind=g.kind)then true else !decide (f.name=g.name)then true else !v)<;>simp
  refine Evt.chk (by omega) (Evt.w4h (Evt.scan (fun k _=>f.subs.take k=g.subs.take k) (fun k r=>r=false∧Am.get f.subs k≠Am.get g.subs k) (by simp) (fun k u hk hi=>?_)) (fun t ht=>?_) (fun r hr=>?_))
  ·unfold x2u
   have hsz:=w6s hk
   refine Evt.chk (by omega) (Evt.bind (ih _ (by omega) (x7n hsm _ (get_mem hk)) _) fun v2 hv2=>Evt.cond (fun e=>Evt.pure ?_) (fun e=>Evt.pure ?_))
   ·subst hv2
    exact⟨rfl,fun h=>by rw[decide_eq_true h]at e;cases e⟩
   ·subst hv2
    have h:Am.get f.subs k=Am.get g.subs k:=Classical.byContradiction fun h=>by rw[decide_eq_false h]at e;cases e
    show f.subs.take (k+1)=g.subs.take (k+1)
    rw[w4C hk,w4C (l:=g.subs) (by omega),hi,h]
  ·unfold x2v
   refine Evt.pure (decide_eq_true ?_).symm
   have ht:f.subs.take f.subs.length=g.subs.take f.subs.length:=ht
   rw[List.take_length,e4,List.take_length]at ht
   cases f;cases g
   simp only[w3T.kind,w3T.name,w3T.words,w3T.subs]at*
   rw[e1,e2,e3,ht]
  ·obtain⟨k,_,_,_,rfl,h⟩:=hr
   exact(decide_eq_false fun e=>h (by rw[e])).symm
def RM(o:Option Env)(r:Bool×Env):Prop:=(∀e,o=some e→r=(true,e))∧(o=none→r.1=false)
theorem y2G{env:Env}(he:x6c env){c:UInt8}(hc:c=33∨c=46∨c=63)(x y:Bs):Evt (fun _=>w8E (c::x) y env) (RM (y1D env ⟨c::x,y,zf⟩)):=by
 unfold w8E y1D
 cases h:assoc (c::x) env with
 |none=>
  refine Evt.cond (fun e=>by simp at e) (fun _=>Evt.w6m (Evt.pure ?_))
  simp only[h]
  exact⟨fun e he=>by cases he;rfl,fun he=>by cases he⟩
 |some b=>
  refine Evt.cond (fun _=>Evt.pure ?_) (fun e=>by simp at e)
  simp only[h]
  obtain⟨h1,h2⟩:=he _ _ h
  have hiff:b=⟨c::x,y,zf⟩↔b.text=y:=by
   constructor
   ·intro e;rw[e]
   ·intro e
    obtain⟨_,h2⟩:=h2
    rcases h2 with⟨z,e1,_⟩|⟨c',z,e1,hc',e2⟩
    ·rw[h1]at e1
     have:=(List.cons.inj e1).1
     rcases hc with rfl|rfl|rfl<;>cases this
    ·cases b
     simp only at h1 e2 e
     rw[h1,e,e2]
  by_cases hb:b.text=y
  ·rw[if_pos (hiff.2 hb)]
   refine⟨fun e he=>?_,fun he=>by cases he⟩
   cases he
   show(decide (((some b).getD default).text=y),env)=_
   rw[decide_eq_true (show((some b).getD default).text=y from hb)]
  ·rw[if_neg fun e=>hb (hiff.1 e)]
   exact⟨fun e he=>(by cases he),fun _=>decide_eq_false hb⟩
def Has(bd:List Bs)(env:Env):Prop:=∀x∈bd,(assoc (63::x) env).isSome=true
theorem Has.mono{bd:List Bs}{env e:Env}(h:Has bd env)(hm:∀k c,assoc k env=some c→assoc k e=some c):Has bd e:=fun x hx=>by
 obtain⟨c,hc⟩:=Option.isSome_iff_exists.1 (h x hx)
 rw[hm _ _ hc];rfl
theorem y1o{c:UInt8}{x:Bs}{l:List Bs}:(c::x)∈l.map (c:: ·)↔x∈l:=by
 rw[List.mem_map]
 exact⟨fun⟨y,hy,e⟩=>(List.cons.inj e).2▸hy,fun h=>⟨x,h,rfl⟩⟩
theorem y8f{c:UInt8}(hc:c=33∨c=43∨c=46∨c=63){k:Bs}{l:List Bs}(h:k∈l.map (c:: ·)):IsKey k:=by
 obtain⟨y,_,rfl⟩:=List.mem_map.1 h
 exact⟨c,y,rfl,hc⟩
theorem y9F{env:Env}(he:x6c env){x:Bs}(hx:¬IsKey x):assoc x env=none:=by
 cases h:assoc x env with
 |none=>rfl
 |some b=>
  obtain⟨h1,h2⟩:=he _ _ h
  exact absurd (h1▸h2.key) hx
section
variable {s:w3W}
theorem y5e{xs:List Bs}{k:Nat}(h:k<xs.length):xs.drop k=Am.get xs k::xs.drop (k+1):=y3R h
theorem z1K(W bd ys:List Bs):ptw W bd [] ys=some []:=by cases ys<;>simp[ptw]
theorem y9G(env:Env)(b:w3V):x3R env [b]=y1D env b:=by
 rw[x3R]
 cases y1D env b<;>rfl
theorem y9H{f g:w3T}(hf:WfF f)(hlen:f.words.length=g.words.length)(bd:List Bs){env:Env}(he:x6c env)(hh:Has bd env):
 Evt (fun _=>w4T (w8F (x2j s f bd) (y0a s) g) (x2j s f bd).words.length env) (ExP (fun t=>(ptw s.words bd f.words g.words).bind (x3R env)=some t∧x6c t∧Has bd t) (fun r=>(ptw s.words bd f.words g.words).bind (x3R env)=none∧r.1=false)):=by
 have hml:(x2j s f bd).words.length=f.words.length:=by rw[x5X];exact List.length_map _
 rw[hml]
 refine(Evt.range (fun k t=>(ptw s.words bd f.words g.words).bind (x3R env)=(ptw s.words bd (f.words.drop k) (g.words.drop k)).bind (x3R t)∧x6c t∧Has bd t) (fun _=>False) (fun r=>(ptw s.words bd f.words g.words).bind (x3R env)=none∧r.1=false) ⟨rfl,he,hh⟩ (fun k t hk ht=>?_)).mono fun e h=>?_
 ·obtain⟨ht,hte,hth⟩:=ht
  have hkg:k<g.words.length:=by omega
  have hkm:Am.get (x2j s f bd).words k=mkw s.words bd (Am.get f.words k):=by rw[x5X];exact get_map _ hk
  rw[y5e hk,y5e hkg,ptw]at ht
  unfold w8F
  simp only[hkm,w9R]
  have nx:¬IsKey (Am.get f.words k):=y5d (y3T hf (get_mem hk))
  have fin:∀(c:UInt8),c=46∨c=63→(ptw s.words bd f.words g.words).bind (x3R env)=((ptw s.words bd (f.words.drop (k+1)) (g.words.drop (k+1))).map (⟨c::Am.get f.words k,Am.get g.words k,zf⟩:: ·)).bind (x3R t)→
   Evt (fun _:Nat=>chk ((k:Int)<(g.words.length:Int)) <| (w8E (c::Am.get f.words k) (Am.get g.words k) t).bind fun v14=>bif (!v14.1)then some (Ctl.ret (τ:=Env) (false,v14.2))else some (.nxt v14.2)) (y3C (fun t=>(ptw s.words bd f.words g.words).bind (x3R env)=(ptw s.words bd (f.words.drop (k+1)) (g.words.drop (k+1))).bind (x3R t)∧x6c t∧Has bd t) (fun _=>False) (fun r=>(ptw s.words bd f.words g.words).bind (x3R env)=none∧r.1=false)):=by
   intro c hc ht
   rw[y9D]at ht
   refine Evt.chk (by omega) (Evt.bind (y2G hte (hc.elim (fun h=>.inr (.inl h)) fun h=>.inr (.inr h)) _ _) fun v hv=>?_)
   cases hp:y1D t ⟨c::Am.get f.words k,Am.get g.words k,zf⟩with
   |none=>
    rw[hp]at ht hv
    have h1:=hv.2 rfl
    refine Evt.cond (fun _=>Evt.pure ⟨ht,rfl⟩) (fun e=>by rw[h1]at e;cases e)
   |some t'=>
    rw[hp]at ht hv
    have h1:=hv.1 _ rfl
    subst h1
    refine Evt.cond (fun e=>by cases e) (fun _=>Evt.pure ⟨ht,y3U hte (y5N (hc.elim (fun h=>.inr (.inl h)) fun h=>.inr (.inr h))) hp,hth.mono (x5Y hp).2.1⟩)
  by_cases h1:Am.get f.words k∈bd
  ·rw[if_pos h1]at ht
   have e1:mkw s.words bd (Am.get f.words k)=63::Am.get f.words k:=by unfold mkw;rw[if_pos h1]
   rw[e1]
   have h2:=hth _ h1
   simp only[h2]
   exact fin 63 (.inr rfl) ht
  ·rw[if_neg h1]at ht
   by_cases h2:Am.get f.words k∈s.words
   ·rw[if_pos h2]at ht
    have e1:mkw s.words bd (Am.get f.words k)=46::Am.get f.words k:=by unfold mkw;rw[if_neg h1,if_pos h2]
    rw[e1]
    have h3:decide (46::Am.get f.words k∈(y0a s).words)=true:=decide_eq_true (y1o.2 h2)
    simp only[h3]
    cases h4:(assoc (46::Am.get f.words k) t).isSome
    ·exact fin 46 (.inl rfl) ht
    ·exact fin 46 (.inl rfl) ht
   ·rw[if_neg h2]at ht
    have e1:mkw s.words bd (Am.get f.words k)=Am.get f.words k:=by unfold mkw;rw[if_neg h1,if_neg h2]
    rw[e1]
    have h3:(assoc (Am.get f.words k) t).isSome=false:=by rw[y9F hte nx];rfl
    have h4:decide (Am.get f.words k∈(y0a s).words)=false:=decide_eq_false fun h=>nx (y8f (.inr (.inr (.inl rfl))) h)
    simp only[h3,h4]
    refine Evt.chk (by omega) (Evt.cond (fun e=>Evt.pure ?_) (fun e=>Evt.pure ?_))
    ·replace e:=bx e
     rw[if_neg e]at ht
     exact⟨ht,rfl⟩
    ·replace e:=bx e
     rw[if_pos e]at ht
     exact⟨ht,hte,hth⟩
 ·cases e with
  |ret r=>exact h
  |nxt t=>
   obtain⟨h1,h2,h3⟩:=h.elim id False.elim
   rw[List.drop_length,z1K]at h1
   exact⟨h1,h2,h3⟩
open Classical in
theorem z4h:∀(m:Nat) (f:w3T),SizeOf.sizeOf f≤m→WfF f→∀(g:w3T),WfF g→∀(bd:List Bs) (env:Env),x6c env→Has bd env→
 Evt (fun n=>w4N n (y0a s) (x2j s f bd) g env) (RM ((pts s f bd g).bind (x3R env))):=by
 intro m
 induction m with
 |zero=>intro f h;cases f;simp only[w3T.mk.sizeOf_spec]at h;omega
 |succ m ih=>
  intro f hf hwf g hwg bd env he hh
  have hnf:=x1r ((x1W f).1 hwf).1
  have hng:=x1r ((x1W g).1 hwg).1
  have hml:(x2j s f bd).words.length=f.words.length:=by rw[x5X];exact List.length_map _
  have hmk:(x2j s f bd).kind=f.kind:=by rw[x5X];rfl
  have hmn:(x2j s f bd).name=mkn s f:=by rw[x5X];rfl
  have hms:(x2j s f bd).subs=x1n s f.subs (if QK f.kind then f.name::bd else bd):=by rw[x5X];rfl
  have hk2:f.kind=2→¬QK f.kind:=fun h=>by unfold QK;omega
  have hplain:f.kind=2→¬IsKey f.name:=fun h=>y5d (hnf.2.2.1 (.inl h))
  have hpart:x1c (y0a s) (x2j s f bd)↔x1c s f:=by
   unfold x1c
   rw[hmk,hml,hmn]
   constructor
   ·rintro⟨h1,h2⟩
    refine⟨h1,?_⟩
    unfold mkn at h2
    rw[if_neg (hk2 h1.1)]at h2
    split at h2
    ·rename_i h3;exact h3.2
    ·exfalso
     obtain⟨y,_,e⟩:=List.mem_map.1 h2
     split at e
     ·cases (List.cons.inj e).1
     ·exact hplain h1.1 (e▸ ⟨43,y,rfl,by simp⟩)
   ·rintro⟨h1,h2⟩
    refine⟨h1,?_⟩
    unfold mkn
    rw[if_neg (hk2 h1.1),if_pos (show x1c s f from⟨h1,h2⟩)]
    exact y1o.2 h2
  refine Evt.succ ?_
  simp only[w4N,y8a,Option.bind_some,x5U,w9R,hmk,hml,hmn]
  rw[z4f]
  refine Evt.cond (fun e=>?_) (fun e=>?_)
  ·have hp:x1c s f:=hpart.1 (of_decide_eq_true e)
   rw[if_pos hp]
   have z8j:mkn s f=43::f.name:=by unfold mkn;rw[if_neg (hk2 hp.1.1),if_pos hp]
   rw[z8j]
   show Evt _ (RM (x3R env [_]))
   rw[y9G]
   unfold y1D
   cases h:assoc (43::f.name) env with
   |none=>
    refine Evt.cond (fun e=>by simp at e) (fun _=>Evt.w6m (Evt.pure ?_))
    exact⟨fun e he=>by cases he;rfl,fun he=>by cases he⟩
   |some b=>
    refine Evt.cond (fun _=>?_) (fun e=>by simp at e)
    obtain⟨h1,h2⟩:=he _ _ h
    have hsm:=h2.1
    have htx:b.text=[]:=by
     rcases h2.2 with⟨z,e1,e2⟩|⟨c',z,e1,hc',e2⟩
     ·exact e2
     ·rw[h1]at e1
      have:=(List.cons.inj e1).1
      rcases hc' with rfl|rfl|rfl<;>cases this
    have hiff:b=⟨43::f.name,[],g⟩↔b.form=g:=by
     constructor
     ·intro e;rw[e]
     ·intro e
      cases b
      simp only at h1 htx e
      rw[h1,htx,e]
    refine Evt.bind (z1J _ b.form (Nat.le_refl _) hsm g) fun v hv=>Evt.pure ?_
    subst hv
    by_cases hb:b.form=g
    ·simp only[if_pos (hiff.2 hb),decide_eq_true hb]
     exact⟨fun e he=>by cases he;rfl,fun he=>by cases he⟩
    ·simp only[if_neg fun e=>hb (hiff.1 e),decide_eq_false hb]
     exact⟨fun e he=>(by cases he),fun _=>rfl⟩
  have hp:¬x1c s f:=fun h=>(of_decide_eq_false e) (hpart.2 h)
  rw[if_neg hp]
  refine Evt.cond (fun e=>Evt.pure ?_) (fun e=>?_)
  ·have hc:f.kind≠g.kind∨f.words.length≠g.words.length:=Classical.byContradiction fun h=>by
    obtain⟨h1,h2⟩:=not_or.1 h
    have h1:=Classical.not_not.1 h1
    have h2:=Classical.not_not.1 h2
    simp[h1,h2]at e
   rw[if_pos hc]
   exact⟨fun e he=>(by cases he),fun _=>rfl⟩
  have hk:f.kind=g.kind:=Classical.byContradiction fun h=>by simp[h]at e
  have hl:f.words.length=g.words.length:=Classical.byContradiction fun h=>by
   have:¬((f.words.length:Int)=(g.words.length:Int)):=by omega
   simp[this]at e
  rw[if_neg fun h=>h.elim (fun h=>h hk) (fun h=>h hl),y3V]
  have hsl:f.subs.length=g.subs.length:=by have:=hnf.1;have:=hng.1;rw[hk]at *; omega
  have rest:∀z2A:Env,x6c z2A→Has bd z2A→Has (if QK f.kind then f.name::bd else bd) z2A→Evt (fun n=>w6W (w4N n) (x2j s f bd) (y0a s) g z2A) (RM ((cat (ptw s.words bd f.words g.words) (y2F s f.subs (if QK f.kind then f.name::bd else bd) g.subs)).bind (x3R z2A))):=by
   intro z2A he1 hh1 z8k
   rw[y3V]
   unfold w6W
   refine Evt.w4h (y9H hwf hl bd he1 hh1) (fun t ht=>?_) (fun r hr=>?_)
   ·obtain⟨ht,hte,hth⟩:=ht
    have hmono:Has (if QK f.kind then f.name::bd else bd) t:=by
     cases hw:ptw s.words bd f.words g.words with
     |none=>rw[hw]at ht;cases ht
     |some ps=>rw[hw]at ht;exact z8k.mono (x8I _ _ _ ht).2.1
    rw[ht]
    unfold w9Y
    rw[hms,y0B]
    refine Evt.w4h (P:=ExP (fun t'=>(y2F s f.subs (if QK f.kind then f.name::bd else bd) g.subs).bind (x3R t)=some t') (fun r=>(y2F s f.subs (if QK f.kind then f.name::bd else bd) g.subs).bind (x3R t)=none∧r.1=false)) ((Evt.range (fun k t'=>(y2F s f.subs (if QK f.kind then f.name::bd else bd) g.subs).bind (x3R t)=(y2F s (f.subs.drop k) (if QK f.kind then f.name::bd else bd) (g.subs.drop k)).bind (x3R t')∧x6c t'∧Has (if QK f.kind then f.name::bd else bd) t') (fun _=>False) (fun r=>(y2F s f.subs (if QK f.kind then f.name::bd else bd) g.subs).bind (x3R t)=none∧r.1=false) ⟨rfl,hte,hmono⟩ (fun k t' hk ht'=>?_)).mono fun e h=>?_) (fun t' ht'=>?_) (fun r hr=>?_)
    ·obtain⟨ht',z6X,z6Y⟩:=ht'
     have hkg:k<g.subs.length:=by omega
     have hkm:Am.get (x2j s f bd).subs k=x2j s (Am.get f.subs k) (if QK f.kind then f.name::bd else bd):=by
      rw[hms]
      have:∀(l:List w3T) (bd:List Bs) (k:Nat),k<l.length→Am.get (x1n s l bd) k=x2j s (Am.get l k) bd:=by
       intro l
       induction l with
       |nil=>intro bd k h;cases h
       |cons a l ih=>
        intro bd k h
        rw[x1n]
        cases k with
        |zero=>rfl
        |succ k=>exact ih bd k (by simpa using h)
      exact this _ _ _ hk
     have e1:f.subs.drop k=Am.get f.subs k::f.subs.drop (k+1):=by rw[List.drop_eq_getElem_cons hk];simp[Am.get,hk]
     have e2:g.subs.drop k=Am.get g.subs k::g.subs.drop (k+1):=by rw[List.drop_eq_getElem_cons hkg];simp[Am.get,hkg]
     rw[e1,e2,y2F,y3V]at ht'
     unfold w9Z
     simp only[hkm]
     have hsz:=w6s hk
     refine Evt.chk (by omega) (Evt.bind (ih _ (by omega) (x5j hwf hk) _ (x5j hwg hkg) _ t' z6X z6Y) fun v hv=>?_)
     cases hp:(pts s (Am.get f.subs k) (if QK f.kind then f.name::bd else bd) (Am.get g.subs k)).bind (x3R t')with
     |none=>
      rw[hp]at ht' hv
      have h1:=hv.2 rfl
      exact Evt.cond (fun _=>Evt.pure ⟨ht',rfl⟩) (fun e=>by rw[h1]at e;cases e)
     |some t''=>
      rw[hp]at ht' hv
      have h1:=hv.1 _ rfl
      subst h1
      refine Evt.cond (fun e=>by cases e) (fun _=>Evt.pure ⟨ht',?_,?_⟩)
      ·cases hq:pts s (Am.get f.subs k) (if QK f.kind then f.name::bd else bd) (Am.get g.subs k)with
       |none=>rw[hq]at hp;cases hp
       |some ps=>rw[hq]at hp;exact y8b z6X (y8d s _ _ _ (WfF.sm _ (x5j hwg hkg)) ps hq) hp
      ·cases hq:pts s (Am.get f.subs k) (if QK f.kind then f.name::bd else bd) (Am.get g.subs k)with
       |none=>rw[hq]at hp;cases hp
       |some ps=>rw[hq]at hp;exact z6Y.mono (x8I _ _ _ hp).2.1
    ·cases e with
     |ret r=>exact h
     |nxt t'=>
      obtain⟨h1,h2,h3⟩:=h.elim id False.elim
      rw[List.drop_length,y2F]at h1
      exact h1
    ·unfold x0a
     have ht':(y2F s f.subs (if QK f.kind then f.name::bd else bd) g.subs).bind (x3R t)=some t':=ht'
     refine Evt.pure ?_
     show RM ((some t).bind _) _
     rw[Option.bind_some,ht']
     exact⟨fun e he=>by cases he;rfl,fun he=>by cases he⟩
    ·show RM ((some t).bind _) _
     rw[Option.bind_some,hr.1]
     exact⟨fun e he=>(by cases he),fun _=>hr.2⟩
   ·rw[hr.1]
    exact⟨fun e he=>(by cases he),fun _=>hr.2⟩
  have z6Z:∀c:UInt8,c=33∨c=63→mkn s f=c::f.name→pth s f g=some [⟨c::f.name,g.name,zf⟩]→(QK f.kind→c=63)→Evt (fun n=>w6b (w4N n) (x2j s f bd) g env (y0a s) true) (RM (((pth s f g).bind (x3R env)).bind fun s'=>(cat (ptw s.words bd f.words g.words) (y2F s f.subs (if QK f.kind then f.name::bd else bd) g.subs)).bind (x3R s'))):=by
   intro c hc hm hpt hq
   have hc3:c=33∨c=46∨c=63:=hc.elim .inl fun h=>.inr (.inr h)
   unfold w6b
   simp only[cond_true,hmn,hm,hpt]
   have e0:(some [(⟨c::f.name,g.name,zf⟩:w3V)]).bind (x3R env)=y1D env ⟨c::f.name,g.name,zf⟩:=by
    show x3R env [_]=_
    rw[x3R]
    cases y1D env ⟨c::f.name,g.name,zf⟩<;>rfl
   rw[e0]
   refine Evt.bind (y2G he hc3 f.name g.name) fun v hv=>?_
   cases hp:y1D env ⟨c::f.name,g.name,zf⟩with
   |none=>
    rw[hp]at hv
    have h1:=hv.2 rfl
    exact Evt.cond (fun _=>Evt.pure ⟨fun e he=>(by cases he),fun _=>rfl⟩) (fun e=>by rw[h1]at e;cases e)
   |some t=>
    rw[hp]at hv
    have h1:=hv.1 _ rfl
    subst h1
    refine Evt.cond (fun e=>by cases e) (fun _=>?_)
    have hm1:=hh.mono (x5Y hp).2.1
    refine rest t (y3U he (y5N hc3) hp) hm1 ?_
    by_cases hqk:QK f.kind
    ·rw[if_pos hqk]
     intro x hx
     rcases List.mem_cons.1 hx with rfl|hx
     ·have:=(x5Y hp).1
      obtain rfl:=hq hqk
      show(assoc (63::f.name) t).isSome=true
      rw[show assoc (63::f.name) t=some _ from this];rfl
     ·exact hm1 x hx
    ·rw[if_neg hqk];exact hm1
  refine Evt.cond (fun e=>?_) (fun e=>?_)
  ·have hq:QK f.kind:=of_decide_eq_true e
   rw[e]
   exact z6Z 63 (.inr rfl) (by unfold mkn;rw[if_pos hq]) (by unfold pth;rw[if_pos hq]) (fun _=>rfl)
  ·have hq:¬QK f.kind:=of_decide_eq_false e
   have z2B:mkn s f=if f.kind=2∧f.name∈s.w4a then 33::f.name else f.name:=by unfold mkn;rw[if_neg hq,if_neg hp]
   refine Evt.bind (P:=fun v=>f.kind=2→v=decide (mkn s f∈(y0a s).w4a)) (Evt.gd (fun _=>Evt.pure fun _=>rfl) (fun g h=>by simp[h]at g)) fun v hv=>?_
   by_cases hpr:f.kind=2∧f.name∈s.w4a
   ·rw[if_pos hpr]at z2B
    have h1:=hv hpr.1
    rw[z2B,decide_eq_true (show(33::f.name:Bs)∈(y0a s).w4a from y1o.2 hpr.2)]at h1
    have e2:(bif decide (f.kind=2)then v else false)=true:=by simp[hpr.1,h1]
    rw[e2]
    exact z6Z 33 (.inl rfl) z2B (by unfold pth;rw[if_neg hq,if_pos hpr]) (fun h=>absurd h hq)
   ·rw[if_neg hpr]at z2B
    have e2:(bif decide (f.kind=2)then v else false)=false:=by
     by_cases h2:f.kind=2
     ·have h1:=hv h2
      rw[z2B,decide_eq_false (show ¬f.name∈(y0a s).w4a from fun h=>hplain h2 (y8f (.inl rfl) h))]at h1
      simp[h1]
     ·simp[h2]
    rw[e2]
    have hpt:pth s f g=if f.name=g.name then some []else none:=by unfold pth;rw[if_neg hq,if_neg hpr]
    unfold w6b
    simp only[cond_false,hmn,z2B,hpt]
    refine Evt.cond (fun e=>Evt.pure ?_) (fun e=>?_)
    ·replace e:=bx e
     rw[if_neg e]
     exact⟨fun e he=>(by cases he),fun _=>rfl⟩
    ·replace e:=bx e
     rw[if_pos e]
     exact rest env he hh (by rw[if_neg hq];exact hh)
end
mutual
theorem y9I(s:w3W):∀(f:w3T) (bd:List Bs),ndF (x2j s f bd)=ndF f
 | .mk k n w l,bd=>by rw[x2j,ndF,ndF,y2H s l]
theorem y2H(s:w3W):∀(l:List w3T) (bd:List Bs),w6H (x1n s l bd)=w6H l
 | [],bd=>by rw[x1n]
 |f::l,bd=>by rw[x1n,w6H,w6H,y9I s f,y2H s l]
end
mutual
theorem y9J(s:w3W):∀(f:w3T) (bd:List Bs),qs (x2j s f bd)=(qs f).map (63:: ·)
 | .mk k n w l,bd=>by
   rw[x2j,qs,qs,y2I s l,List.map_append]
   by_cases h:QK k
   ·have:mkn s (.mk k n w l)=63::n:=by unfold mkn;exact if_pos h
    simp only[if_pos h,this];rfl
   ·simp only[if_neg h];rfl
theorem y2I(s:w3W):∀(l:List w3T) (bd:List Bs),qsL (x1n s l bd)=(qsL l).map (63:: ·)
 | [],bd=>by rw[x1n,qsL];rfl
 |f::l,bd=>by rw[x1n,qsL,qsL,y9J s f,y2I s l,List.map_append]
end
def w6h(s:w3W):List Bs:=(s.words.map (46:: ·)++s.w4a.map (33:: ·)++s.parts.map (43:: ·))++(qs s.form).map (63:: ·)
def txE(e:Env)(k:Bs):Bs:=((assoc k e).getD default).text
def fmE(e:Env)(k:Bs):w3T:=((assoc k e).getD default).form
def caught(s:w3W)(e:Env):Prop:=∃w∈s.words,txE e (46::w)∈(qs s.form).map fun x=>txE e (63::x)
open Classical in
noncomputable def y5O(s:w3W)(g:w3T):List w3V×Bool:=match (pts s s.form [] g).bind (x3R [])with
 |none=>([],false)
 |some e=>if caught s e then([],false)else((w6h s).map fun k=>⟨k.drop 1,txE e k,fmE e k⟩,true)
theorem z4i{e:Env}(h:x6c e)(k:Bs):SmF (fmE e k):=by
 unfold fmE
 cases hk:assoc k e with
 |none=>exact z4e
 |some b=>exact(h k b hk).2.1
theorem z1L(u:Nat):∀c∈Lib.decDigits u,48≤c.toNat∧c.toNat≤57:=by
 induction u using Nat.strongRecOn with
 | _ u ih=>
   have one:∀v:Nat,v<10→48≤(UInt8.ofNat (48+v)).toNat∧(UInt8.ofNat (48+v)).toNat≤57:=fun v hv=>by
    simp only[UInt8.toNat_ofNat'];omega
   intro c hc
   by_cases h:u<10
   ·rw[Lib.decDigits,dif_pos h,List.mem_singleton]at hc
    subst hc;exact one u h
   ·rw[Lib.decDigits,dif_neg h]at hc
    rcases List.mem_append.1 hc with hc|hc
    ·exact ih (u / 10) (by omega) c hc
    ·rw[List.mem_singleton]at hc
     subst hc;exact one _ (Nat.mod_lt _ (by decide))
theorem z1M{m:Nat}(h:m≤1000000000):w4J (vn m):=by
 have hl:=x6D h
 refine⟨by simp[vn],by simp[vn];omega,by simp[vn,w5e],fun k hk=>?_⟩
 unfold OkC w5e
 rw[Int.toNat_natCast]
 cases k with
 |zero=>left;simp[vn]
 |succ k=>
  right;left
  have hk2:k<(Lib.decDigits m).length:=by simpa[vn]using hk
  have:(vn m).getD (k+1) 0=(Lib.decDigits m)[k]:=by simp[vn,hk2]
  rw[this]
  have:=z1L m _ (List.getElem_mem hk2)
  omega
theorem y8g{k:Int}{n n':Bs}{w w':List Bs}{l l':List w3T}(h:w9L (.mk k n w l)=0)(hn:k=2→n'=n)(hq:QK k→w4J n')(hn2:¬(k=2∨QK k)→n'=n)(hw:w'.length=w.length)(hl:l'.length=l.length)(hx:∀x∈w',w4J x):w9L (.mk k n' w' l')=0:=by
 have o:=x1r h
 refine y4N (by have:=o.1;show 0≤arF k;have h2:((l.length:Nat):Int)=arF k:=this;omega) (by show(l'.length:Int)=arF k;rw[hl];exact o.1) (by show x2P k w'.length;rw[hw];exact o.2.1) (fun h=>?_) (fun h=>?_) hx
 ·rcases h with h|h
  ·have h:k=2:=h
   have:=o.2.2.1 (.inl h)
   show w4J n'
   rw[hn h];exact this
  ·exact hq h
 ·show n'=[]
  rw[hn2 h];exact o.2.2.2.1 h
mutual
theorem z0C(N:Nat→Bs)(q:Nat)(hN:∀i,i<q→w4J (N i)):∀(f:w3T) (env:List (Bs×Bs)) (i:Nat),WfF f→i+nq f≤q→(∀p∈env,w4J p.2)→WfF (ren N f env i)
 | .mk k n w s,env,i,h,hq,y8w=>by
   have h0:=(x1W _).1 h
   have hnn:w9L (.mk k n w s)=0:=h0.1
   have hss:x7k s:=h0.2
   rw[nq]at hq
   rw[ren,x1W]
   refine⟨y8g hnn (fun e=>if_neg (by unfold QK;omega)) (fun e=>?_) (fun e=>if_neg fun e2=>e (.inr e2)) (List.length_map _) (x7l _ _ _ _) (fun x hx=>?_),?_⟩
   ·rw[if_pos e]
    rw[if_pos e]at hq
    exact hN i (by omega)
   ·obtain⟨y,hy,rfl⟩:=List.mem_map.1 hx
    have hyn:w4J y:=y3T h hy
    by_cases hm:y∈env.map (·.1)
    ·obtain⟨p,hp,e⟩:=List.mem_map.1 (y7w hm)
     rw[←e];exact y8w p hp
    ·rw[y7v fun p hp e=>hm (List.mem_map.2 ⟨p,hp,e⟩)];exact hyn
   ·refine y8h N q hN s _ _ hss ?_ (fun p hp=>?_)
    ·by_cases e:QK k
     ·simp only[if_pos e]at hq ⊢; omega
     ·simp only[if_neg e]at hq ⊢; omega
    ·by_cases e:QK k
     ·rw[if_pos e]at hp
      rw[if_pos e]at hq
      rcases List.mem_cons.1 hp with rfl|hp
      ·exact hN i (by omega)
      ·exact y8w p hp
     ·rw[if_neg e]at hp;exact y8w p hp
theorem y8h(N:Nat→Bs)(q:Nat)(hN:∀i,i<q→w4J (N i)):∀(l:List w3T) (env:List (Bs×Bs)) (i:Nat),x7k l→i+nqL l≤q→(∀p∈env,w4J p.2)→x7k (x2K N l env i)
 | [],env,i,_,_,_=>by rw[x2K,x7k];trivial
 |f::l,env,i,h,hq,y8w=>by
  rw[nqL]at hq
  rw[x2K,x7k]
  exact⟨z0C N q hN f env i (w6t.1 h f (List.mem_cons_self ..)) (by omega) y8w,y8h N q hN l env _ (w6t.2 fun x hx=>w6t.1 h x (List.mem_cons_of_mem _ hx)) (by omega) y8w⟩
end
theorem y9K{f:w3T}(h:OkF f):∃C:List Bs,C.length≤600∧∀x,fre f [] x↔x∈C:=by
 have:=h.2.1
 obtain⟨C,hC,_⟩:=x5I h.1 (by omega)
 exact⟨C,by omega,fun x=>(hC.1 x).symm⟩
theorem z6o{f:w3T}(h:OkF f):OkF (cf f):=by
 obtain⟨C,hCl,hC⟩:=y9K h
 have hnd:=h.2.1
 have hq:=x7P f
 have z6n:=y4X (fun x=>(hC x).1) 600 hCl
 refine⟨z0C _ 200 (fun i hi=>z1M (by have:=z6n i;omega)) f [] 0 h.1 (by omega) (fun p hp=>by cases hp),?_,?_⟩
 ·unfold cf;rw[y7y];exact h.2.1
 ·unfold cf;rw[z0t];exact h.2.2
mutual
noncomputable def x9I(s:w3W):w3T→Nat→List w4l
 | .mk k n w l,b=>(if(y5O s (.mk k n w l)).2 then [⟨(b:Int),(y5O s (.mk k n w l)).1⟩]else [])++x3A s l (b+1)
noncomputable def x3A(s:w3W):List w3T→Nat→List w4l
 | [],_=>[]
 |f::l,b=>x9I s f b++x3A s l (b+ndF f)
end
mutual
theorem y5P(s:w3W):∀(f:w3T) (b:Nat),(x9I s f b).length≤ndF f
 | .mk k n w l,b=>by
   rw[x9I,ndF,List.length_append]
   have:=x9J s l (b+1)
   split
   ·simp only[List.length_cons,List.length_nil];omega
   ·simp only[List.length_nil];omega
theorem x9J(s:w3W):∀(l:List w3T) (b:Nat),(x3A s l b).length≤w6H l
 | [],b=>by rw[x3A];simp
 |f::l,b=>by
  rw[x3A,w6H,List.length_append]
  have:=y5P s f b
  have:=x9J s l (b+ndF f)
  omega
end
theorem y5f(f:w3T):w3T.mk f.kind f.name f.words f.subs=f:=by cases f;rfl
set_option maxRecDepth 1000000 in
theorem x7o(m:Nat):w5j (m+300)=some true:=by kernel_rfl
theorem x6G:Evt w5j (fun b=>b=true):=⟨true,rfl,300,fun n hn=>by
 obtain⟨m,rfl⟩:∃m,n=m+300:=⟨n-300,by omega⟩
 exact x7o m⟩
theorem z6p{s:w3W}(hw:s.words.length≤1048576∧∀x∈s.words,x.length≤1048576)(hp:s.w4a.length≤1048576∧∀x∈s.w4a,x.length≤1048576)(hq:s.parts.length≤1048576∧∀x∈s.parts,x.length≤1048576):SB s:=by
 refine⟨hw.1,hp.1,hq.1,fun x hx=>?_⟩
 rcases List.mem_append.1 hx with hx|hx
 ·rcases List.mem_append.1 hx with hx|hx
  ·have:=hw.2 x hx;omega
  ·have:=hp.2 x hx;omega
 ·have:=hq.2 x hx;omega
theorem y0b{l:List Bs}(hl:l.length≤8000000):Evt (fun n=>w6i n l l) (fun b=>b=true):=by
 unfold w6i
 refine Evt.cond (fun e=>by simp at e) (fun _=>?_)
 refine Evt.w4h (Evt.x1P l.length (fun k s=>s=(k:Int)) (fun _=>True) (fun _=>False) rfl (fun k s hk hs=>?_) (fun s hs=>?_)) (fun t ht=>?_) (fun r hr=>?_)
 ·subst hs
  unfold w5y
  refine Evt.cond (fun _=>Evt.chk (by omega) (Evt.chk (by omega) (Evt.cond (fun e=>by simp at e) (fun _=>Evt.pure ?_)))) (fun e=>by replace e:=bx e;omega)
  exact(w5h (by omega) (by omega)).trans rfl
 ·subst hs
  unfold w5y
  exact Evt.cond (fun e=>by replace e:=bx e;omega) (fun _=>Evt.pure trivial)
 ·exact Evt.pure rfl
 ·exact False.elim hr
theorem x7p:∀(m:Nat) (f:w3T),SizeOf.sizeOf f≤m→SmF f→Evt (fun n=>w4t n f f) (fun b=>b=true):=by
 intro m
 induction m with
 |zero=>intro f h;cases f;simp only[w3T.mk.sizeOf_spec]at h;omega
 |succ m ih=>
  intro f hf hsm
  obtain⟨hws,hsl,hsm⟩:=(y2B f).1 hsm
  refine Evt.succ ?_
  simp only[w4t]
  refine Evt.bind (P:=fun v=>v=true) (Evt.gd (fun _=>y0b (by omega)) (fun h=>by simp at h)) fun v hv=>?_
  subst hv
  refine Evt.cond (fun e=>by simp at e) (fun _=>?_)
  refine Evt.w4h (Evt.x1P f.subs.length (fun k s=>s=(k:Int)) (fun _=>True) (fun _=>False) rfl (fun k s hk hs=>?_) (fun s hs=>?_)) (fun t ht=>?_) (fun r hr=>?_)
  ·subst hs
   unfold w5H
   have hsz:=w6s hk
   refine Evt.cond (fun _=>Evt.chk (by omega) (Evt.chk (by omega) ?_)) (fun e=>by replace e:=bx e;omega)
   simp only[Int.toNat_natCast]
   refine Evt.bind (ih _ (by omega) (x7n hsm _ (get_mem hk))) fun v hv=>?_
   subst hv
   refine Evt.cond (fun e=>by cases e) (fun _=>Evt.pure ?_)
   exact(w5h (by omega) (by omega)).trans rfl
  ·subst hs
   unfold w5H
   exact Evt.cond (fun e=>by replace e:=bx e;omega) (fun _=>Evt.pure trivial)
  ·exact Evt.pure rfl
  ·exact False.elim hr
def z5e(l:List w3V):Prop:=l.length≤1000∧∀b∈l,SmF b.form
theorem x3B{s:w3W}(hs:x0p s):(w6h s).length≤500:=by
 have hvl:=x0o s
 have hl:=hs.len
 have hnd:=hs.form.2.1
 have hql:(qs s.form).length≤200:=by rw[x6q];have:=x7P s.form;omega
 unfold w6h;simp only[List.length_append,List.length_map];omega
open Classical in
theorem y9L{s:w3W}(hs:x0p s){g:w3T}(hg:WfF g):z5e (y5O s g).1:=by
 unfold y5O
 cases hp:(pts s s.form [] g).bind (x3R [])with
 |none=>exact⟨by simp,fun b hb=>(by cases hb)⟩
 |some env=>
  have y8w:x6c env:=by
   cases hq:pts s s.form [] g with
   |none=>rw[hq]at hp;cases hp
   |some ps=>rw[hq]at hp;exact y8b (fun k b h=>by cases h) (y8d s _ _ _ (WfF.sm g hg) ps hq) hp
  show z5e (if caught s env then(([],false):List w3V×Bool)else _).1
  split
  ·exact⟨by simp,fun b hb=>(by cases hb)⟩
  ·refine⟨by rw[List.length_map];have:=x3B hs;omega,fun b hb=>?_⟩
   obtain⟨k,_,rfl⟩:=List.mem_map.1 hb
   exact z4i y8w k
mutual
theorem y8i{s:w3W}(hs:x0p s):∀(g:w3T),WfF g→∀(b:Nat),∀x∈x9I s g b,z5e x.bindings∧∃m:Nat,x.at_=(m:Int)∧b≤m∧m<b+ndF g
 | .mk k n w l,hg,b,x,hx=>by
   rw[x9I]at hx
   rw[ndF]
   rcases List.mem_append.1 hx with hx|hx
   ·split at hx
    ·rw[List.mem_singleton]at hx
     subst hx
     exact⟨y9L hs hg,b,rfl,Nat.le_refl _,by omega⟩
    ·cases hx
   ·obtain⟨h1,m,h2,h3,h4⟩:=y0C hs l ((x1W _).1 hg).2 (b+1) x hx
    exact⟨h1,m,h2,by omega,by omega⟩
theorem y0C{s:w3W}(hs:x0p s):∀(l:List w3T),x7k l→∀(b:Nat),∀x∈x3A s l b,z5e x.bindings∧∃m:Nat,x.at_=(m:Int)∧b≤m∧m<b+w6H l
 | [],_,b,x,hx=>by rw[x3A]at hx;cases hx
 |f::l,hg,b,x,hx=>by
  rw[x3A]at hx
  rw[w6H]
  rcases List.mem_append.1 hx with hx|hx
  ·obtain⟨h1,m,h2,h3,h4⟩:=y8i hs f (w6t.1 hg f (List.mem_cons_self ..)) b x hx
   exact⟨h1,m,h2,by omega,by omega⟩
  ·obtain⟨h1,m,h2,h3,h4⟩:=y0C hs l (w6t.2 fun y hy=>w6t.1 hg y (List.mem_cons_of_mem _ hy)) (b+ndF f) x hx
   exact⟨h1,m,h2,by omega,by omega⟩
end
mutual
def x1Z(R:List IT):w3T→List Bs→Nat→Prop
 | .mk k n w s,bd,p=>p<R.length∧Am.get R p=⟨k,n,w,w.map (fun x=>decide (x∈bd)),((p+ndF (.mk k n w s):Nat):Int)⟩∧w9g R s (if QK k then n::bd else bd) (p+1)
def w9g(R:List IT):List w3T→List Bs→Nat→Prop
 | [],_,_=>True
 |f::l,bd,p=>x1Z R f bd p∧w9g R l bd (p+ndF f)
end
theorem x7q(R:List IT)(f:w3T)(bd:List Bs)(p:Nat):x1Z R f bd p↔p<R.length∧Am.get R p=⟨f.kind,f.name,f.words,f.words.map (fun x=>decide (x∈bd)),((p+ndF f:Nat):Int)⟩∧w9g R f.subs (if QK f.kind then f.name::bd else bd) (p+1):=by cases f;rw[x1Z];rfl
theorem y3W{α:Type}[Inhabited α](X:List α)(y:α)(Y:List α):Am.get (X++y::Y) X.length=y:=by unfold Am.get;simp
mutual
theorem y5g:∀(f:w3T) (ar:List Bs) (X Y:List IT),x1Z (X++(w9x f ar X.length++Y)) f ar X.length
 | .mk k n w s,ar,X,Y=>by
   rw[x1Z]
   have e:w9x (.mk k n w s) ar X.length=⟨k,n,w,w.map (fun x=>decide (x∈ar)),((X.length+ndF (.mk k n w s):Nat):Int)⟩::x0E s (if QK k then n::ar else ar) (X.length+1):=y3L _ _ _
   refine⟨by rw[e];simp,by rw[e];exact y3W _ _ _,?_⟩
   rw[e]
   have:=y2J s (if QK k then n::ar else ar) (X++[⟨k,n,w,w.map (fun x=>decide (x∈ar)),((X.length+ndF (.mk k n w s):Nat):Int)⟩]) Y
   rw[List.length_append,List.length_singleton,List.append_assoc]at this
   exact this
theorem y2J:∀(l:List w3T) (ar:List Bs) (X Y:List IT),w9g (X++(x0E l ar X.length++Y)) l ar X.length
 | [],ar,X,Y=>by rw[w9g];trivial
 |f::l,ar,X,Y=>by
  rw[w9g,x0E,List.append_assoc]
  refine⟨y5g f ar X _,?_⟩
  have:=y2J l ar (X++w9x f ar X.length) Y
  rw[List.length_append,w9V,List.append_assoc]at this
  exact this
end
theorem x5B(f:w3T)(ar:List Bs):x1Z (w9x f ar 0) f ar 0:=by
 have:=y5g f ar [] []
 rw[List.nil_append,List.append_nil]at this
 exact this
mutual
theorem x1Z.le{R:List IT}:∀ {f:w3T} {bd:List Bs} {p:Nat},x1Z R f bd p→p+ndF f≤R.length
 | .mk k n w s,bd,p,h=>by
   rw[x1Z]at h
   rw[ndF]
   cases s with
   |nil=>rw[w6H];omega
   |cons x l=>
    have:=w9g.le h.2.2 (by simp)
    omega
theorem w9g.le{R:List IT}:∀ {l:List w3T} {bd:List Bs} {p:Nat},w9g R l bd p→l≠ []→p+w6H l≤R.length
 | [],bd,p,h,hn=>absurd rfl hn
 |f::l,bd,p,h,_=>by
  rw[w9g]at h
  rw[w6H]
  cases l with
  |nil=>rw[w6H];have:=x1Z.le h.1;omega
  |cons x l=>
   have:=w9g.le h.2 (by simp)
   omega
end
theorem w9g.get{R:List IT}:∀ {l:List w3T} {bd:List Bs} {p:Nat},w9g R l bd p→∀k,k<l.length→x1Z R (Am.get l k) bd (p+w6H (l.take k))
 | [],_,_,_,k,hk=>by simp at hk
 |f::l,bd,p,h,0,_=>by
  rw[w9g]at h
  simpa[w6H,Am.get]using h.1
 |f::l,bd,p,h,k+1,hk=>by
  rw[w9g]at h
  have:=w9g.get h.2 k (by simpa using hk)
  rw[List.take_succ_cons,w6H, ←Nat.add_assoc]
  exact this
mutual
theorem x1Z.node{R:List IT}:∀ {f:w3T} {bd:List Bs} {p:Nat},x1Z R f bd p→∀j,j<ndF f→∃ar,x1Z R (Am.get (w4z f) j) ar (p+j)
 | .mk k n w s,bd,p,h,0,_=>⟨bd,by rw[w4z];exact h⟩
 | .mk k n w s,bd,p,h,j+1,hj=>by
   rw[x1Z]at h
   rw[ndF]at hj
   obtain⟨ar,ha⟩:=w9g.node h.2.2 j (by omega)
   refine⟨ar,?_⟩
   rw[w4z,show p+(j+1)=p+1+j by omega]
   exact ha
theorem w9g.node{R:List IT}:∀ {l:List w3T} {bd:List Bs} {p:Nat},w9g R l bd p→∀j,j<w6H l→∃ar,x1Z R (Am.get (w6e l) j) ar (p+j)
 | [],bd,p,h,j,hj=>by rw[w6H]at hj;omega
 |f::l,bd,p,h,j,hj=>by
  rw[w9g]at h
  rw[w6H]at hj
  rw[w6e]
  by_cases e:j<ndF f
  ·have e1:Am.get (w4z f++w6e l) j=Am.get (w4z f) j:=by
    unfold Am.get
    rw[List.getD_eq_getElem?_getD,List.getD_eq_getElem?_getD,List.getElem?_append_left (by rw[w7W];exact e)]
   rw[e1];exact x1Z.node h.1 j e
  ·have e1:Am.get (w4z f++w6e l) j=Am.get (w6e l) (j-ndF f):=by
    unfold Am.get
    rw[List.getD_eq_getElem?_getD,List.getD_eq_getElem?_getD,List.getElem?_append_right (by rw[w7W];omega),w7W]
   obtain⟨ar,ha⟩:=w9g.node h.2 (j-ndF f) (by omega)
   refine⟨ar,?_⟩
   rw[e1,show p+j=p+ndF f+(j-ndF f)by omega]
   exact ha
end
theorem x7V{f:w3T}(h:WfF f):w6c f.kind=some (f.subs.length:Int):=by
 have o:=x1r ((x1W f).1 h).1
 have h0:0≤arF f.kind:=by have:=o.1;omega
 unfold w6c
 rw[o.1]
 unfold arF at h0⊢
 by_cases e1:f.kind=1∨f.kind=2∨f.kind=3
 ·rcases e1 with e|e|e<;>rw[e]<;>rfl
 ·by_cases e2:f.kind=4∨f.kind=8∨f.kind=9
  ·rcases e2 with e|e|e<;>rw[e]<;>rfl
  ·by_cases e3:f.kind=5∨f.kind=6∨f.kind=7
   ·rcases e3 with e|e|e<;>rw[e]<;>rfl
   ·rw[if_neg e1,if_neg e2,if_neg e3]at h0
    omega
def sgI(it:IT):Int×Bs×List Bs:=(it.kind,it.name,it.words)
def sgF(f:w3T):Int×Bs×List Bs:=(f.kind,f.name,f.words)
theorem y0K{α:Type}[Inhabited α]{l m:List α}(hl:l.length=m.length)(h:∀j,j<l.length→Am.get l j=Am.get m j):l=m:=by
 refine List.ext_getElem hl fun j h1 h2=>?_
 have:=h j h1
 unfold Am.get at this
 simpa[h1,h2]using this
theorem y0c{s:w3W}(hs:x0p s):Evt (fun n=>w5I n s) (fun r=>r=vns s++qs s.form):=by
 have hvl:=x0o s
 have hl:=hs.len
 have hnd:=hs.form.2.1
 have hrl:(w9x s.form [] 0).length=ndF s.form:=w9V _ _ _
 have hql:(qs s.form).length≤200:=by rw[x6q];have:=x7P s.form;omega
 have hq:qs s.form=qsI (w9x s.form [] 0):=(y3N _ _ _).symm
 have hpre:∀i,qs s.form=qsI ((w9x s.form [] 0).take i)++qsI ((w9x s.form [] 0).drop i):=fun i=>by rw[←x7R,List.take_append_drop];exact hq
 unfold w5I
 refine Evt.w4h (y2u s.words _ (fun _=>rfl) [] (by simp;omega)) (fun t ht=>?_) (fun _ h=>h.elim)
 unfold w5X
 have ht:t=s.words:=ht
 subst ht
 refine Evt.w4h (y2u s.w4a _ (fun _=>rfl) s.words (by omega)) (fun t ht=>?_) (fun _ h=>h.elim)
 unfold w5Y
 have ht:t=s.words++s.w4a:=ht
 subst ht
 refine Evt.w4h (y2u s.parts _ (fun _=>rfl) (s.words++s.w4a) (by rw[List.length_append];omega)) (fun t ht=>?_) (fun _ h=>h.elim)
 unfold w5Z
 have ht:t=vns s:=ht
 subst ht
 refine Evt.bind (x8F hs.form.1 [] (by omega) (by simp)) fun v hv=>?_
 subst hv
 refine Evt.w4h (Evt.x1P (ndF s.form) (fun i t=>t=(vns s++qsI ((w9x s.form [] 0).take i),(i:Int))) (fun t=>t=vns s++qs s.form) (fun _=>False) (by simp[qsI]) (fun i t hi ht=>?_) (fun t ht=>?_)) (fun t ht=>?_) (fun r hr=>?_)
 ·subst ht
  have hll:(qsI ((w9x s.form [] 0).take i)).length≤200:=by have:=congrArg List.length (hpre i);rw[List.length_append]at this;omega
  unfold w5k
  simp only[Int.toNat_natCast]
  refine Evt.cond (fun _=>Evt.chk (by omega) ?_) (fun e=>by replace e:=bx e;omega)
  refine Evt.cond (fun e=>Evt.w6m (Evt.chk ?_ (Evt.pure ?_))) (fun e=>Evt.pure ?_)
  ·rw[w6d];simp only[List.length_append,List.length_cons,List.length_nil];omega
  ·replace e:=bx e
   have hqk:QK (Am.get (w9x s.form [] 0) i).kind:=e
   show(_,_)=(_,_)
   rw[w4C (by omega),x7R,y1l,if_pos hqk,w5h (by omega) (by omega),List.append_assoc];rfl
  ·replace e:=bx e
   have hqk:¬QK (Am.get (w9x s.form [] 0) i).kind:=fun h=>by rcases h with h|h<;>simp[h]at e
   show(_,_)=(_,_)
   rw[w4C (by omega),x7R,y1l,if_neg hqk,w5h (by omega) (by omega),List.append_nil];rfl
 ·subst ht
  unfold w5k
  refine Evt.cond (fun e=>by replace e:=bx e;omega) (fun _=>Evt.pure ?_)
  have hrt:(w9x s.form [] 0).take (ndF s.form)=w9x s.form [] 0:=by rw[←hrl,List.take_length]
  show _++_=_
  rw[hrt, ←hq]
 ·exact Evt.pure ht
 ·exact False.elim hr
end Go.Proofs.YtdjnbjnlnjhllaaGreatDoor
