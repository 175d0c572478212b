import Derived.Test.YtfacbpehlibilaaGreatDoorTALaw2
set_option linter.unusedVariables false
set_option linter.unusedSimpArgs false
namespace Go.Proofs.YtfacbpehlibilaaGreatDoor
open Go Go.Am
theorem p0E{s:Wu}{i:Nat}(h:i<s.words.length):Am.get (vns s) i=Am.get s.words i:=by
 unfold vns Am.get
 rw[List.getD_eq_getElem?_getD,List.getD_eq_getElem?_getD,List.append_assoc,List.getElem?_append_left h]
theorem p0F{s:Wu}{i:Nat}(h:i<s.WO.length):Am.get (vns s) (s.words.length+i)=Am.get s.WO i:=by
 unfold vns Am.get
 rw[List.getD_eq_getElem?_getD,List.getD_eq_getElem?_getD,List.append_assoc,List.getElem?_append_right (by omega),List.getElem?_append_left (by omega)]
 congr 2;omega
theorem p0G{s:Wu}{i:Nat}(h:i<s.parts.length):Am.get (vns s) (s.words.length+s.WO.length+i)=Am.get s.parts i:=by
 unfold vns Am.get
 rw[List.getD_eq_getElem?_getD,List.getD_eq_getElem?_getD,List.getElem?_append_right (by simp only[List.length_append];omega)]
 congr 2;simp only[List.length_append];omega
structure d6s(s:Wu):Prop where
 form:OkF s.form
 len:(vns s).length≤300
 name:∀x∈vns s,Xn x
 uniq:∀i j,i<j→j<(vns s).length→Am.get (vns s) i≠Am.get (vns s) j
 words:∀x∈s.words,fre s.form [] x
 WO:∀x∈s.WO,d9n (ZH s.form) x∨i0w (ZH s.form) x
 parts:∀x∈s.parts,¬d9n (ZH s.form) x∧i0w (ZH s.form) x
 r1k:QOk s
theorem OkS.good{s:Wu}(h:OkS s):d6s s:=by
 obtain⟨h1,h2,h3,h4⟩:=h
 have hvl:=i2J s
 have hn:∀j,j<(vns s).length→Xn (Am.get (vns s) j):=fun j hj=>Classical.byContradiction fun h=>by
  have:=h3 j hj
  unfold d1u at this
  rw[if_pos h]at this
  exact absurd this (by decide)
 have hu:∀j,j<(vns s).length→Am.get (vns s) j∉ (vns s).take j:=fun j hj h=>by
  have:=h3 j hj
  unfold d1u at this
  rw[if_neg (fun e=>e (hn j hj)),if_pos h]at this
  exact absurd this (by decide)
 refine⟨h1,h2,fun x hx=>?_,fun i j hij hj e=>hu j hj ((i4i (by omega)).2 ⟨i,hij,e⟩),fun x hx=>?_,fun x hx=>?_,fun x hx=>?_,h4⟩
 ·obtain⟨j,hj,rfl⟩:=d1g.1 hx
  exact hn j hj
 ·obtain⟨j,hj,rfl⟩:=d1g.1 hx
  have hjv:j<(vns s).length:=by omega
  have:=h3 j hjv
  unfold d1u at this
  rw[if_neg (fun e=>e (hn j hjv)),if_neg (hu j hjv),if_pos hj]at this
  rw[←p0E hj]
  exact Classical.byContradiction fun h=>by rw[if_neg h]at this;exact absurd this (by decide)
 ·obtain⟨i,hi,rfl⟩:=d1g.1 hx
  have hjv:s.words.length+i<(vns s).length:=by omega
  have:=h3 _ hjv
  unfold d1u at this
  rw[if_neg (fun e=>e (hn _ hjv)),if_neg (hu _ hjv),if_neg (by omega),if_pos (by omega)]at this
  rw[←p0F hi]
  exact Classical.byContradiction fun h=>by rw[if_neg h]at this;exact absurd this (by decide)
 ·obtain⟨i,hi,rfl⟩:=d1g.1 hx
  have hjv:s.words.length+s.WO.length+i<(vns s).length:=by omega
  have:=h3 _ hjv
  unfold d1u at this
  rw[if_neg (fun e=>e (hn _ hjv)),if_neg (hu _ hjv),if_neg (by omega),if_neg (by omega)]at this
  rw[←p0G hi]
  by_cases hw:d9n (ZH s.form) (Am.get (vns s) (s.words.length+s.WO.length+i))
  ·rw[if_pos hw]at this;exact absurd this (by decide)
  ·rw[if_neg hw]at this
   exact⟨hw,Classical.byContradiction fun h=>by rw[if_neg h]at this;exact absurd this (by decide)⟩
def Yi(s:Wu)(f:Lr):Prop:=(f.kind=2∧f.words.length=0)∧f.name∈s.parts
instance(s:Wu)(f:Lr):Decidable (Yi s f):=inferInstanceAs (Decidable (_∧_))
def mkw(W bd:List Bs)(w:Bs):Bs:=if w∈bd then 63::w else if w∈W then 46::w else w
def mkn(s:Wu)(f:Lr):Bs:=if QK f.kind then 63::f.name else if Yi s f then 43::f.name else if f.kind=2∧f.name∈s.WO then 33::f.name else f.name
mutual
def ZX(s:Wu):Lr→List Bs→Lr
 | .mk k n w l,bd=>.mk k (mkn s (.mk k n w l)) (w.map (mkw s.words bd)) (Za s l (if QK k then n::bd else bd))
def Za(s:Wu):List Lr→List Bs→List Lr
 | [],_=>[]
 |f::l,bd=>ZX s f bd::Za s l bd
end
theorem d2L(s:Wu)(f:Lr)(bd:List Bs):ZX s f bd= .mk f.kind (mkn s f) (f.words.map (mkw s.words bd)) (Za s f.subs (if QK f.kind then f.name::bd else bd)):=by cases f;rw[ZX];rfl
theorem d6l(s:Wu):∀(l:List Lr) (bd:List Bs),(Za s l bd).length=l.length
 | [],_=>by rw[Za]
 |f::l,bd=>by rw[Za,List.length_cons,List.length_cons,d6l s l]
theorem i0A(s:Wu):∀(l:List Lr) (x:Lr) (bd:List Bs),Za s (l++[x]) bd=Za s l bd++[ZX s x bd]
 | [],x,bd=>by simp[Za]
 |a::l,x,bd=>by rw[List.cons_append,Za,Za,i0A s l x];rfl
theorem p0H{W bd bd':List Bs}(h:∀y,y∈bd↔y∈bd')(w:Bs):mkw W bd w=mkw W bd' w:=by
 unfold mkw
 by_cases e:w∈bd
 ·rw[if_pos e,if_pos ((h w).1 e)]
 ·rw[if_neg e,if_neg fun e'=>e ((h w).2 e')]
mutual
theorem i5J(s:Wu):∀(f:Lr) (bd bd':List Bs),(∀y,y∈bd↔y∈bd')→ZX s f bd=ZX s f bd'
 | .mk k n w l,bd,bd',h=>by
   rw[ZX,ZX,d5U s l _ (if QK k then n::bd' else bd') (fun y=>?_),List.map_congr_left fun x _=>p0H h x]
   split
   ·simp[h y]
   ·exact h y
theorem d5U(s:Wu):∀(l:List Lr) (bd bd':List Bs),(∀y,y∈bd↔y∈bd')→Za s l bd=Za s l bd'
 | [],bd,bd',h=>by rw[Za,Za]
 |f::l,bd,bd',h=>by rw[Za,Za,i5J s f bd bd' h,d5U s l bd bd' h]
end
theorem d5V(s:Wu)(f:Lr):Xz s f=some (decide (Yi s f)):=by
 unfold Xz Yi
 simp only[Xl]
 by_cases h1:f.kind=2<;>by_cases h2:f.words.length=0<;>simp[h1,h2,gd]
theorem p5g{f:Lr}(hwf:WfF f):f.name.length≤30:=by
 have h:=d1D ((d1P f).1 hwf).1
 by_cases hk:f.kind=2∨QK f.kind
 ·exact(h.2.2.1 hk).2.1
 ·rw[h.2.2.2.1 hk];decide
theorem i5K{f:Lr}(hwf:WfF f){x:Bs}(hx:x∈f.words):Xn x:=(d1D ((d1P f).1 hwf).1).2.2.2.2 x hx
theorem i8p(s:Wu)(g:Lr):∀(m:Nat) (f:Lr),SizeOf.sizeOf f≤m→WfF f→∀bd:List Bs,bd.length+ndF f≤100000→
 Evt (fun n=>XJ n f bd g.kind g.name g.words g.subs s.words s.WO s.parts) (fun r=>r=ZX s f bd):=by
 intro m
 induction m with
 |zero=>intro f h;cases f;simp only[Lr.mk.sizeOf_spec]at h;omega
 |succ m ih=>
  intro f hf hwf bd hbd
  have hnd:=d4V f
  have hws:=i4f hwf
  have hsl:=i2I hwf
  have hnl:=p5g hwf
  refine Evt.succ ?_
  simp only[XJ]
  refine Evt.WL (P:=ExP (fun t=>t=f.words.map (mkw s.words bd)) (fun _=>False)) ((Evt.range (fun k t=>t=(f.words.take k).map (mkw s.words bd)) (fun _=>False) (fun _=>False) (by simp) (fun k t hk ht=>?_)).mono fun e he=>?_) (fun t ht=>?_) (fun _ h=>h.elim)
  ·unfold d0y
   simp only[Xl,Option.bind_some]
   have hwl:=(i5K hwf (get_mem hk)).2.1
   have hsn:(f.words.take (k+1)).map (mkw s.words bd)=t++[mkw s.words bd (Am.get f.words k)]:=by rw[Xq hk,List.map_append,ht];rfl
   have htl:t.length=k:=by rw[ht,List.length_map,List.length_take];omega
   refine Evt.cond (fun e=>Evt.chk (by unfold Yk;simp;omega) (Evt.Zo (Evt.chk ?_ (Evt.pure ?_)))) (fun e=>Evt.cond (fun e2=>Evt.chk (by unfold Yk;simp;omega) (Evt.Zo (Evt.chk ?_ (Evt.pure ?_)))) (fun e2=>Evt.Zo (Evt.chk ?_ (Evt.pure ?_))))
   ·rw[Yl];simp only[List.length_append,List.length_cons,List.length_nil];omega
   ·replace e:=bx e
    show _=_
    rw[hsn];unfold mkw;rw[if_pos e];rfl
   ·rw[Yl];simp only[List.length_append,List.length_cons,List.length_nil];omega
   ·replace e:=bx e
    replace e2:=bx e2
    show _=_
    rw[hsn];unfold mkw;rw[if_neg e,if_pos e2];rfl
   ·rw[Yl];simp only[List.length_append,List.length_cons,List.length_nil];omega
   ·replace e:=bx e
    replace e2:=bx e2
    show _=_
    rw[hsn];unfold mkw;rw[if_neg e,if_neg e2]
  ·cases e with
   |ret r=>exact he
   |nxt t=>
    have:=he.elim id False.elim
    rw[List.take_length]at this
    exact this
  ·subst ht
   have key:∀(nm:Bs) (bd':List Bs),nm=mkn s f→(∀y,y∈bd'↔y∈(if QK f.kind then f.name::bd else bd))→bd'.length≤bd.length+1→
    Evt (fun n=>XF (XJ n) f g.kind g.name g.words g.subs s.words s.WO s.parts (f.words.map (mkw s.words bd)) (nm,bd')) (fun r=>r=ZX s f bd):=by
    intro nm bd' hnm hb hlen
    unfold XF
    refine Evt.WL (P:=ExP (fun t=>t=Za s f.subs bd') (fun _=>False)) ((Evt.range (fun k t=>t=Za s (f.subs.take k) bd') (fun _=>False) (fun _=>False) (by simp[Za]) (fun k t hk ht=>?_)).mono fun e he=>?_) (fun t ht=>?_) (fun _ h=>h.elim)
    ·unfold d0z
     have hsz:=XE hk
     have htk:=d0g hk
     refine Evt.bind (ih _ (by omega) (i0t hwf hk) bd' (by omega)) fun v hv=>Evt.Zo (Evt.chk ?_ (Evt.pure ?_))
     ·rw[Yl,ht];simp only[List.length_append,d6l,List.length_take,List.length_cons,List.length_nil];omega
     ·show _=_
      rw[hv,ht,Xq hk,i0A]
    ·cases e with
     |ret r=>exact he
     |nxt t=>
      have:=he.elim id False.elim
      rw[List.take_length]at this
      exact this
    ·unfold d0A
     refine Evt.pure ?_
     have ht:t=Za s f.subs bd':=ht
     rw[d2L,ht,hnm,d5U s f.subs _ _ hb]
   unfold d0B
   simp only[d1i,d5V,Xl,Option.bind_some]
   refine Evt.cond (fun e=>?_) (fun e=>?_)
   ·replace e:=bx e
    refine Evt.bind (P:=fun v=>v=bd) (Evt.pure rfl) fun v hv=>?_
    subst hv
    refine Evt.Zo (Evt.chk ?_ (Evt.chk (by unfold Yk;simp;omega) (key _ _ (by unfold mkn;rw[if_pos e];rfl) (fun y=>?_) (by simp))))
    ·rw[Yl];simp only[List.length_append,List.length_cons,List.length_nil];omega
    ·rw[if_pos e];simp[or_comm]
   ·replace e:=bx e
    have hb:∀y,y∈bd↔y∈(if QK f.kind then f.name::bd else bd):=fun y=>by rw[if_neg e]
    refine Evt.cond (fun e2=>?_) (fun e2=>?_)
    ·have e2:Yi s f:=of_decide_eq_true e2
     exact Evt.chk (by unfold Yk;simp;omega) (key _ _ (by unfold mkn;rw[if_neg e,if_pos e2];rfl) hb (by omega))
    ·have e2:¬Yi s f:=of_decide_eq_false e2
     refine Evt.bind (P:=fun v=>f.kind=2→v=decide (f.name∈s.WO)) (Evt.gd (fun g=>Evt.pure fun _=>rfl) (fun g h=>by simp[h]at g)) fun v hv=>?_
     refine Evt.cond (fun e3=>?_) (fun e3=>?_)
     ·replace e3:=bx e3
      have:=hv e3.1
      rw[e3.2]at this
      exact Evt.chk (by unfold Yk;simp;omega) (key _ _ (by unfold mkn;rw[if_neg e,if_neg e2,if_pos ⟨e3.1,of_decide_eq_true this.symm⟩];rfl) hb (by omega))
     ·refine key _ _ ?_ hb (by omega)
      unfold mkn
      rw[if_neg e,if_neg e2,if_neg fun h=>?_]
      rw[hv h.1]at e3
      simp[h.1,h.2]at e3
theorem d8m(c:UInt8)(l:List Bs)(hl:l.length≤1000000)(hx:∀x∈l,x.length≤1000000):Evt (fun _=>YR [c] l) (fun r=>r=l.map (c:: ·)):=by
 unfold YR
 refine Evt.WL (P:=ExP (fun t=>t=l.map (c:: ·)) (fun _=>False)) ((Evt.range (fun k t=>t=(l.take k).map (c:: ·)) (fun _=>False) (fun _=>False) (by simp) (fun k t hk ht=>?_)).mono fun e he=>?_) (fun t ht=>?_) (fun _ h=>h.elim)
 ·unfold d0C
  have:=hx _ (get_mem hk)
  refine Evt.chk (by unfold Yk;simp;omega) (Evt.Zo (Evt.chk ?_ (Evt.pure ?_)))
  ·rw[Yl,ht];simp only[List.length_append,List.length_map,List.length_take,List.length_cons,List.length_nil];omega
  ·show _=_
   rw[Xq hk,List.map_append,ht];rfl
 ·cases e with
  |ret r=>exact he
  |nxt t=>
   have:=he.elim id False.elim
   rw[List.take_length]at this
   exact this
 ·exact Evt.pure ht
def d3u(s:Wu):Wu:=⟨ZX s s.form [],s.words.map (46:: ·),s.WO.map (33:: ·),s.parts.map (43:: ·)⟩
theorem i5L{s:Wu}(h:d6s s):Evt (fun n=>d1w n s) (fun r=>r=d3u s):=by
 have hvl:=i2J s
 have hl:=h.len
 have hn:∀x∈vns s,x.length≤1000000:=fun x hx=>by have:=(h.name x hx).2.1;omega
 have hnd:=h.form.2.1
 unfold d1w
 refine Evt.bind (i8p s s.form _ s.form (Nat.le_refl _) h.form.1 [] (by simp;omega)) fun v1 hv1=>?_
 refine Evt.bind (d8m 46 s.words (by omega) fun x hx=>hn x (List.mem_append.2 (.inl (List.mem_append.2 (.inl hx))))) fun v2 hv2=>?_
 refine Evt.bind (d8m 33 s.WO (by omega) fun x hx=>hn x (List.mem_append.2 (.inl (List.mem_append.2 (.inr hx))))) fun v3 hv3=>?_
 refine Evt.bind (d8m 43 s.parts (by omega) fun x hx=>hn x (List.mem_append.2 (.inr hx))) fun v4 hv4=>?_
 subst hv1 hv2 hv3 hv4
 exact Evt.pure rfl
def zf:Lr:=.mk 0 [] [] []
abbrev Env:=List (Bs×Ws)
theorem d2y{V:Type}(k:Bs)(v:V):∀m:List (Bs×V),assoc k (Wz k v m)=some v
 | []=>by simp[Wz,assoc]
 |(a,u)::m=>by
  rw[Wz]
  split
  ·simp[assoc]
  ·rename_i h
   rw[assoc,if_neg h,d2y k v m]
theorem d4t{V:Type}{k k':Bs}(h:k'≠k)(v:V):∀m:List (Bs×V),assoc k' (Wz k v m)=assoc k' m
 | []=>by
   show(if k'=k then some v else assoc k' ([]:List (Bs×V)))=_
   rw[if_neg h]
 |(a,u)::m=>by
  rw[Wz]
  split
  ·rename_i e
   subst e
   rw[assoc,assoc,if_neg h,if_neg h]
  ·rw[assoc,assoc,d4t h v m]
open Classical in
noncomputable def d8S(env:Env)(b:Ws):Option Env:=match assoc b.name env with
 |none=>some (Wz b.name b env)
 |some b'=>if b'=b then some env else none
noncomputable def d1x:Env→List Ws→Option Env
 |env,[]=>some env
 |env,b::l=>(d8S env b).bind fun e=>d1x e l
theorem i6Y:∀(a b:List Ws) (env:Env),d1x env (a++b)=(d1x env a).bind fun e=>d1x e b
 | [],b,env=>rfl
 |x::a,b,env=>by
  rw[List.cons_append,d1x,d1x]
  cases d8S env x with
  |none=>rfl
  |some e=>exact i6Y a b e
theorem d5o{env e:Env}{b:Ws}(h:d8S env b=some e):assoc b.name e=some b∧(∀k c,assoc k env=some c→assoc k e=some c)∧(∀k c,assoc k e=some c→assoc k env=some c∨(b.name=k∧b=c)):=by
 unfold d8S at h
 split at h
 ·rename_i h0
  cases h
  refine⟨d2y _ _ _,fun k c hc=>?_,fun k c hc=>?_⟩
  ·by_cases e:k=b.name
   ·rw[e,h0]at hc;cases hc
   ·rw[d4t e];exact hc
  ·by_cases e:k=b.name
   ·rw[e,d2y]at hc
    exact .inr ⟨e.symm,Option.some.inj hc⟩
   ·rw[d4t e]at hc;exact .inl hc
 ·rename_i b' h0
  split at h
  ·rename_i hb
   cases h
   exact⟨by rw[h0,hb],fun k c hc=>hc,fun k c hc=>.inl hc⟩
  ·cases h
theorem d4u:∀(ps:List Ws) (env e:Env),d1x env ps=some e→(∀b∈ps,assoc b.name e=some b)∧(∀k c,assoc k env=some c→assoc k e=some c)∧(∀k c,assoc k e=some c→assoc k env=some c∨(∃b∈ps,b.name=k∧b=c))
 | [],env,e,h=>by cases h;exact⟨fun b hb=>(by cases hb),fun k c hc=>hc,fun k c hc=>.inl hc⟩
 |b::l,env,e,h=>by
  rw[d1x]at h
  cases hp:d8S env b with
  |none=>rw[hp]at h;cases h
  |some e1=>
   rw[hp]at h
   obtain⟨p1,p2,p3⟩:=d5o hp
   obtain⟨r1,r2,r3⟩:=d4u l e1 e h
   refine⟨fun c hc=>?_,fun k c hc=>r2 k c (p2 k c hc),fun k c hc=>?_⟩
   ·rcases List.mem_cons.1 hc with rfl|hc
    ·exact r2 _ _ p1
    ·exact r1 c hc
   ·rcases r3 k c hc with h|⟨x,hx,h1,h2⟩
    ·rcases p3 k c h with h|⟨h1,h2⟩
     ·exact .inl h
     ·exact .inr ⟨b,List.mem_cons_self ..,h1,h2⟩
    ·exact .inr ⟨x,List.mem_cons_of_mem _ hx,h1,h2⟩
def IsKey(k:Bs):Prop:=∃c t,k=c::t∧(c=33∨c=43∨c=46∨c=63)
theorem i2L{x:Bs}(h:Xn x):¬IsKey x:=fun⟨c,t,e,hc⟩=>by
 have:=h.2.2.1.1
 subst e
 rcases hc with rfl|rfl|rfl|rfl<;>simp[d2u]at this
def d8T(b:Ws):Prop:=SmF b.form∧((∃x,b.name=43::x∧b.text=[])∨(∃c x,b.name=c::x∧(c=33∨c=46∨c=63)∧b.form=zf))
def d5p(env:Env):Prop:=∀k b,assoc k env=some b→b.name=k∧d8T b
theorem i5M{env e:Env}{b:Ws}(h:d5p env)(hb:d8T b)(hp:d8S env b=some e):d5p e:=fun k c hc=>by
 rcases(d5o hp).2.2 k c hc with h1|⟨rfl,rfl⟩
 ·exact h k c h1
 ·exact⟨rfl,hb⟩
theorem i2M{env e:Env}{ps:List Ws}(h:d5p env)(hb:∀b∈ps,d8T b)(hp:d1x env ps=some e):d5p e:=fun k c hc=>by
 rcases(d4u _ _ _ hp).2.2 k c hc with h1|⟨b,hm,h1,h2⟩
 ·exact h k c h1
 ·subst h2;exact⟨h1,hb _ hm⟩
theorem d8T.key{b:Ws}(h:d8T b):IsKey b.name:=by
 rcases h.2 with⟨x,e,_⟩|⟨c,x,e,hc,_⟩
 ·exact⟨43,x,e,by simp⟩
 ·exact⟨c,x,e,by rcases hc with h|h|h<;>simp[h]⟩
theorem p8e:SmF zf:=by unfold zf;rw[SmF];exact⟨by decide,by decide,by rw[d8l];trivial⟩
theorem i5N{c:UInt8}{x y:Bs}(h:c=33∨c=46∨c=63):d8T ⟨c::x,y,zf⟩:=⟨p8e,.inr ⟨c,x,rfl,h,rfl⟩⟩
def cat(a b:Option (List Ws)):Option (List Ws):=a.bind fun x=>b.bind fun y=>some (x++y)
theorem d8n(a b:Option (List Ws))(s:Env):(cat a b).bind (d1x s)=(a.bind (d1x s)).bind fun s'=>b.bind (d1x s'):=by
 cases a with
 |none=>rfl
 |some x=>
  cases b with
  |none=>
   show none=(d1x s x).bind fun s'=>none
   cases d1x s x<;>rfl
  |some y=>exact i6Y x y s
theorem p2R(o:Option (List Ws))(b:Ws)(s:Env):(o.map (b:: ·)).bind (d1x s)=(d8S s b).bind fun s'=>o.bind (d1x s'):=by
 cases o with
 |none=>show none=_;cases d8S s b<;>rfl
 |some x=>rfl
def ptw(W bd:List Bs):List Bs→List Bs→Option (List Ws)
 |x::xs,y::ys=>if x∈bd then(ptw W bd xs ys).map (⟨63::x,y,zf⟩:: ·)else if x∈W then(ptw W bd xs ys).map (⟨46::x,y,zf⟩:: ·)else if x=y then ptw W bd xs ys else none
 | _,_=>some []
def pth(s:Wu)(f g:Lr):Option (List Ws):=
 if QK f.kind then some [⟨63::f.name,g.name,zf⟩]else if f.kind=2∧f.name∈s.WO then some [⟨33::f.name,g.name,zf⟩]else if f.name=g.name then some []else none
mutual
def pts(s:Wu):Lr→List Bs→Lr→Option (List Ws)
 | .mk k n w l,bd,g=>if Yi s (.mk k n w l)then some [⟨43::n,[],g⟩]
   else if k≠g.kind∨w.length≠g.words.length then none
   else cat (pth s (.mk k n w l) g) (cat (ptw s.words bd w g.words) (d6m s l (if QK k then n::bd else bd) g.subs))
def d6m(s:Wu):List Lr→List Bs→List Lr→Option (List Ws)
 | [],_,_=>some []
 |f::l,bd,gs=>match gs with
  | []=>some []
  |g::gs=>cat (pts s f bd g) (d6m s l bd gs)
end
theorem i4n(s:Wu)(f:Lr)(bd:List Bs)(g:Lr):pts s f bd g=if Yi s f then some [⟨43::f.name,[],g⟩]else if f.kind≠g.kind∨f.words.length≠g.words.length then none else cat (pth s f g) (cat (ptw s.words bd f.words g.words) (d6m s f.subs (if QK f.kind then f.name::bd else bd) g.subs)):=by cases f;rw[pts];rfl
theorem p0I{a b:Option (List Ws)}{Q:Ws→Prop}(ha:∀x,a=some x→∀c∈x,Q c)(hb:∀x,b=some x→∀c∈x,Q c):∀x,cat a b=some x→∀c∈x,Q c:=fun x hx c hc=>by
 unfold cat at hx
 cases a with
 |none=>cases hx
 |some y=>
  cases b with
  |none=>cases hx
  |some z=>
   cases hx
   rcases List.mem_append.1 hc with h|h
   ·exact ha y rfl c h
   ·exact hb z rfl c h
theorem p3S(W bd:List Bs):∀(xs ys:List Bs) (ps:List Ws),ptw W bd xs ys=some ps→∀b∈ps,d8T b
 | [],ys,ps,h,b,hb=>by rw[ptw]at h;cases h;cases hb;simp
 |x::xs,[],ps,h,b,hb=>by rw[ptw]at h;cases h;cases hb;simp
 |x::xs,y::ys,ps,h,b,hb=>by
  rw[ptw]at h
  have ih:=p3S W bd xs ys
  have mp:∀c:Ws,d8T c→(ptw W bd xs ys).map (c:: ·)=some ps→d8T b:=fun c hc h=>by
   cases hp:ptw W bd xs ys with
   |none=>rw[hp]at h;cases h
   |some q=>
    rw[hp]at h;cases h
    rcases List.mem_cons.1 hb with rfl|hb
    ·exact hc
    ·exact ih q hp b hb
  split at h
  ·exact mp _ (i5N (.inr (.inr rfl))) h
  ·split at h
   ·exact mp _ (i5N (.inr (.inl rfl))) h
   ·split at h
    ·exact ih ps h b hb
    ·cases h
theorem p8f(s:Wu)(f g:Lr)(ps:List Ws)(h:pth s f g=some ps):∀b∈ps,d8T b:=fun b hb=>by
 unfold pth at h
 split at h
 ·cases h
  rw[List.mem_singleton]at hb;subst hb
  exact i5N (.inr (.inr rfl))
 ·split at h
  ·cases h
   rw[List.mem_singleton]at hb;subst hb
   exact i5N (.inl rfl)
  ·split at h
   ·cases h;cases hb
   ·cases h
mutual
theorem i4o(s:Wu):∀(f:Lr) (bd:List Bs) (g:Lr),SmF g→∀ps,pts s f bd g=some ps→∀b∈ps,d8T b
 | .mk k n w l,bd,g,hg,ps,h,b,hb=>by
   rw[pts]at h
   split at h
   ·cases h
    rw[List.mem_singleton]at hb;subst hb
    exact⟨hg,.inl ⟨n,rfl,rfl⟩⟩
   ·split at h
    ·cases h
    ·exact p0I (fun x hx=>p8f s _ g x hx) (p0I (fun x hx=>p3S _ _ _ _ x hx) (fun x hx=>p0J s l _ g.subs ((i0z g).1 hg).2.2 x hx)) ps h b hb
theorem p0J(s:Wu):∀(l:List Lr) (bd:List Bs) (gs:List Lr),d8l gs→∀ps,d6m s l bd gs=some ps→∀b∈ps,d8T b
 | [],bd,gs,hg,ps,h,b,hb=>by rw[d6m]at h;cases h;cases hb
 |f::l,bd,[],hg,ps,h,b,hb=>by rw[d6m]at h;cases h;cases hb
 |f::l,bd,g::gs,hg,ps,h,b,hb=>by
  rw[d6m]at h
  rw[d8l]at hg
  exact p0I (fun x hx=>i4o s f bd g hg.1 x hx) (fun x hx=>p0J s l bd gs hg.2 x hx) ps h b hb
end
theorem p2S(a b:List Bs):XM a b=some (decide (a=b)):=by
 have h:Evt (fun _=>XM a b) (fun r=>r=decide (a=b)):=by
  unfold XM
  refine Evt.cond (fun e=>Evt.pure ?_) (fun e=>?_)
  ·replace e:=bx e
   exact(decide_eq_false fun h=>e (by rw[h])).symm
  replace e:=bx e
  have hl:a.length=b.length:=by omega
  refine Evt.WL (Evt.scan (fun k _=>a.take k=b.take k) (fun k r=>r=false∧Am.get a k≠Am.get b k) (by simp) (fun k u hk hi=>?_)) (fun t ht=>?_) (fun r hr=>?_)
  ·unfold Yz
   refine Evt.chk (by omega) (Evt.cond (fun e=>Evt.pure ?_) (fun e=>Evt.pure ?_))
   ·replace e:=bx e
    exact⟨rfl,e⟩
   ·replace e:=bx e
    show a.take (k+1)=b.take (k+1)
    rw[Xq hk,Xq (l:=b) (by omega),hi,e]
  ·unfold YA
   refine Evt.pure (decide_eq_true ?_).symm
   have ht:a.take a.length=b.take a.length:=ht
   rw[List.take_length,hl,List.take_length]at ht
   exact ht
  ·obtain⟨k,_,_,_,rfl,h⟩:=hr
   exact(decide_eq_false fun e=>h (by rw[e])).symm
 obtain⟨r,rfl,N,hN⟩:=h
 exact hN N (Nat.le_refl _)
open Classical in
theorem p0K:∀(m:Nat) (f:Lr),SizeOf.sizeOf f≤m→SmF f→∀g:Lr,Evt (fun n=>d2q n f g) (fun r=>r=decide (f=g)):=by
 intro m
 induction m with
 |zero=>intro f h;cases f;simp only[Lr.mk.sizeOf_spec]at h;omega
 |succ m ih=>
  intro f hf hsm g
  obtain⟨_,hsl,hsm⟩:=(i0z f).1 hsm
  refine Evt.succ ?_
  simp only[d2q,p2S]
  refine Evt.bind (P:=fun v=>f.kind=g.kind→f.name=g.name→v=decide (f.words=g.words)) (Evt.gd (fun _=>Evt.pure fun _ _=>by congr) (fun h h1 h2=>by simp[h1,h2]at h)) fun v hv=>?_
  refine Evt.cond (fun e=>Evt.pure (decide_eq_false fun h=>?_).symm) (fun e=>?_)
  ·subst h
   have:=hv rfl rfl
   simp[this]at e
  have e1:f.kind=g.kind:=Classical.byContradiction fun h=>by simp[h]at e
  have e2:f.name=g.name:=Classical.byContradiction fun h=>by simp[h]at e
  have e3:f.words=g.words:=Classical.byContradiction fun h=>by have:=hv e1 e2;rw[decide_eq_false h]at this;simp[this]at e
  have e4:f.subs.length=g.subs.length:=Classical.byContradiction fun h=>by
   have:¬((f.subs.length:Int)=(g.subs.length:Int)):=by omega
   rw[decide_eq_false this]at e
   revert e
   cases (bif bif !decide (f.kind=g.kind)then true else !decide (f.name=g.name)then true else !v)<;>simp
  refine Evt.chk (by omega) (Evt.WL (Evt.scan (fun k _=>f.subs.take k=g.subs.take k) (fun k r=>r=false∧Am.get f.subs k≠Am.get g.subs k) (by simp) (fun k u hk hi=>?_)) (fun t ht=>?_) (fun r hr=>?_))
  ·unfold d3l
   have hsz:=XE hk
   refine Evt.chk (by omega) (Evt.bind (ih _ (by omega) (d7C hsm _ (get_mem hk)) _) fun v2 hv2=>Evt.cond (fun e=>Evt.pure ?_) (fun e=>Evt.pure ?_))
   ·subst hv2
    exact⟨rfl,fun h=>by rw[decide_eq_true h]at e;cases e⟩
   ·subst hv2
    have h:Am.get f.subs k=Am.get g.subs k:=Classical.byContradiction fun h=>by rw[decide_eq_false h]at e;cases e
    show f.subs.take (k+1)=g.subs.take (k+1)
    rw[Xq hk,Xq (l:=g.subs) (by omega),hi,h]
  ·unfold d3m
   refine Evt.pure (decide_eq_true ?_).symm
   have ht:f.subs.take f.subs.length=g.subs.take f.subs.length:=ht
   rw[List.take_length,e4,List.take_length]at ht
   cases f;cases g
   simp only[Lr.kind,Lr.name,Lr.words,Lr.subs]at*
   rw[e1,e2,e3,ht]
  ·obtain⟨k,_,_,_,rfl,h⟩:=hr
   exact(decide_eq_false fun e=>h (by rw[e])).symm
def RM(o:Option Env)(r:Bool×Env):Prop:=(∀e,o=some e→r=(true,e))∧(o=none→r.1=false)
theorem i0B{env:Env}(he:d5p env){c:UInt8}(hc:c=33∨c=46∨c=63)(x y:Bs):Evt (fun _=>Zu (c::x) y env) (RM (d8S env ⟨c::x,y,zf⟩)):=by
 unfold Zu d8S
 cases h:assoc (c::x) env with
 |none=>
  refine Evt.cond (fun e=>by simp at e) (fun _=>Evt.Zo (Evt.pure ?_))
  simp only[h]
  exact⟨fun e he=>by cases he;rfl,fun he=>by cases he⟩
 |some b=>
  refine Evt.cond (fun _=>Evt.pure ?_) (fun e=>by simp at e)
  simp only[h]
  obtain⟨h1,h2⟩:=he _ _ h
  have hiff:b=⟨c::x,y,zf⟩↔b.text=y:=by
   constructor
   ·intro e;rw[e]
   ·intro e
    obtain⟨_,h2⟩:=h2
    rcases h2 with⟨z,e1,_⟩|⟨c',z,e1,hc',e2⟩
    ·rw[h1]at e1
     have:=(List.cons.inj e1).1
     rcases hc with rfl|rfl|rfl<;>cases this
    ·cases b
     simp only at h1 e2 e
     rw[h1,e,e2]
  by_cases hb:b.text=y
  ·rw[if_pos (hiff.2 hb)]
   refine⟨fun e he=>?_,fun he=>by cases he⟩
   cases he
   show(decide (((some b).getD default).text=y),env)=_
   rw[decide_eq_true (show((some b).getD default).text=y from hb)]
  ·rw[if_neg fun e=>hb (hiff.1 e)]
   exact⟨fun e he=>(by cases he),fun _=>decide_eq_false hb⟩
def Has(bd:List Bs)(env:Env):Prop:=∀x∈bd,(assoc (63::x) env).isSome=true
theorem Has.mono{bd:List Bs}{env e:Env}(h:Has bd env)(hm:∀k c,assoc k env=some c→assoc k e=some c):Has bd e:=fun x hx=>by
 obtain⟨c,hc⟩:=Option.isSome_iff_exists.1 (h x hx)
 rw[hm _ _ hc];rfl
theorem d4v{c:UInt8}{x:Bs}{l:List Bs}:(c::x)∈l.map (c:: ·)↔x∈l:=by
 rw[List.mem_map]
 exact⟨fun⟨y,hy,e⟩=>(List.cons.inj e).2▸hy,fun h=>⟨x,h,rfl⟩⟩
theorem i5O{c:UInt8}(hc:c=33∨c=43∨c=46∨c=63){k:Bs}{l:List Bs}(h:k∈l.map (c:: ·)):IsKey k:=by
 obtain⟨y,_,rfl⟩:=List.mem_map.1 h
 exact⟨c,y,rfl,hc⟩
theorem p2T{env:Env}(he:d5p env){x:Bs}(hx:¬IsKey x):assoc x env=none:=by
 cases h:assoc x env with
 |none=>rfl
 |some b=>
  obtain⟨h1,h2⟩:=he _ _ h
  exact absurd (h1▸h2.key) hx
section
variable {s:Wu}
theorem i6Z{xs:List Bs}{k:Nat}(h:k<xs.length):xs.drop k=Am.get xs k::xs.drop (k+1):=p5e h
theorem p5h(W bd ys:List Bs):ptw W bd [] ys=some []:=by cases ys<;>simp[ptw]
theorem i7a(env:Env)(b:Ws):d1x env [b]=d8S env b:=by
 rw[d1x]
 cases d8S env b<;>rfl
theorem i7b{f g:Lr}(hf:WfF f)(hlen:f.words.length=g.words.length)(bd:List Bs){env:Env}(he:d5p env)(hh:Has bd env):
 Evt (fun _=>Xc (d0o (ZX s f bd) (d3u s) g) (ZX s f bd).words.length env) (ExP (fun t=>(ptw s.words bd f.words g.words).bind (d1x env)=some t∧d5p t∧Has bd t) (fun r=>(ptw s.words bd f.words g.words).bind (d1x env)=none∧r.1=false)):=by
 have hml:(ZX s f bd).words.length=f.words.length:=by rw[d2L];exact List.length_map _
 rw[hml]
 refine(Evt.range (fun k t=>(ptw s.words bd f.words g.words).bind (d1x env)=(ptw s.words bd (f.words.drop k) (g.words.drop k)).bind (d1x t)∧d5p t∧Has bd t) (fun _=>False) (fun r=>(ptw s.words bd f.words g.words).bind (d1x env)=none∧r.1=false) ⟨rfl,he,hh⟩ (fun k t hk ht=>?_)).mono fun e h=>?_
 ·obtain⟨ht,hte,hth⟩:=ht
  have hkg:k<g.words.length:=by omega
  have hkm:Am.get (ZX s f bd).words k=mkw s.words bd (Am.get f.words k):=by rw[d2L];exact get_map _ hk
  rw[i6Z hk,i6Z hkg,ptw]at ht
  unfold d0o
  simp only[hkm,Xl]
  have nx:¬IsKey (Am.get f.words k):=i2L (i5K hf (get_mem hk))
  have fin:∀(c:UInt8),c=46∨c=63→(ptw s.words bd f.words g.words).bind (d1x env)=((ptw s.words bd (f.words.drop (k+1)) (g.words.drop (k+1))).map (⟨c::Am.get f.words k,Am.get g.words k,zf⟩:: ·)).bind (d1x t)→
   Evt (fun _:Nat=>chk ((k:Int)<(g.words.length:Int)) <| (Zu (c::Am.get f.words k) (Am.get g.words k) t).bind fun v14=>bif (!v14.1)then some (Ctl.ret (τ:=Env) (false,v14.2))else some (.nxt v14.2)) (p3L (fun t=>(ptw s.words bd f.words g.words).bind (d1x env)=(ptw s.words bd (f.words.drop (k+1)) (g.words.drop (k+1))).bind (d1x t)∧d5p t∧Has bd t) (fun _=>False) (fun r=>(ptw s.words bd f.words g.words).bind (d1x env)=none∧r.1=false)):=by
   intro c hc ht
   rw[p2R]at ht
   refine Evt.chk (by omega) (Evt.bind (i0B hte (hc.elim (fun h=>.inr (.inl h)) fun h=>.inr (.inr h)) _ _) fun v hv=>?_)
   cases hp:d8S t ⟨c::Am.get f.words k,Am.get g.words k,zf⟩with
   |none=>
    rw[hp]at ht hv
    have h1:=hv.2 rfl
    refine Evt.cond (fun _=>Evt.pure ⟨ht,rfl⟩) (fun e=>by rw[h1]at e;cases e)
   |some t'=>
    rw[hp]at ht hv
    have h1:=hv.1 _ rfl
    subst h1
    refine Evt.cond (fun e=>by cases e) (fun _=>Evt.pure ⟨ht,i5M hte (i5N (hc.elim (fun h=>.inr (.inl h)) fun h=>.inr (.inr h))) hp,hth.mono (d5o hp).2.1⟩)
  by_cases h1:Am.get f.words k∈bd
  ·rw[if_pos h1]at ht
   have e1:mkw s.words bd (Am.get f.words k)=63::Am.get f.words k:=by unfold mkw;rw[if_pos h1]
   rw[e1]
   have h2:=hth _ h1
   simp only[h2]
   exact fin 63 (.inr rfl) ht
  ·rw[if_neg h1]at ht
   by_cases h2:Am.get f.words k∈s.words
   ·rw[if_pos h2]at ht
    have e1:mkw s.words bd (Am.get f.words k)=46::Am.get f.words k:=by unfold mkw;rw[if_neg h1,if_pos h2]
    rw[e1]
    have h3:decide (46::Am.get f.words k∈(d3u s).words)=true:=decide_eq_true (d4v.2 h2)
    simp only[h3]
    cases h4:(assoc (46::Am.get f.words k) t).isSome
    ·exact fin 46 (.inl rfl) ht
    ·exact fin 46 (.inl rfl) ht
   ·rw[if_neg h2]at ht
    have e1:mkw s.words bd (Am.get f.words k)=Am.get f.words k:=by unfold mkw;rw[if_neg h1,if_neg h2]
    rw[e1]
    have h3:(assoc (Am.get f.words k) t).isSome=false:=by rw[p2T hte nx];rfl
    have h4:decide (Am.get f.words k∈(d3u s).words)=false:=decide_eq_false fun h=>nx (i5O (.inr (.inr (.inl rfl))) h)
    simp only[h3,h4]
    refine Evt.chk (by omega) (Evt.cond (fun e=>Evt.pure ?_) (fun e=>Evt.pure ?_))
    ·replace e:=bx e
     rw[if_neg e]at ht
     exact⟨ht,rfl⟩
    ·replace e:=bx e
     rw[if_pos e]at ht
     exact⟨ht,hte,hth⟩
 ·cases e with
  |ret r=>exact h
  |nxt t=>
   obtain⟨h1,h2,h3⟩:=h.elim id False.elim
   rw[List.drop_length,p5h]at h1
   exact⟨h1,h2,h3⟩
open Classical in
theorem p8g:∀(m:Nat) (f:Lr),SizeOf.sizeOf f≤m→WfF f→∀(g:Lr),WfF g→∀(bd:List Bs) (env:Env),d5p env→Has bd env→
 Evt (fun n=>Xa n (d3u s) (ZX s f bd) g env) (RM ((pts s f bd g).bind (d1x env))):=by
 intro m
 induction m with
 |zero=>intro f h;cases f;simp only[Lr.mk.sizeOf_spec]at h;omega
 |succ m ih=>
  intro f hf hwf g hwg bd env he hh
  have hnf:=d1D ((d1P f).1 hwf).1
  have hng:=d1D ((d1P g).1 hwg).1
  have hml:(ZX s f bd).words.length=f.words.length:=by rw[d2L];exact List.length_map _
  have hmk:(ZX s f bd).kind=f.kind:=by rw[d2L];rfl
  have hmn:(ZX s f bd).name=mkn s f:=by rw[d2L];rfl
  have hms:(ZX s f bd).subs=Za s f.subs (if QK f.kind then f.name::bd else bd):=by rw[d2L];rfl
  have hk2:f.kind=2→¬QK f.kind:=fun h=>by unfold QK;omega
  have hplain:f.kind=2→¬IsKey f.name:=fun h=>i2L (hnf.2.2.1 (.inl h))
  have hpart:Yi (d3u s) (ZX s f bd)↔Yi s f:=by
   unfold Yi
   rw[hmk,hml,hmn]
   constructor
   ·rintro⟨h1,h2⟩
    refine⟨h1,?_⟩
    unfold mkn at h2
    rw[if_neg (hk2 h1.1)]at h2
    split at h2
    ·rename_i h3;exact h3.2
    ·exfalso
     obtain⟨y,_,e⟩:=List.mem_map.1 h2
     split at e
     ·cases (List.cons.inj e).1
     ·exact hplain h1.1 (e▸ ⟨43,y,rfl,by simp⟩)
   ·rintro⟨h1,h2⟩
    refine⟨h1,?_⟩
    unfold mkn
    rw[if_neg (hk2 h1.1),if_pos (show Yi s f from⟨h1,h2⟩)]
    exact d4v.2 h2
  refine Evt.succ ?_
  simp only[Xa,d5V,Option.bind_some,d1i,Xl,hmk,hml,hmn]
  rw[i4n]
  refine Evt.cond (fun e=>?_) (fun e=>?_)
  ·have hp:Yi s f:=hpart.1 (of_decide_eq_true e)
   rw[if_pos hp]
   have r0m:mkn s f=43::f.name:=by unfold mkn;rw[if_neg (hk2 hp.1.1),if_pos hp]
   rw[r0m]
   show Evt _ (RM (d1x env [_]))
   rw[i7a]
   unfold d8S
   cases h:assoc (43::f.name) env with
   |none=>
    refine Evt.cond (fun e=>by simp at e) (fun _=>Evt.Zo (Evt.pure ?_))
    exact⟨fun e he=>by cases he;rfl,fun he=>by cases he⟩
   |some b=>
    refine Evt.cond (fun _=>?_) (fun e=>by simp at e)
    obtain⟨h1,h2⟩:=he _ _ h
    have hsm:=h2.1
    have htx:b.text=[]:=by
     rcases h2.2 with⟨z,e1,e2⟩|⟨c',z,e1,hc',e2⟩
     ·exact e2
     ·rw[h1]at e1
      have:=(List.cons.inj e1).1
      rcases hc' with rfl|rfl|rfl<;>cases this
    have hiff:b=⟨43::f.name,[],g⟩↔b.form=g:=by
     constructor
     ·intro e;rw[e]
     ·intro e
      cases b
      simp only at h1 htx e
      rw[h1,htx,e]
    refine Evt.bind (p0K _ b.form (Nat.le_refl _) hsm g) fun v hv=>Evt.pure ?_
    subst hv
    by_cases hb:b.form=g
    ·simp only[if_pos (hiff.2 hb),decide_eq_true hb]
     exact⟨fun e he=>by cases he;rfl,fun he=>by cases he⟩
    ·simp only[if_neg fun e=>hb (hiff.1 e),decide_eq_false hb]
     exact⟨fun e he=>(by cases he),fun _=>rfl⟩
  have hp:¬Yi s f:=fun h=>(of_decide_eq_false e) (hpart.2 h)
  rw[if_neg hp]
  refine Evt.cond (fun e=>Evt.pure ?_) (fun e=>?_)
  ·have hc:f.kind≠g.kind∨f.words.length≠g.words.length:=Classical.byContradiction fun h=>by
    obtain⟨h1,h2⟩:=not_or.1 h
    have h1:=Classical.not_not.1 h1
    have h2:=Classical.not_not.1 h2
    simp[h1,h2]at e
   rw[if_pos hc]
   exact⟨fun e he=>(by cases he),fun _=>rfl⟩
  have hk:f.kind=g.kind:=Classical.byContradiction fun h=>by simp[h]at e
  have hl:f.words.length=g.words.length:=Classical.byContradiction fun h=>by
   have:¬((f.words.length:Int)=(g.words.length:Int)):=by omega
   simp[this]at e
  rw[if_neg fun h=>h.elim (fun h=>h hk) (fun h=>h hl),d8n]
  have hsl:f.subs.length=g.subs.length:=by have:=hnf.1;have:=hng.1;rw[hk]at *; omega
  have rest:∀i8q:Env,d5p i8q→Has bd i8q→Has (if QK f.kind then f.name::bd else bd) i8q→Evt (fun n=>Yb (Xa n) (ZX s f bd) (d3u s) g i8q) (RM ((cat (ptw s.words bd f.words g.words) (d6m s f.subs (if QK f.kind then f.name::bd else bd) g.subs)).bind (d1x i8q))):=by
   intro i8q he1 hh1 r0n
   rw[d8n]
   unfold Yb
   refine Evt.WL (i7b hwf hl bd he1 hh1) (fun t ht=>?_) (fun r hr=>?_)
   ·obtain⟨ht,hte,hth⟩:=ht
    have hmono:Has (if QK f.kind then f.name::bd else bd) t:=by
     cases hw:ptw s.words bd f.words g.words with
     |none=>rw[hw]at ht;cases ht
     |some ps=>rw[hw]at ht;exact r0n.mono (d4u _ _ _ ht).2.1
    rw[ht]
    unfold d0p
    rw[hms,d6l]
    refine Evt.WL (P:=ExP (fun t'=>(d6m s f.subs (if QK f.kind then f.name::bd else bd) g.subs).bind (d1x t)=some t') (fun r=>(d6m s f.subs (if QK f.kind then f.name::bd else bd) g.subs).bind (d1x t)=none∧r.1=false)) ((Evt.range (fun k t'=>(d6m s f.subs (if QK f.kind then f.name::bd else bd) g.subs).bind (d1x t)=(d6m s (f.subs.drop k) (if QK f.kind then f.name::bd else bd) (g.subs.drop k)).bind (d1x t')∧d5p t'∧Has (if QK f.kind then f.name::bd else bd) t') (fun _=>False) (fun r=>(d6m s f.subs (if QK f.kind then f.name::bd else bd) g.subs).bind (d1x t)=none∧r.1=false) ⟨rfl,hte,hmono⟩ (fun k t' hk ht'=>?_)).mono fun e h=>?_) (fun t' ht'=>?_) (fun r hr=>?_)
    ·obtain⟨ht',p8h,p8i⟩:=ht'
     have hkg:k<g.subs.length:=by omega
     have hkm:Am.get (ZX s f bd).subs k=ZX s (Am.get f.subs k) (if QK f.kind then f.name::bd else bd):=by
      rw[hms]
      have:∀(l:List Lr) (bd:List Bs) (k:Nat),k<l.length→Am.get (Za s l bd) k=ZX s (Am.get l k) bd:=by
       intro l
       induction l with
       |nil=>intro bd k h;cases h
       |cons a l ih=>
        intro bd k h
        rw[Za]
        cases k with
        |zero=>rfl
        |succ k=>exact ih bd k (by simpa using h)
      exact this _ _ _ hk
     have e1:f.subs.drop k=Am.get f.subs k::f.subs.drop (k+1):=by rw[List.drop_eq_getElem_cons hk];simp[Am.get,hk]
     have e2:g.subs.drop k=Am.get g.subs k::g.subs.drop (k+1):=by rw[List.drop_eq_getElem_cons hkg];simp[Am.get,hkg]
     rw[e1,e2,d6m,d8n]at ht'
     unfold d0q
     simp only[hkm]
     have hsz:=XE hk
     refine Evt.chk (by omega) (Evt.bind (ih _ (by omega) (i0t hwf hk) _ (i0t hwg hkg) _ t' p8h p8i) fun v hv=>?_)
     cases hp:(pts s (Am.get f.subs k) (if QK f.kind then f.name::bd else bd) (Am.get g.subs k)).bind (d1x t')with
     |none=>
      rw[hp]at ht' hv
      have h1:=hv.2 rfl
      exact Evt.cond (fun _=>Evt.pure ⟨ht',rfl⟩) (fun e=>by rw[h1]at e;cases e)
     |some t''=>
      rw[hp]at ht' hv
      have h1:=hv.1 _ rfl
      subst h1
      refine Evt.cond (fun e=>by cases e) (fun _=>Evt.pure ⟨ht',?_,?_⟩)
      ·cases hq:pts s (Am.get f.subs k) (if QK f.kind then f.name::bd else bd) (Am.get g.subs k)with
       |none=>rw[hq]at hp;cases hp
       |some ps=>rw[hq]at hp;exact i2M p8h (i4o s _ _ _ (WfF.sm _ (i0t hwg hkg)) ps hq) hp
      ·cases hq:pts s (Am.get f.subs k) (if QK f.kind then f.name::bd else bd) (Am.get g.subs k)with
       |none=>rw[hq]at hp;cases hp
       |some ps=>rw[hq]at hp;exact p8i.mono (d4u _ _ _ hp).2.1
    ·cases e with
     |ret r=>exact h
     |nxt t'=>
      obtain⟨h1,h2,h3⟩:=h.elim id False.elim
      rw[List.drop_length,d6m]at h1
      exact h1
    ·unfold d0r
     have ht':(d6m s f.subs (if QK f.kind then f.name::bd else bd) g.subs).bind (d1x t)=some t':=ht'
     refine Evt.pure ?_
     show RM ((some t).bind _) _
     rw[Option.bind_some,ht']
     exact⟨fun e he=>by cases he;rfl,fun he=>by cases he⟩
    ·show RM ((some t).bind _) _
     rw[Option.bind_some,hr.1]
     exact⟨fun e he=>(by cases he),fun _=>hr.2⟩
   ·rw[hr.1]
    exact⟨fun e he=>(by cases he),fun _=>hr.2⟩
  have p8j:∀c:UInt8,c=33∨c=63→mkn s f=c::f.name→pth s f g=some [⟨c::f.name,g.name,zf⟩]→(QK f.kind→c=63)→Evt (fun n=>Xv (Xa n) (ZX s f bd) g env (d3u s) true) (RM (((pth s f g).bind (d1x env)).bind fun s'=>(cat (ptw s.words bd f.words g.words) (d6m s f.subs (if QK f.kind then f.name::bd else bd) g.subs)).bind (d1x s'))):=by
   intro c hc hm hpt hq
   have hc3:c=33∨c=46∨c=63:=hc.elim .inl fun h=>.inr (.inr h)
   unfold Xv
   simp only[cond_true,hmn,hm,hpt]
   have e0:(some [(⟨c::f.name,g.name,zf⟩:Ws)]).bind (d1x env)=d8S env ⟨c::f.name,g.name,zf⟩:=by
    show d1x env [_]=_
    rw[d1x]
    cases d8S env ⟨c::f.name,g.name,zf⟩<;>rfl
   rw[e0]
   refine Evt.bind (i0B he hc3 f.name g.name) fun v hv=>?_
   cases hp:d8S env ⟨c::f.name,g.name,zf⟩with
   |none=>
    rw[hp]at hv
    have h1:=hv.2 rfl
    exact Evt.cond (fun _=>Evt.pure ⟨fun e he=>(by cases he),fun _=>rfl⟩) (fun e=>by rw[h1]at e;cases e)
   |some t=>
    rw[hp]at hv
    have h1:=hv.1 _ rfl
    subst h1
    refine Evt.cond (fun e=>by cases e) (fun _=>?_)
    have hm1:=hh.mono (d5o hp).2.1
    refine rest t (i5M he (i5N hc3) hp) hm1 ?_
    by_cases hqk:QK f.kind
    ·rw[if_pos hqk]
     intro x hx
     rcases List.mem_cons.1 hx with rfl|hx
     ·have:=(d5o hp).1
      obtain rfl:=hq hqk
      show(assoc (63::f.name) t).isSome=true
      rw[show assoc (63::f.name) t=some _ from this];rfl
     ·exact hm1 x hx
    ·rw[if_neg hqk];exact hm1
  refine Evt.cond (fun e=>?_) (fun e=>?_)
  ·have hq:QK f.kind:=of_decide_eq_true e
   rw[e]
   exact p8j 63 (.inr rfl) (by unfold mkn;rw[if_pos hq]) (by unfold pth;rw[if_pos hq]) (fun _=>rfl)
  ·have hq:¬QK f.kind:=of_decide_eq_false e
   have i8r:mkn s f=if f.kind=2∧f.name∈s.WO then 33::f.name else f.name:=by unfold mkn;rw[if_neg hq,if_neg hp]
   refine Evt.bind (P:=fun v=>f.kind=2→v=decide (mkn s f∈(d3u s).WO)) (Evt.gd (fun _=>Evt.pure fun _=>rfl) (fun g h=>by simp[h]at g)) fun v hv=>?_
   by_cases hpr:f.kind=2∧f.name∈s.WO
   ·rw[if_pos hpr]at i8r
    have h1:=hv hpr.1
    rw[i8r,decide_eq_true (show(33::f.name:Bs)∈(d3u s).WO from d4v.2 hpr.2)]at h1
    have e2:(bif decide (f.kind=2)then v else false)=true:=by simp[hpr.1,h1]
    rw[e2]
    exact p8j 33 (.inl rfl) i8r (by unfold pth;rw[if_neg hq,if_pos hpr]) (fun h=>absurd h hq)
   ·rw[if_neg hpr]at i8r
    have e2:(bif decide (f.kind=2)then v else false)=false:=by
     by_cases h2:f.kind=2
     ·have h1:=hv h2
      rw[i8r,decide_eq_false (show ¬f.name∈(d3u s).WO from fun h=>hplain h2 (i5O (.inl rfl) h))]at h1
      simp[h1]
     ·simp[h2]
    rw[e2]
    have hpt:pth s f g=if f.name=g.name then some []else none:=by unfold pth;rw[if_neg hq,if_neg hpr]
    unfold Xv
    simp only[cond_false,hmn,i8r,hpt]
    refine Evt.cond (fun e=>Evt.pure ?_) (fun e=>?_)
    ·replace e:=bx e
     rw[if_neg e]
     exact⟨fun e he=>(by cases he),fun _=>rfl⟩
    ·replace e:=bx e
     rw[if_pos e]
     exact rest env he hh (by rw[if_neg hq];exact hh)
end
mutual
theorem i7c(s:Wu):∀(f:Lr) (bd:List Bs),ndF (ZX s f bd)=ndF f
 | .mk k n w l,bd=>by rw[ZX,ndF,ndF,i4p s l]
theorem i4p(s:Wu):∀(l:List Lr) (bd:List Bs),Zr (Za s l bd)=Zr l
 | [],bd=>by rw[Za]
 |f::l,bd=>by rw[Za,Zr,Zr,i7c s f,i4p s l]
end
mutual
theorem i7d(s:Wu):∀(f:Lr) (bd:List Bs),qs (ZX s f bd)=(qs f).map (63:: ·)
 | .mk k n w l,bd=>by
   rw[ZX,qs,qs,i4q s l,List.map_append]
   by_cases h:QK k
   ·have:mkn s (.mk k n w l)=63::n:=by unfold mkn;exact if_pos h
    simp only[if_pos h,this];rfl
   ·simp only[if_neg h];rfl
theorem i4q(s:Wu):∀(l:List Lr) (bd:List Bs),qsL (Za s l bd)=(qsL l).map (63:: ·)
 | [],bd=>by rw[Za,qsL];rfl
 |f::l,bd=>by rw[Za,qsL,qsL,i7d s f,i4q s l,List.map_append]
end
theorem p2U:∀(m:Nat) (f:Lr),SizeOf.sizeOf f≤m→SmF f→Evt (fun n=>d1y n f) (fun r=>r=f):=by
 intro m
 induction m with
 |zero=>intro f h;cases f;simp only[Lr.mk.sizeOf_spec]at h;omega
 |succ m ih=>
  intro f hf hsm
  obtain⟨_,hsl,hsm⟩:=(i0z f).1 hsm
  refine Evt.succ ?_
  simp only[d1y,Zf,Option.bind_some]
  refine Evt.WL (P:=ExP (fun t=>t=f.subs) (fun _=>False)) ((Evt.range (fun k t=>t=f.subs.take k) (fun _=>False) (fun _=>False) (by simp) (fun k t hk ht=>?_)).mono fun e he=>?_) (fun t ht=>?_) (fun _ h=>h.elim)
  ·unfold d2M
   have hsz:=XE hk
   refine Evt.bind (ih _ (by omega) (d7C hsm _ (get_mem hk))) fun v hv=>Evt.Zo (Evt.chk ?_ (Evt.pure ?_))
   ·rw[Yl,ht];simp only[List.length_append,List.length_take,List.length_cons,List.length_nil];omega
   ·show _=_
    rw[hv,ht,Xq hk]
  ·cases e with
   |ret r=>exact he
   |nxt t=>
    have:=he.elim id False.elim
    rw[List.take_length]at this
    exact this
  ·have ht:t=f.subs:=ht
   subst ht
   unfold d2N
   refine Evt.pure ?_
   cases f;rfl
theorem i4r(x:Bs)(l:List Bs)(hl:l.length≤8000000):WZ x l=some (decide (x∈l)):=by
 have h:Evt (fun _=>WZ x l) (fun r=>r=decide (x∈l)):=by
  unfold WZ YI
  refine Evt.bind (P:=fun r=>0≤r↔x∈l) (Evt.chk (by omega) (Evt.WL (Evt.scan (fun k _=>∀j,j<k→Am.get l j≠x) (fun k r=>r=(k:Int)∧Am.get l k=x) (fun j hj=>absurd hj (Nat.not_lt_zero _)) (fun k u hk hi=>?_)) (fun t ht=>?_) (fun r hr=>?_))) fun v hv=>Evt.pure ?_
  ·unfold Yf
   refine Evt.cond (fun e=>Evt.pure ?_) (fun e=>Evt.pure ?_)
   ·replace e:=bx e
    exact⟨rfl,e.symm⟩
   ·replace e:=bx e
    intro j hj
    by_cases ej:j=k
    ·subst ej;exact fun h=>e h.symm
    ·exact hi j (by omega)
  ·unfold Yg
   refine Evt.pure ⟨fun h=>absurd h (by decide),fun h=>?_⟩
   obtain⟨j,hj,e⟩:=d1g.1 h
   exact absurd e (ht j hj)
  ·obtain⟨k,_,hk,_,rfl,e⟩:=hr
   exact⟨fun _=>d1g.2 ⟨k,hk,e⟩,fun _=>by omega⟩
  ·by_cases h:x∈l
   ·simp[h,hv.2 h]
   ·have h3:¬0≤v:=fun h2=>h (hv.1 h2)
    simp only[h,h3,decide_false]
 obtain⟨r,rfl,N,hN⟩:=h
 exact hN N (Nat.le_refl _)
def d3A(s:Wu):List Bs:=(s.words.map (46:: ·)++s.WO.map (33:: ·)++s.parts.map (43:: ·))++(qs s.form).map (63:: ·)
def txE(e:Env)(k:Bs):Bs:=((assoc k e).getD default).text
def fmE(e:Env)(k:Bs):Lr:=((assoc k e).getD default).form
def caught(s:Wu)(e:Env):Prop:=∃w∈s.words,txE e (46::w)∈(qs s.form).map fun x=>txE e (63::x)
open Classical in
noncomputable def i4s(s:Wu)(g:Lr):List Ws×Bool:=match (pts s s.form [] g).bind (d1x [])with
 |none=>([],false)
 |some e=>if caught s e then([],false)else((d3A s).map fun k=>⟨k.drop 1,txE e k,fmE e k⟩,true)
theorem p8k{e:Env}(h:d5p e)(k:Bs):SmF (fmE e k):=by
 unfold fmE
 cases hk:assoc k e with
 |none=>exact p8e
 |some b=>exact(h k b hk).2.1
theorem p5i(u:Nat):∀c∈Lib.decDigits u,48≤c.toNat∧c.toNat≤57:=by
 induction u using Nat.strongRecOn with
 | _ u ih=>
   have one:∀v:Nat,v<10→48≤(UInt8.ofNat (48+v)).toNat∧(UInt8.ofNat (48+v)).toNat≤57:=fun v hv=>by
    simp only[UInt8.toNat_ofNat'];omega
   intro c hc
   by_cases h:u<10
   ·rw[Lib.decDigits,dif_pos h,List.mem_singleton]at hc
    subst hc;exact one u h
   ·rw[Lib.decDigits,dif_neg h]at hc
    rcases List.mem_append.1 hc with hc|hc
    ·exact ih (u / 10) (by omega) c hc
    ·rw[List.mem_singleton]at hc
     subst hc;exact one _ (Nat.mod_lt _ (by decide))
theorem p5j{m:Nat}(h:m≤1000000000):Xn (vn m):=by
 have hl:=i5H h
 refine⟨by simp[vn],by simp[vn];omega,by simp[vn,d2u],fun k hk=>?_⟩
 unfold OkC d2u
 rw[Int.toNat_natCast]
 cases k with
 |zero=>left;simp[vn]
 |succ k=>
  right;left
  have hk2:k<(Lib.decDigits m).length:=by simpa[vn]using hk
  have:(vn m).getD (k+1) 0=(Lib.decDigits m)[k]:=by simp[vn,hk2]
  rw[this]
  have:=p5i m _ (List.getElem_mem hk2)
  omega
theorem p0L{k:Int}{n n':Bs}{w w':List Bs}{l l':List Lr}(h:d2A (.mk k n w l)=0)(hn:k=2→n'=n)(hq:QK k→Xn n')(hn2:¬(k=2∨QK k)→n'=n)(hw:w'.length=w.length)(hl:l'.length=l.length)(hx:∀x∈w',Xn x):d2A (.mk k n' w' l')=0:=by
 have o:=d1D h
 refine p2L (by have:=o.1;show 0≤arF k;have h2:((l.length:Nat):Int)=arF k:=this;omega) (by show(l'.length:Int)=arF k;rw[hl];exact o.1) (by show d5P k w'.length;rw[hw];exact o.2.1) (fun h=>?_) (fun h=>?_) hx
 ·rcases h with h|h
  ·have h:k=2:=h
   have:=o.2.2.1 (.inl h)
   show Xn n'
   rw[hn h];exact this
  ·exact hq h
 ·show n'=[]
  rw[hn2 h];exact o.2.2.2.1 h
mutual
theorem p3T(N:Nat→Bs)(q:Nat)(hN:∀i,i<q→Xn (N i)):∀(f:Lr) (env:List (Bs×Bs)) (i:Nat),WfF f→i+nq f≤q→(∀p∈env,Xn p.2)→WfF (ren N f env i)
 | .mk k n w s,env,i,h,hq,i8E=>by
   have h0:=(d1P _).1 h
   have hnn:d2A (.mk k n w s)=0:=h0.1
   have hss:d6i s:=h0.2
   rw[nq]at hq
   rw[ren,d1P]
   refine⟨p0L hnn (fun e=>if_neg (by unfold QK;omega)) (fun e=>?_) (fun e=>if_neg fun e2=>e (.inr e2)) (List.length_map _) (d2J _ _ _ _) (fun x hx=>?_),?_⟩
   ·rw[if_pos e]
    rw[if_pos e]at hq
    exact hN i (by omega)
   ·obtain⟨y,hy,rfl⟩:=List.mem_map.1 hx
    have hyn:Xn y:=i5K h hy
    by_cases hm:y∈env.map (·.1)
    ·obtain⟨p,hp,e⟩:=List.mem_map.1 (i2E hm)
     rw[←e];exact i8E p hp
    ·rw[d6V fun p hp e=>hm (List.mem_map.2 ⟨p,hp,e⟩)];exact hyn
   ·refine p0M N q hN s _ _ hss ?_ (fun p hp=>?_)
    ·by_cases e:QK k
     ·simp only[if_pos e]at hq ⊢; omega
     ·simp only[if_neg e]at hq ⊢; omega
    ·by_cases e:QK k
     ·rw[if_pos e]at hp
      rw[if_pos e]at hq
      rcases List.mem_cons.1 hp with rfl|hp
      ·exact hN i (by omega)
      ·exact i8E p hp
     ·rw[if_neg e]at hp;exact i8E p hp
theorem p0M(N:Nat→Bs)(q:Nat)(hN:∀i,i<q→Xn (N i)):∀(l:List Lr) (env:List (Bs×Bs)) (i:Nat),d6i l→i+nqL l≤q→(∀p∈env,Xn p.2)→d6i (Yu N l env i)
 | [],env,i,_,_,_=>by rw[Yu,d6i];trivial
 |f::l,env,i,h,hq,i8E=>by
  rw[nqL]at hq
  rw[Yu,d6i]
  exact⟨p3T N q hN f env i (Ym.1 h f (List.mem_cons_self ..)) (by omega) i8E,p0M N q hN l env _ (Ym.2 fun x hx=>Ym.1 h x (List.mem_cons_of_mem _ hx)) (by omega) i8E⟩
end
theorem i7e{f:Lr}(h:OkF f):∃C:List Bs,C.length≤600∧∀x,fre f [] x↔x∈C:=by
 have:=h.2.1
 obtain⟨C,hC,_⟩:=d5S h.1 (by omega)
 exact⟨C,by omega,fun x=>(hC.1 x).symm⟩
theorem p5k{f:Lr}(h:OkF f):OkF (cf f):=by
 obtain⟨C,hCl,hC⟩:=i7e h
 have hnd:=h.2.1
 have hq:=i0r f
 have r2v:=i6V (fun x=>(hC x).1) 600 hCl
 refine⟨p3T _ 200 (fun i hi=>p5j (by have:=r2v i;omega)) f [] 0 h.1 (by omega) (fun p hp=>by cases hp),?_,?_⟩
 ·unfold cf;rw[p0s];exact h.2.1
 ·unfold cf;rw[p3O];exact h.2.2
theorem r0o{s:Wu}(hw:s.words.length≤1048576∧∀x∈s.words,x.length≤1048576)(hp:s.WO.length≤1048576∧∀x∈s.WO,x.length≤1048576)(hq:s.parts.length≤1048576∧∀x∈s.parts,x.length≤1048576):SB s:=by
 refine⟨hw.1,hp.1,hq.1,fun x hx=>?_⟩
 rcases List.mem_append.1 hx with hx|hx
 ·rcases List.mem_append.1 hx with hx|hx
  ·have:=hw.2 x hx;omega
  ·have:=hp.2 x hx;omega
 ·have:=hq.2 x hx;omega
theorem i1l{l:List Bs}(hl:l.length≤8000000):Evt (fun n=>Yc n l l) (fun b=>b=true):=by
 unfold Yc
 refine Evt.cond (fun e=>by simp at e) (fun _=>?_)
 refine Evt.WL (Evt.p2J l.length (fun k s=>s=(k:Int)) (fun _=>True) (fun _=>False) rfl (fun k s hk hs=>?_) (fun s hs=>?_)) (fun t ht=>?_) (fun r hr=>?_)
 ·subst hs
  unfold XG
  refine Evt.cond (fun _=>Evt.chk (by omega) (Evt.chk (by omega) (Evt.cond (fun e=>by simp at e) (fun _=>Evt.pure ?_)))) (fun e=>by replace e:=bx e;omega)
  exact(d6p (by omega) (by omega)).trans rfl
 ·subst hs
  unfold XG
  exact Evt.cond (fun e=>by replace e:=bx e;omega) (fun _=>Evt.pure trivial)
 ·exact Evt.pure rfl
 ·exact False.elim hr
theorem i2N:∀(m:Nat) (f:Lr),SizeOf.sizeOf f≤m→SmF f→Evt (fun n=>Xj n f f) (fun b=>b=true):=by
 intro m
 induction m with
 |zero=>intro f h;cases f;simp only[Lr.mk.sizeOf_spec]at h;omega
 |succ m ih=>
  intro f hf hsm
  obtain⟨hws,hsl,hsm⟩:=(i0z f).1 hsm
  refine Evt.succ ?_
  simp only[Xj]
  refine Evt.bind (P:=fun v=>v=true) (Evt.gd (fun _=>i1l (by omega)) (fun h=>by simp at h)) fun v hv=>?_
  subst hv
  refine Evt.cond (fun e=>by simp at e) (fun _=>?_)
  refine Evt.WL (Evt.p2J f.subs.length (fun k s=>s=(k:Int)) (fun _=>True) (fun _=>False) rfl (fun k s hk hs=>?_) (fun s hs=>?_)) (fun t ht=>?_) (fun r hr=>?_)
  ·subst hs
   unfold XP
   have hsz:=XE hk
   refine Evt.cond (fun _=>Evt.chk (by omega) (Evt.chk (by omega) ?_)) (fun e=>by replace e:=bx e;omega)
   simp only[Int.toNat_natCast]
   refine Evt.bind (ih _ (by omega) (d7C hsm _ (get_mem hk))) fun v hv=>?_
   subst hv
   refine Evt.cond (fun e=>by cases e) (fun _=>Evt.pure ?_)
   exact(d6p (by omega) (by omega)).trans rfl
  ·subst hs
   unfold XP
   exact Evt.cond (fun e=>by replace e:=bx e;omega) (fun _=>Evt.pure trivial)
  ·exact Evt.pure rfl
  ·exact False.elim hr
theorem i4t{f:Lr}(h:SmF f):f.words.length≤3:=((i0z f).1 h).1
theorem d8o{f:Lr}(h:SmF f):f.subs.length≤2:=((i0z f).1 h).2.1
theorem d7D{f:Lr}(h:SmF f){k:Nat}(hk:k<f.subs.length):SmF (Am.get f.subs k):=d7C ((i0z f).1 h).2.2 _ (get_mem hk)
theorem i5P:∀(m:Nat) (f:Lr),SizeOf.sizeOf f≤m→SmF f→∀(bd l:List Bs),bd.length+ndF f≤100000→l.length+3*ndF f≤300000→
 Evt (fun n=>Xb n f bd l) (fun r=>(∀x,x∈r↔x∈l∨fre f bd x)∧r.length≤l.length+3*ndF f):=by
 intro m
 induction m with
 |zero=>intro f h;cases f;simp only[Lr.mk.sizeOf_spec]at h;omega
 |succ m ih=>
  intro f hf hwf bd l hbd hl
  have hnd:=d4V f
  have hws:=i4t hwf
  refine Evt.succ ?_
  simp only[Xb]
  refine Evt.WL (P:=ExP (fun t=>(∀x,x∈t↔x∈l∨(x∈f.words∧x∉bd))∧t.length≤l.length+3) (fun _=>False)) ((Evt.range (fun k s=>(∀x,x∈s↔x∈l∨(x∈f.words.take k∧x∉bd))∧s.length≤l.length+k) (fun _=>False) (fun _=>False) ⟨fun x=>by simp,by omega⟩ (fun k s hk hi=>?_)).mono fun e he=>?_) (fun t ht=>?_) (fun _ h=>h.elim)
  ·unfold YV
   simp only[Xl,Option.bind_some]
   refine Evt.cond (fun e=>Evt.Zo (Evt.chk ?_ (Evt.pure ⟨fun x=>?_,?_⟩))) (fun e=>Evt.pure ⟨fun x=>?_,by omega⟩)
   ·rw[Yl];simp only[List.length_append,List.length_cons,List.length_nil];omega
   ·replace e:=bx e
    rw[List.mem_append,hi.1 x,Xq hk,List.mem_append,List.mem_singleton]
    by_cases hx:x=Am.get f.words k
    ·subst hx;simp[e]
    ·simp[hx]
   ·simp only[List.length_append,List.length_cons,List.length_nil];omega
   ·replace e:=bx e
    rw[hi.1 x,Xq hk,List.mem_append,List.mem_singleton]
    by_cases hx:x=Am.get f.words k
    ·subst hx;simp[e]
    ·simp[hx]
  ·cases e with
   |ret r=>exact he
   |nxt t=>
    obtain⟨h1,h2⟩:=he.elim id False.elim
    rw[List.take_length]at h1
    exact⟨h1,by omega⟩
  ·obtain⟨h1,h2⟩:=ht
   have key:∀bd':List Bs,(∀y,y∈bd'↔y∈(if QK f.kind then f.name::bd else bd))→bd'.length≤bd.length+1→Evt (fun n=>Xw (Xb n) f t bd') (fun r=>(∀x,x∈r↔x∈l∨fre f bd x)∧r.length≤l.length+3*ndF f):=by
    intro bd' hb hbl
    unfold Xw
    refine Evt.WL (P:=ExP (fun r=>(∀x,x∈r↔x∈t∨d0x f.subs bd' x)∧r.length≤t.length+3*Zr f.subs) (fun _=>False)) ((Evt.range (fun k s=>(∀x,x∈s↔x∈t∨d0x (f.subs.take k) bd' x)∧s.length≤t.length+3*Zr (f.subs.take k)) (fun _=>False) (fun _=>False) ⟨fun x=>by simp[d0x],by omega⟩ (fun k s hk hi=>?_)).mono fun e he=>?_) (fun r hr=>?_) (fun _ h=>h.elim)
    ·unfold YW
     have hsz:=XE hk
     have htk:=d0g hk
     refine Evt.bind (ih _ (by omega) (d7D hwf hk) bd' s (by omega) (by omega)) fun v hv=>Evt.pure ⟨fun x=>?_,?_⟩
     ·rw[hv.1 x,hi.1 x,Xq hk,i4h,or_assoc]
     ·rw[Xq hk,d4W]
      have:=hv.2
      have:=hi.2
      omega
    ·cases e with
     |ret r=>exact he
     |nxt r=>
      have:=he.elim id False.elim
      rw[List.take_length]at this
      exact this
    ·obtain⟨h3,h4⟩:=hr
     unfold YX
     refine Evt.pure ⟨fun x=>?_,by omega⟩
     rw[h3 x,h1 x,i4d,d6j f.subs _ _ hb x,or_assoc]
   unfold YZ
   simp only[d1i,Option.bind_some]
   refine Evt.cond (fun e=>Evt.chk (by omega) (Evt.Zo (Evt.chk ?_ (key _ (fun y=>?_) ?_)))) (fun e=>key _ (fun y=>?_) (by omega))
   ·rw[Yl];simp only[List.length_append,List.length_cons,List.length_nil];omega
   ·replace e:=bx e
    rw[if_pos e];simp[or_comm]
   ·simp
   ·replace e:=bx e
    rw[if_neg e]
theorem i2O{f:Lr}(hwf:SmF f)(hn:ndF f≤50000):Evt (fun n=>Yr n f) (fun r=>(∀x,x∈r↔fre f [] x)∧r.length≤3*ndF f):=by
 unfold Yr
 refine Evt.bind (i5P _ f (Nat.le_refl _) hwf [] [] (by simp;omega) (by simp;omega)) fun v hv=>?_
 obtain⟨h1,h2⟩:=hv
 simp only[List.length_nil,Nat.zero_add]at h2
 unfold Xy XT
 have hlen:(d4S cfB v).length=v.length:=(d1C cfB v).length_eq
 refine Evt.bind (Evt.chk (by omega) (Evt.pure (P:=fun r=>r=d4S cfB v) rfl)) fun r hr=>?_
 subst hr
 refine Evt.bind (Evt.chk (by omega) (Evt.pure (P:=fun r=>True) trivial)) fun _ _=>Evt.pure ⟨fun x=>?_,?_⟩
 ·rw[i0u,(d1C cfB v).mem_iff,h1 x]
  simp
 ·have:=Lib.compact_length_le (d4S cfB v)
  omega
theorem i5Q{p:Bs→Prop}{C:List Bs}(hC:∀x,x∈C↔p x)(hCl:C.length≤10000):∀(m:Nat) (f:Lr),SizeOf.sizeOf f≤m→SmF f→∀(env:List Wy) (i b:Nat),env.length+ndF f≤100000→i+nq f≤1000→nx p b=num p i→
 Evt (fun n=>Xu n f env (b:Int) C) (fun r=>r.1=ren (NN p) f (d8k env) i∧∃b':Nat,r.2=(b':Int)∧nx p b'=num p (i+nq f)):=by
 intro m
 have hC2:∀x,p x→x∈C:=fun x=>(hC x).2
 induction m with
 |zero=>intro f h;cases f;simp only[Lr.mk.sizeOf_spec]at h;omega
 |succ m ih=>
  intro f hf hwf env i b i8E hi hb
  have hnd:=d4V f
  have hws:=i4t hwf
  have hsl:=d8o hwf
  have hnq:=p2K f
  refine Evt.succ ?_
  simp only[Xu]
  refine Evt.WL (P:=ExP (fun t=>t=f.words.map (sub (d8k env))) (fun _=>False)) ((Evt.range (fun k s=>s=(f.words.take k).map (sub (d8k env))) (fun _=>False) (fun _=>False) (by simp) (fun k s hk hs=>?_)).mono fun e he=>?_) (fun t ht=>?_) (fun _ h=>h.elim)
  ·unfold d0i
   refine Evt.WL (p8c (fun k=>(Am.get env k).from_) (fun k=>(Am.get env k).to_) env.length (by omega) (Am.get f.words k) (YD env f k) (fun j hj=>?_) rfl) (fun t ht=>?_) (fun _ h=>h.elim)
   ·unfold YD
    have e1:decide (0≤(j:Int))=true:=decide_eq_true (by omega)
    rw[e1,cond_true,i0e (by omega)]
    rfl
   ·unfold d0j
    refine Evt.Zo (Evt.chk ?_ (Evt.pure ?_))
    ·subst hs
     rw[Yl];simp only[List.length_append,List.length_map,List.length_take,List.length_cons,List.length_nil];omega
    ·show _=_
     have ht:t=sub (d8k env) (Am.get f.words k):=ht
     rw[hs,ht,Xq hk,List.map_append];rfl
  ·cases e with
   |ret r=>exact he
   |nxt t=>
    have:=he.elim id False.elim
    rw[List.take_length]at this
    exact this
  ·subst ht
   have key:∀(env':List Wy) (nm:Bs) (j c:Nat),nm=(if QK f.kind then NN p i else f.name)→d8k env'=(if QK f.kind then(f.name,NN p i)::d8k env else d8k env)→j=i+(if QK f.kind then 1 else 0)→nx p c=num p j→env'.length≤env.length+1→
    Evt (fun n=>Ya (Xu n) f C (f.words.map (sub (d8k env))) ((c:Int),nm,env')) (fun r=>r.1=ren (NN p) f (d8k env) i∧∃b':Nat,r.2=(b':Int)∧nx p b'=num p (i+nq f)):=by
    intro env' nm j c hnm p5d hj hc hlen
    have hjn:j+nqL f.subs=i+nq f:=by omega
    unfold Ya
    refine Evt.WL (P:=ExP (fun t=>t.2=Yu (NN p) f.subs (d8k env') j∧∃b':Nat,t.1=(b':Int)∧nx p b'=num p (j+nqL f.subs)) (fun _=>False)) ((Evt.range (fun k s=>s.2=Yu (NN p) (f.subs.take k) (d8k env') j∧∃b':Nat,s.1=(b':Int)∧nx p b'=num p (j+nqL (f.subs.take k))) (fun _=>False) (fun _=>False) ⟨by simp[Yu],c,rfl,by simpa[nqL]using hc⟩ (fun k s hk hs=>?_)).mono fun e he=>?_) (fun t ht=>?_) (fun _ h=>h.elim)
    ·obtain⟨hs1,b',hs2,hs3⟩:=hs
     unfold d0k
     have hsz:=XE hk
     have htk:=d0g hk
     have hqk:=d6k hk
     refine Evt.bind (P:=fun r=>r.1=ren (NN p) (Am.get f.subs k) (d8k env') (j+nqL (f.subs.take k))∧∃b'':Nat,r.2=(b'':Int)∧nx p b''=num p (j+nqL (f.subs.take k)+nq (Am.get f.subs k))) ?_ fun v hv=>Evt.Zo (Evt.chk ?_ (Evt.pure ?_))
     ·rw[hs2]
      exact ih _ (by omega) (d7D hwf hk) env' _ b' (by omega) (by omega) hs3
     ·rw[Yl,hs1];simp only[List.length_append,d2J,List.length_take,List.length_cons,List.length_nil];omega
     ·obtain⟨hv1,b'',hv2,hv3⟩:=hv
      refine⟨?_,b'',hv2,?_⟩
      ·show s.2++[v.1]=_
       rw[hs1,hv1,Xq hk,d3X]
      ·rw[hv3,Xq hk,d4s,Nat.add_assoc]
    ·cases e with
     |ret r=>exact he
     |nxt t=>
      have:=he.elim id False.elim
      rw[List.take_length]at this
      exact this
    ·obtain⟨ht1,b',ht2,ht3⟩:=ht
     unfold d0l
     refine Evt.pure ⟨?_,b',ht2,by rw[ht3,hjn]⟩
     show Lr.mk _ _ _ _=_
     rw[i1J,ht1,hnm,p5d,hj]
   unfold d0m
   simp only[d1i,Option.bind_some]
   have hbl:=(i5I hC2 b).1
   have hnl:=i6V hC2 10000 hCl i
   refine Evt.cond (fun e=>?_) (fun e=>?_)
   ·replace e:=bx e
    rw[if_pos e]at hnq
    refine Evt.bind (i4k hC (b:=b) (by omega)) fun v hv=>Evt.chk (by omega) (Evt.Zo (Evt.chk ?_ ?_))
    ·rw[Yl];simp only[List.length_append,List.length_cons,List.length_nil];omega
    ·subst hv
     exact key _ _ (i+1) (nx p b+1) (by rw[if_pos e,hb];rfl) (by rw[if_pos e,i4l,hb];rfl) (by rw[if_pos e]) (by rw[hb];rfl) (by simp)
   ·replace e:=bx e
    rw[if_neg e]at hnq
    exact key _ _ i b (by rw[if_neg e]) (by rw[if_neg e]) (by rw[if_neg e];rfl) hb (by omega)
theorem p0N{f:Lr}(h:SmF f)(h2:ndF f≤200):Evt (fun n=>d0u n f) (fun r=>r=cf f):=by
 unfold d0u d1Z
 have hq:=i0r f
 refine Evt.bind (P:=fun r=>r=cf f) (Evt.bind (i2O h (by omega)) fun v hv=>?_) fun v hv=>Evt.pure hv
 refine Evt.WL (P:=ExP (fun _=>True) (fun _=>False)) ⟨.nxt (),trivial,0,fun n _=>rfl⟩ (fun _ _=>?_) (fun _ h=>h.elim)
 unfold d0n
 exact Evt.bind (i5Q hv.1 (by omega) _ f (Nat.le_refl _) h [] 0 0 (by simp;omega) (by omega) rfl) fun r hr=>Evt.pure hr.1
def Aft(env env' d1E:List (Bs×Bs)):Prop:=∀w,Xn w→sub env' (sub env w)=sub d1E w
theorem p8l{env:List (Bs×Bs)}{w:Bs}:sub env w=w∨∃p∈env,sub env w=p.2:=by
 by_cases h:w∈env.map (·.1)
 ·obtain⟨p,hp,e⟩:=List.mem_map.1 (i2E h)
  exact .inr ⟨p,hp,e.symm⟩
 ·exact .inl (d6V fun p hp e=>h (List.mem_map.2 ⟨p,hp,e⟩))
theorem Aft.put{N M:Nat→Bs}(hN:∀i j,N i=N j→i=j)(hN2:∀i,¬Xn (N i)){env env' d1E:List (Bs×Bs)}{i:Nat}(he:∀p∈env,∃j,j<i∧p.2=N j)(h:Aft env env' d1E)(n:Bs):Aft ((n,N i)::env) ((N i,M i)::env') ((n,M i)::d1E):=fun w hw=>by
 by_cases e:n=w
 ·have a:sub ((n,N i)::env) w=N i:=by rw[Ye,if_pos e]
  have b:sub ((n,M i)::d1E) w=M i:=by rw[Ye,if_pos e]
  rw[a,b,Ye,if_pos rfl]
 ·have a:sub ((n,N i)::env) w=sub env w:=by rw[Ye,if_neg e]
  have b:sub ((n,M i)::d1E) w=sub d1E w:=by rw[Ye,if_neg e]
  rw[a,b,Ye,if_neg fun e2=>?_]
  ·exact h w hw
  ·rcases p8l (env:=env) (w:=w)with e3|⟨p,hp,e3⟩
   ·rw[e3]at e2
    exact hN2 i (e2▸hw)
   ·obtain⟨j,hj,e4⟩:=he p hp
    rw[e3,e4]at e2
    have:=hN _ _ e2
    omega
mutual
theorem p5l(N M:Nat→Bs)(hN:∀i j,N i=N j→i=j)(hN2:∀i,¬Xn (N i)):∀(f:Lr) (env env' d1E:List (Bs×Bs)) (i:Nat),WfF f→(∀p∈env,∃j,j<i∧p.2=N j)→Aft env env' d1E→ren M (ren N f env i) env' i=ren M f d1E i
 | .mk k n w s,env,env',d1E,i,hwf,he,ha=>by
   have hn:=((d1P _).1 hwf).1
   have hs:d6i s:=((d1P _).1 hwf).2
   have hw:=(d1D hn).2.2.2.2
   have e1:(w.map (sub env)).map (sub env')=w.map (sub d1E):=by
    rw[List.map_map]
    exact List.map_congr_left fun x hx=>ha x (hw x hx)
   rw[ren,ren,ren,e1]
   by_cases hq:QK k
   ·simp only[if_pos hq]
    rw[i2P N M hN hN2 s _ _ _ (i+1) hs (fun p hp=>by
     rcases List.mem_cons.1 hp with rfl|hp
     ·exact⟨i,by omega,rfl⟩
     ·obtain⟨j,h1,h2⟩:=he p hp
      exact⟨j,by omega,h2⟩) (Aft.put hN hN2 he ha n)]
   ·simp only[if_neg hq]
    rw[i2P N M hN hN2 s _ _ _ (i+0) hs he ha]
theorem i2P(N M:Nat→Bs)(hN:∀i j,N i=N j→i=j)(hN2:∀i,¬Xn (N i)):∀(l:List Lr) (env env' d1E:List (Bs×Bs)) (i:Nat),d6i l→(∀p∈env,∃j,j<i∧p.2=N j)→Aft env env' d1E→Yu M (Yu N l env i) env' i=Yu M l d1E i
 | [],env,env',d1E,i,_,_,_=>by rw[Yu,Yu,Yu]
 |x::l,env,env',d1E,i,h,he,ha=>by
  rw[Yu,Yu,Yu,p5l N M hN hN2 x _ _ _ i (Ym.1 h x (List.mem_cons_self ..)) he ha,i4c,i2P N M hN hN2 l _ _ _ (i+nq x) (Ym.2 fun y hy=>Ym.1 h y (List.mem_cons_of_mem _ hy)) (fun p hp=>by
   obtain⟨j,h1,h2⟩:=he p hp
   exact⟨j,by omega,h2⟩) ha]
end
def qn(i:Nat):Bs:=63::Lib.decDigits (i+1)
theorem p3U(i j:Nat)(h:qn i=qn j):i=j:=by have:=i5G (List.cons.inj h).2;omega
theorem p5m(i:Nat):¬Xn (qn i):=fun h=>by
 have:=h.2.2.1.1
 simp[d2u,qn]at this
set_option maxRecDepth 1000000 in
theorem d8p(m:Nat):XA (m+300)=some true:=by kernel_rfl
theorem d7E:Evt XA (fun b=>b=true):=⟨true,rfl,300,fun n hn=>by
 obtain⟨m,rfl⟩:∃m,n=m+300:=⟨n-300,by omega⟩
 exact d8p m⟩
end Go.Proofs.YtfacbpehlibilaaGreatDoor
