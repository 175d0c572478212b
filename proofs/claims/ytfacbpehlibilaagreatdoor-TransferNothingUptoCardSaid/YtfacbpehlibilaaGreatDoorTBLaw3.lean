import Derived.Test.YtfacbpehlibilaaGreatDoorTBLaw2
set_option linter.unusedVariables false
set_option linter.unusedSimpArgs false
namespace Go.Proofs.YtfacbpehlibilaaGreatDoor
open Go Go.Am
structure p1H(s:OG):Prop where
 form:OkF s.form
 len:(vns s).length≤300
 name:∀x∈vns s,PK x
 uniq:∀i j,i<j→j<(vns s).length→Am.get (vns s) i≠Am.get (vns s) j
 words:∀x∈s.words,fre s.form [] x
 PA:∀x∈s.PA,d9N (UW s.form) x∨d9O (UW s.form) x
 parts:∀x∈s.parts,¬d9N (UW s.form) x∧d9O (UW s.form) x
 p0D:QOk s
def VO(s:OG)(f:Ox):Prop:=(f.kind=2∧f.words.length=0)∧f.name∈s.parts
instance(s:OG)(f:Ox):Decidable (VO s f):=inferInstanceAs (Decidable (_∧_))
def mkw(W bd:List Bs)(w:Bs):Bs:=if w∈bd then 63::w else if w∈W then 46::w else w
def mkn(s:OG)(f:Ox):Bs:=if QK f.kind then 63::f.name else if VO s f then 43::f.name else if f.kind=2∧f.name∈s.PA then 33::f.name else f.name
mutual
def Td(s:OG):Ox→List Bs→Ox
 | .mk k n w l,bd=>.mk k (mkn s (.mk k n w l)) (w.map (mkw s.words bd)) (Tr s l (if QK k then n::bd else bd))
def Tr(s:OG):List Ox→List Bs→List Ox
 | [],_=>[]
 |f::l,bd=>Td s f bd::Tr s l bd
end
theorem Wk(s:OG)(f:Ox)(bd:List Bs):Td s f bd= .mk f.kind (mkn s f) (f.words.map (mkw s.words bd)) (Tr s f.subs (if QK f.kind then f.name::bd else bd)):=by cases f;rw[Td];rfl
theorem d1u(s:OG):∀(l:List Ox) (bd:List Bs),(Tr s l bd).length=l.length
 | [],_=>by rw[Tr]
 |f::l,bd=>by rw[Tr,List.length_cons,List.length_cons,d1u s l]
theorem i1F{W bd bd':List Bs}(h:∀y,y∈bd↔y∈bd')(w:Bs):mkw W bd w=mkw W bd' w:=by
 unfold mkw
 by_cases e:w∈bd
 ·rw[if_pos e,if_pos ((h w).1 e)]
 ·rw[if_neg e,if_neg fun e'=>e ((h w).2 e')]
mutual
theorem d7H(s:OG):∀(f:Ox) (bd bd':List Bs),(∀y,y∈bd↔y∈bd')→Td s f bd=Td s f bd'
 | .mk k n w l,bd,bd',h=>by
   rw[Td,Td,d1T s l _ (if QK k then n::bd' else bd') (fun y=>?_),List.map_congr_left fun x _=>i1F h x]
   split
   ·simp[h y]
   ·exact h y
theorem d1T(s:OG):∀(l:List Ox) (bd bd':List Bs),(∀y,y∈bd↔y∈bd')→Tr s l bd=Tr s l bd'
 | [],bd,bd',h=>by rw[Tr,Tr]
 |f::l,bd,bd',h=>by rw[Tr,Tr,d7H s f bd bd' h,d1T s l bd bd' h]
end
theorem i1G(s:OG)(f:Ox):Qu s f=some (decide (VO s f)):=by
 unfold Qu VO
 simp only[TG]
 by_cases h1:f.kind=2<;>by_cases h2:f.words.length=0<;>simp[h1,h2,gd]
theorem i1H{f:Ox}(hwf:WfF f){x:Bs}(hx:x∈f.words):PK x:=(Uk ((Uf f).1 hwf).1).2.2.2.2 x hx
def Zo(s:OG):OG:=⟨Td s s.form [],s.words.map (46:: ·),s.PA.map (33:: ·),s.parts.map (43:: ·)⟩
def zf:Ox:=.mk 0 [] [] []
abbrev Env:=List (Bs×OB)
theorem ZE{V:Type}(k:Bs)(v:V):∀m:List (Bs×V),assoc k (OU k v m)=some v
 | []=>by simp[OU,assoc]
 |(a,u)::m=>by
  rw[OU]
  split
  ·simp[assoc]
  ·rename_i h
   rw[assoc,if_neg h,ZE k v m]
theorem d2u{V:Type}{k k':Bs}(h:k'≠k)(v:V):∀m:List (Bs×V),assoc k' (OU k v m)=assoc k' m
 | []=>by
   show(if k'=k then some v else assoc k' ([]:List (Bs×V)))=_
   rw[if_neg h]
 |(a,u)::m=>by
  rw[OU]
  split
  ·rename_i e
   subst e
   rw[assoc,assoc,if_neg h,if_neg h]
  ·rw[assoc,assoc,d2u h v m]
open Classical in
noncomputable def d4c(env:Env)(b:OB):Option Env:=match assoc b.name env with
 |none=>some (OU b.name b env)
 |some b'=>if b'=b then some env else none
noncomputable def Vo:Env→List OB→Option Env
 |env,[]=>some env
 |env,b::l=>(d4c env b).bind fun e=>Vo e l
theorem d8F:∀(a b:List OB) (env:Env),Vo env (a++b)=(Vo env a).bind fun e=>Vo e b
 | [],b,env=>rfl
 |x::a,b,env=>by
  rw[List.cons_append,Vo,Vo]
  cases d4c env x with
  |none=>rfl
  |some e=>exact d8F a b e
theorem YJ{env e:Env}{b:OB}(h:d4c env b=some e):assoc b.name e=some b∧(∀k c,assoc k env=some c→assoc k e=some c)∧(∀k c,assoc k e=some c→assoc k env=some c∨(b.name=k∧b=c)):=by
 unfold d4c at h
 split at h
 ·rename_i h0
  cases h
  refine⟨ZE _ _ _,fun k c hc=>?_,fun k c hc=>?_⟩
  ·by_cases e:k=b.name
   ·rw[e,h0]at hc;cases hc
   ·rw[d2u e];exact hc
  ·by_cases e:k=b.name
   ·rw[e,ZE]at hc
    exact .inr ⟨e.symm,Option.some.inj hc⟩
   ·rw[d2u e]at hc;exact .inl hc
 ·rename_i b' h0
  split at h
  ·rename_i hb
   cases h
   exact⟨by rw[h0,hb],fun k c hc=>hc,fun k c hc=>.inl hc⟩
  ·cases h
theorem ZF:∀(ps:List OB) (env e:Env),Vo env ps=some e→(∀b∈ps,assoc b.name e=some b)∧(∀k c,assoc k env=some c→assoc k e=some c)∧(∀k c,assoc k e=some c→assoc k env=some c∨(∃b∈ps,b.name=k∧b=c))
 | [],env,e,h=>by cases h;exact⟨fun b hb=>(by cases hb),fun k c hc=>hc,fun k c hc=>.inl hc⟩
 |b::l,env,e,h=>by
  rw[Vo]at h
  cases hp:d4c env b with
  |none=>rw[hp]at h;cases h
  |some e1=>
   rw[hp]at h
   obtain⟨p1,p2,p3⟩:=YJ hp
   obtain⟨r1,r2,r3⟩:=ZF l e1 e h
   refine⟨fun c hc=>?_,fun k c hc=>r2 k c (p2 k c hc),fun k c hc=>?_⟩
   ·rcases List.mem_cons.1 hc with rfl|hc
    ·exact r2 _ _ p1
    ·exact r1 c hc
   ·rcases r3 k c hc with h|⟨x,hx,h1,h2⟩
    ·rcases p3 k c h with h|⟨h1,h2⟩
     ·exact .inl h
     ·exact .inr ⟨b,List.mem_cons_self ..,h1,h2⟩
    ·exact .inr ⟨x,List.mem_cons_of_mem _ hx,h1,h2⟩
def IsKey(k:Bs):Prop:=∃c t,k=c::t∧(c=33∨c=43∨c=46∨c=63)
theorem d5q{x:Bs}(h:PK x):¬IsKey x:=fun⟨c,t,e,hc⟩=>by
 have:=h.2.2.1.1
 subst e
 rcases hc with rfl|rfl|rfl|rfl<;>simp[UO]at this
def d2b(b:OB):Prop:=SmF b.form∧((∃x,b.name=43::x∧b.text=[])∨(∃c x,b.name=c::x∧(c=33∨c=46∨c=63)∧b.form=zf))
def ZJ(env:Env):Prop:=∀k b,assoc k env=some b→b.name=k∧d2b b
theorem d7I{env e:Env}{b:OB}(h:ZJ env)(hb:d2b b)(hp:d4c env b=some e):ZJ e:=fun k c hc=>by
 rcases(YJ hp).2.2 k c hc with h1|⟨rfl,rfl⟩
 ·exact h k c h1
 ·exact⟨rfl,hb⟩
theorem i1I{env e:Env}{ps:List OB}(h:ZJ env)(hb:∀b∈ps,d2b b)(hp:Vo env ps=some e):ZJ e:=fun k c hc=>by
 rcases(ZF _ _ _ hp).2.2 k c hc with h1|⟨b,hm,h1,h2⟩
 ·exact h k c h1
 ·subst h2;exact⟨h1,hb _ hm⟩
theorem d2b.key{b:OB}(h:d2b b):IsKey b.name:=by
 rcases h.2 with⟨x,e,_⟩|⟨c,x,e,hc,_⟩
 ·exact⟨43,x,e,by simp⟩
 ·exact⟨c,x,e,by rcases hc with h|h|h<;>simp[h]⟩
theorem i9M:SmF zf:=by unfold zf;rw[SmF];exact⟨by decide,by decide,by rw[d2a];trivial⟩
theorem d7J{c:UInt8}{x y:Bs}(h:c=33∨c=46∨c=63):d2b ⟨c::x,y,zf⟩:=⟨i9M,.inr ⟨c,x,rfl,h,rfl⟩⟩
def cat(a b:Option (List OB)):Option (List OB):=a.bind fun x=>b.bind fun y=>some (x++y)
theorem d1v(a b:Option (List OB))(s:Env):(cat a b).bind (Vo s)=(a.bind (Vo s)).bind fun s'=>b.bind (Vo s'):=by
 cases a with
 |none=>rfl
 |some x=>
  cases b with
  |none=>
   show none=(Vo s x).bind fun s'=>none
   cases Vo s x<;>rfl
  |some y=>exact d8F x y s
theorem i3m(o:Option (List OB))(b:OB)(s:Env):(o.map (b:: ·)).bind (Vo s)=(d4c s b).bind fun s'=>o.bind (Vo s'):=by
 cases o with
 |none=>show none=_;cases d4c s b<;>rfl
 |some x=>rfl
def ptw(W bd:List Bs):List Bs→List Bs→Option (List OB)
 |x::xs,y::ys=>if x∈bd then(ptw W bd xs ys).map (⟨63::x,y,zf⟩:: ·)else if x∈W then(ptw W bd xs ys).map (⟨46::x,y,zf⟩:: ·)else if x=y then ptw W bd xs ys else none
 | _,_=>some []
def pth(s:OG)(f g:Ox):Option (List OB):=
 if QK f.kind then some [⟨63::f.name,g.name,zf⟩]else if f.kind=2∧f.name∈s.PA then some [⟨33::f.name,g.name,zf⟩]else if f.name=g.name then some []else none
mutual
def pts(s:OG):Ox→List Bs→Ox→Option (List OB)
 | .mk k n w l,bd,g=>if VO s (.mk k n w l)then some [⟨43::n,[],g⟩]
   else if k≠g.kind∨w.length≠g.words.length then none
   else cat (pth s (.mk k n w l) g) (cat (ptw s.words bd w g.words) (d1w s l (if QK k then n::bd else bd) g.subs))
def d1w(s:OG):List Ox→List Bs→List Ox→Option (List OB)
 | [],_,_=>some []
 |f::l,bd,gs=>match gs with
  | []=>some []
  |g::gs=>cat (pts s f bd g) (d1w s l bd gs)
end
theorem i4i(s:OG)(f:Ox)(bd:List Bs)(g:Ox):pts s f bd g=if VO s f then some [⟨43::f.name,[],g⟩]else if f.kind≠g.kind∨f.words.length≠g.words.length then none else cat (pth s f g) (cat (ptw s.words bd f.words g.words) (d1w s f.subs (if QK f.kind then f.name::bd else bd) g.subs)):=by cases f;rw[pts];rfl
theorem i1J{a b:Option (List OB)}{Q:OB→Prop}(ha:∀x,a=some x→∀c∈x,Q c)(hb:∀x,b=some x→∀c∈x,Q c):∀x,cat a b=some x→∀c∈x,Q c:=fun x hx c hc=>by
 unfold cat at hx
 cases a with
 |none=>cases hx
 |some y=>
  cases b with
  |none=>cases hx
  |some z=>
   cases hx
   rcases List.mem_append.1 hc with h|h
   ·exact ha y rfl c h
   ·exact hb z rfl c h
theorem i4j(W bd:List Bs):∀(xs ys:List Bs) (ps:List OB),ptw W bd xs ys=some ps→∀b∈ps,d2b b
 | [],ys,ps,h,b,hb=>by rw[ptw]at h;cases h;cases hb;simp
 |x::xs,[],ps,h,b,hb=>by rw[ptw]at h;cases h;cases hb;simp
 |x::xs,y::ys,ps,h,b,hb=>by
  rw[ptw]at h
  have ih:=i4j W bd xs ys
  have mp:∀c:OB,d2b c→(ptw W bd xs ys).map (c:: ·)=some ps→d2b b:=fun c hc h=>by
   cases hp:ptw W bd xs ys with
   |none=>rw[hp]at h;cases h
   |some q=>
    rw[hp]at h;cases h
    rcases List.mem_cons.1 hb with rfl|hb
    ·exact hc
    ·exact ih q hp b hb
  split at h
  ·exact mp _ (d7J (.inr (.inr rfl))) h
  ·split at h
   ·exact mp _ (d7J (.inr (.inl rfl))) h
   ·split at h
    ·exact ih ps h b hb
    ·cases h
theorem i7Q(s:OG)(f g:Ox)(ps:List OB)(h:pth s f g=some ps):∀b∈ps,d2b b:=fun b hb=>by
 unfold pth at h
 split at h
 ·cases h
  rw[List.mem_singleton]at hb;subst hb
  exact d7J (.inr (.inr rfl))
 ·split at h
  ·cases h
   rw[List.mem_singleton]at hb;subst hb
   exact d7J (.inl rfl)
  ·split at h
   ·cases h;cases hb
   ·cases h
mutual
theorem i1K(s:OG):∀(f:Ox) (bd:List Bs) (g:Ox),SmF g→∀ps,pts s f bd g=some ps→∀b∈ps,d2b b
 | .mk k n w l,bd,g,hg,ps,h,b,hb=>by
   rw[pts]at h
   split at h
   ·cases h
    rw[List.mem_singleton]at hb;subst hb
    exact⟨hg,.inl ⟨n,rfl,rfl⟩⟩
   ·split at h
    ·cases h
    ·exact i1J (fun x hx=>i7Q s _ g x hx) (i1J (fun x hx=>i4j _ _ _ _ x hx) (fun x hx=>i1L s l _ g.subs ((d4F g).1 hg).2.2 x hx)) ps h b hb
theorem i1L(s:OG):∀(l:List Ox) (bd:List Bs) (gs:List Ox),d2a gs→∀ps,d1w s l bd gs=some ps→∀b∈ps,d2b b
 | [],bd,gs,hg,ps,h,b,hb=>by rw[d1w]at h;cases h;cases hb
 |f::l,bd,[],hg,ps,h,b,hb=>by rw[d1w]at h;cases h;cases hb
 |f::l,bd,g::gs,hg,ps,h,b,hb=>by
  rw[d1w]at h
  rw[d2a]at hg
  exact i1J (fun x hx=>i1K s f bd g hg.1 x hx) (fun x hx=>i1L s l bd gs hg.2 x hx) ps h b hb
end
theorem i3n(a b:List Bs):PW a b=some (decide (a=b)):=by
 have h:Evt (fun _=>PW a b) (fun r=>r=decide (a=b)):=by
  unfold PW
  refine Evt.cond (fun e=>Evt.pure ?_) (fun e=>?_)
  ·replace e:=bx e
   exact(decide_eq_false fun h=>e (by rw[h])).symm
  replace e:=bx e
  have hl:a.length=b.length:=by omega
  refine Evt.Pg (Evt.scan (fun k _=>a.take k=b.take k) (fun k r=>r=false∧Am.get a k≠Am.get b k) (by simp) (fun k u hk hi=>?_)) (fun t ht=>?_) (fun r hr=>?_)
  ·unfold QG
   refine Evt.chk (by omega) (Evt.cond (fun e=>Evt.pure ?_) (fun e=>Evt.pure ?_))
   ·replace e:=bx e
    exact⟨rfl,e⟩
   ·replace e:=bx e
    show a.take (k+1)=b.take (k+1)
    rw[QL hk,QL (l:=b) (by omega),hi,e]
  ·unfold QH
   refine Evt.pure (decide_eq_true ?_).symm
   have ht:a.take a.length=b.take a.length:=ht
   rw[List.take_length,hl,List.take_length]at ht
   exact ht
  ·obtain⟨k,_,_,_,rfl,h⟩:=hr
   exact(decide_eq_false fun e=>h (by rw[e])).symm
 obtain⟨r,rfl,N,hN⟩:=h
 exact hN N (Nat.le_refl _)
open Classical in
theorem i1M:∀(m:Nat) (f:Ox),SizeOf.sizeOf f≤m→SmF f→∀g:Ox,Evt (fun n=>Uu n f g) (fun r=>r=decide (f=g)):=by
 intro m
 induction m with
 |zero=>intro f h;cases f;simp only[Ox.mk.sizeOf_spec]at h;omega
 |succ m ih=>
  intro f hf hsm g
  obtain⟨_,hsl,hsm⟩:=(d4F f).1 hsm
  refine Evt.succ ?_
  simp only[Uu,i3n]
  refine Evt.bind (P:=fun v=>f.kind=g.kind→f.name=g.name→v=decide (f.words=g.words)) (Evt.gd (fun _=>Evt.pure fun _ _=>by congr) (fun h h1 h2=>by simp[h1,h2]at h)) fun v hv=>?_
  refine Evt.cond (fun e=>Evt.pure (decide_eq_false fun h=>?_).symm) (fun e=>?_)
  ·subst h
   have:=hv rfl rfl
   simp[this]at e
  have e1:f.kind=g.kind:=Classical.byContradiction fun h=>by simp[h]at e
  have e2:f.name=g.name:=Classical.byContradiction fun h=>by simp[h]at e
  have e3:f.words=g.words:=Classical.byContradiction fun h=>by have:=hv e1 e2;rw[decide_eq_false h]at this;simp[this]at e
  have e4:f.subs.length=g.subs.length:=Classical.byContradiction fun h=>by
   have:¬((f.subs.length:Int)=(g.subs.length:Int)):=by omega
   rw[decide_eq_false this]at e
   revert e
   cases (bif bif !decide (f.kind=g.kind)then true else !decide (f.name=g.name)then true else !v)<;>simp
  refine Evt.chk (by omega) (Evt.Pg (Evt.scan (fun k _=>f.subs.take k=g.subs.take k) (fun k r=>r=false∧Am.get f.subs k≠Am.get g.subs k) (by simp) (fun k u hk hi=>?_)) (fun t ht=>?_) (fun r hr=>?_))
  ·unfold Wm
   have hsz:=Rw hk
   refine Evt.chk (by omega) (Evt.bind (ih _ (by omega) (d2t hsm _ (get_mem hk)) _) fun v2 hv2=>Evt.cond (fun e=>Evt.pure ?_) (fun e=>Evt.pure ?_))
   ·subst hv2
    exact⟨rfl,fun h=>by rw[decide_eq_true h]at e;cases e⟩
   ·subst hv2
    have h:Am.get f.subs k=Am.get g.subs k:=Classical.byContradiction fun h=>by rw[decide_eq_false h]at e;cases e
    show f.subs.take (k+1)=g.subs.take (k+1)
    rw[QL hk,QL (l:=g.subs) (by omega),hi,h]
  ·unfold Wn
   refine Evt.pure (decide_eq_true ?_).symm
   have ht:f.subs.take f.subs.length=g.subs.take f.subs.length:=ht
   rw[List.take_length,e4,List.take_length]at ht
   cases f;cases g
   simp only[Ox.kind,Ox.name,Ox.words,Ox.subs]at*
   rw[e1,e2,e3,ht]
  ·obtain⟨k,_,_,_,rfl,h⟩:=hr
   exact(decide_eq_false fun e=>h (by rw[e])).symm
def RM(o:Option Env)(r:Bool×Env):Prop:=(∀e,o=some e→r=(true,e))∧(o=none→r.1=false)
theorem d3y{env:Env}(he:ZJ env){c:UInt8}(hc:c=33∨c=46∨c=63)(x y:Bs):Evt (fun _=>Rx (c::x) y env) (RM (d4c env ⟨c::x,y,zf⟩)):=by
 unfold Rx d4c
 cases h:assoc (c::x) env with
 |none=>
  refine Evt.cond (fun e=>by simp at e) (fun _=>Evt.Tg (Evt.pure ?_))
  simp only[h]
  exact⟨fun e he=>by cases he;rfl,fun he=>by cases he⟩
 |some b=>
  refine Evt.cond (fun _=>Evt.pure ?_) (fun e=>by simp at e)
  simp only[h]
  obtain⟨h1,h2⟩:=he _ _ h
  have hiff:b=⟨c::x,y,zf⟩↔b.text=y:=by
   constructor
   ·intro e;rw[e]
   ·intro e
    obtain⟨_,h2⟩:=h2
    rcases h2 with⟨z,e1,_⟩|⟨c',z,e1,hc',e2⟩
    ·rw[h1]at e1
     have:=(List.cons.inj e1).1
     rcases hc with rfl|rfl|rfl<;>cases this
    ·cases b
     simp only at h1 e2 e
     rw[h1,e,e2]
  by_cases hb:b.text=y
  ·rw[if_pos (hiff.2 hb)]
   refine⟨fun e he=>?_,fun he=>by cases he⟩
   cases he
   show(decide (((some b).getD default).text=y),env)=_
   rw[decide_eq_true (show((some b).getD default).text=y from hb)]
  ·rw[if_neg fun e=>hb (hiff.1 e)]
   exact⟨fun e he=>(by cases he),fun _=>decide_eq_false hb⟩
def Has(bd:List Bs)(env:Env):Prop:=∀x∈bd,(assoc (63::x) env).isSome=true
theorem Has.mono{bd:List Bs}{env e:Env}(h:Has bd env)(hm:∀k c,assoc k env=some c→assoc k e=some c):Has bd e:=fun x hx=>by
 obtain⟨c,hc⟩:=Option.isSome_iff_exists.1 (h x hx)
 rw[hm _ _ hc];rfl
theorem d0O{c:UInt8}{x:Bs}{l:List Bs}:(c::x)∈l.map (c:: ·)↔x∈l:=by
 rw[List.mem_map]
 exact⟨fun⟨y,hy,e⟩=>(List.cons.inj e).2▸hy,fun h=>⟨x,h,rfl⟩⟩
theorem d7K{c:UInt8}(hc:c=33∨c=43∨c=46∨c=63){k:Bs}{l:List Bs}(h:k∈l.map (c:: ·)):IsKey k:=by
 obtain⟨y,_,rfl⟩:=List.mem_map.1 h
 exact⟨c,y,rfl,hc⟩
theorem i3o{env:Env}(he:ZJ env){x:Bs}(hx:¬IsKey x):assoc x env=none:=by
 cases h:assoc x env with
 |none=>rfl
 |some b=>
  obtain⟨h1,h2⟩:=he _ _ h
  exact absurd (h1▸h2.key) hx
section
variable {s:OG}
theorem d8G{xs:List Bs}{k:Nat}(h:k<xs.length):xs.drop k=Am.get xs k::xs.drop (k+1):=i5l h
theorem i5n(W bd ys:List Bs):ptw W bd [] ys=some []:=by cases ys<;>simp[ptw]
theorem d8H(env:Env)(b:OB):Vo env [b]=d4c env b:=by
 rw[Vo]
 cases d4c env b<;>rfl
theorem d8I{f g:Ox}(hf:WfF f)(hlen:f.words.length=g.words.length)(bd:List Bs){env:Env}(he:ZJ env)(hh:Has bd env):
 Evt (fun _=>Pr (Sn (Td s f bd) (Zo s) g) (Td s f bd).words.length env) (ExP (fun t=>(ptw s.words bd f.words g.words).bind (Vo env)=some t∧ZJ t∧Has bd t) (fun r=>(ptw s.words bd f.words g.words).bind (Vo env)=none∧r.1=false)):=by
 have hml:(Td s f bd).words.length=f.words.length:=by rw[Wk];exact List.length_map _
 rw[hml]
 refine(Evt.range (fun k t=>(ptw s.words bd f.words g.words).bind (Vo env)=(ptw s.words bd (f.words.drop k) (g.words.drop k)).bind (Vo t)∧ZJ t∧Has bd t) (fun _=>False) (fun r=>(ptw s.words bd f.words g.words).bind (Vo env)=none∧r.1=false) ⟨rfl,he,hh⟩ (fun k t hk ht=>?_)).mono fun e h=>?_
 ·obtain⟨ht,hte,hth⟩:=ht
  have hkg:k<g.words.length:=by omega
  have hkm:Am.get (Td s f bd).words k=mkw s.words bd (Am.get f.words k):=by rw[Wk];exact get_map _ hk
  rw[d8G hk,d8G hkg,ptw]at ht
  unfold Sn
  simp only[hkm,TG]
  have nx:¬IsKey (Am.get f.words k):=d5q (i1H hf (get_mem hk))
  have fin:∀(c:UInt8),c=46∨c=63→(ptw s.words bd f.words g.words).bind (Vo env)=((ptw s.words bd (f.words.drop (k+1)) (g.words.drop (k+1))).map (⟨c::Am.get f.words k,Am.get g.words k,zf⟩:: ·)).bind (Vo t)→
   Evt (fun _:Nat=>chk ((k:Int)<(g.words.length:Int)) <| (Rx (c::Am.get f.words k) (Am.get g.words k) t).bind fun v14=>bif (!v14.1)then some (Ctl.ret (τ:=Env) (false,v14.2))else some (.nxt v14.2)) (i6f (fun t=>(ptw s.words bd f.words g.words).bind (Vo env)=(ptw s.words bd (f.words.drop (k+1)) (g.words.drop (k+1))).bind (Vo t)∧ZJ t∧Has bd t) (fun _=>False) (fun r=>(ptw s.words bd f.words g.words).bind (Vo env)=none∧r.1=false)):=by
   intro c hc ht
   rw[i3m]at ht
   refine Evt.chk (by omega) (Evt.bind (d3y hte (hc.elim (fun h=>.inr (.inl h)) fun h=>.inr (.inr h)) _ _) fun v hv=>?_)
   cases hp:d4c t ⟨c::Am.get f.words k,Am.get g.words k,zf⟩with
   |none=>
    rw[hp]at ht hv
    have h1:=hv.2 rfl
    refine Evt.cond (fun _=>Evt.pure ⟨ht,rfl⟩) (fun e=>by rw[h1]at e;cases e)
   |some t'=>
    rw[hp]at ht hv
    have h1:=hv.1 _ rfl
    subst h1
    refine Evt.cond (fun e=>by cases e) (fun _=>Evt.pure ⟨ht,d7I hte (d7J (hc.elim (fun h=>.inr (.inl h)) fun h=>.inr (.inr h))) hp,hth.mono (YJ hp).2.1⟩)
  by_cases h1:Am.get f.words k∈bd
  ·rw[if_pos h1]at ht
   have e1:mkw s.words bd (Am.get f.words k)=63::Am.get f.words k:=by unfold mkw;rw[if_pos h1]
   rw[e1]
   have h2:=hth _ h1
   simp only[h2]
   exact fin 63 (.inr rfl) ht
  ·rw[if_neg h1]at ht
   by_cases h2:Am.get f.words k∈s.words
   ·rw[if_pos h2]at ht
    have e1:mkw s.words bd (Am.get f.words k)=46::Am.get f.words k:=by unfold mkw;rw[if_neg h1,if_pos h2]
    rw[e1]
    have h3:decide (46::Am.get f.words k∈(Zo s).words)=true:=decide_eq_true (d0O.2 h2)
    simp only[h3]
    cases h4:(assoc (46::Am.get f.words k) t).isSome
    ·exact fin 46 (.inl rfl) ht
    ·exact fin 46 (.inl rfl) ht
   ·rw[if_neg h2]at ht
    have e1:mkw s.words bd (Am.get f.words k)=Am.get f.words k:=by unfold mkw;rw[if_neg h1,if_neg h2]
    rw[e1]
    have h3:(assoc (Am.get f.words k) t).isSome=false:=by rw[i3o hte nx];rfl
    have h4:decide (Am.get f.words k∈(Zo s).words)=false:=decide_eq_false fun h=>nx (d7K (.inr (.inr (.inl rfl))) h)
    simp only[h3,h4]
    refine Evt.chk (by omega) (Evt.cond (fun e=>Evt.pure ?_) (fun e=>Evt.pure ?_))
    ·replace e:=bx e
     rw[if_neg e]at ht
     exact⟨ht,rfl⟩
    ·replace e:=bx e
     rw[if_pos e]at ht
     exact⟨ht,hte,hth⟩
 ·cases e with
  |ret r=>exact h
  |nxt t=>
   obtain⟨h1,h2,h3⟩:=h.elim id False.elim
   rw[List.drop_length,i5n]at h1
   exact⟨h1,h2,h3⟩
open Classical in
theorem i7R:∀(m:Nat) (f:Ox),SizeOf.sizeOf f≤m→WfF f→∀(g:Ox),WfF g→∀(bd:List Bs) (env:Env),ZJ env→Has bd env→
 Evt (fun n=>Pn n (Zo s) (Td s f bd) g env) (RM ((pts s f bd g).bind (Vo env))):=by
 intro m
 induction m with
 |zero=>intro f h;cases f;simp only[Ox.mk.sizeOf_spec]at h;omega
 |succ m ih=>
  intro f hf hwf g hwg bd env he hh
  have hnf:=Uk ((Uf f).1 hwf).1
  have hng:=Uk ((Uf g).1 hwg).1
  have hml:(Td s f bd).words.length=f.words.length:=by rw[Wk];exact List.length_map _
  have hmk:(Td s f bd).kind=f.kind:=by rw[Wk];rfl
  have hmn:(Td s f bd).name=mkn s f:=by rw[Wk];rfl
  have hms:(Td s f bd).subs=Tr s f.subs (if QK f.kind then f.name::bd else bd):=by rw[Wk];rfl
  have hk2:f.kind=2→¬QK f.kind:=fun h=>by unfold QK;omega
  have hplain:f.kind=2→¬IsKey f.name:=fun h=>d5q (hnf.2.2.1 (.inl h))
  have hpart:VO (Zo s) (Td s f bd)↔VO s f:=by
   unfold VO
   rw[hmk,hml,hmn]
   constructor
   ·rintro⟨h1,h2⟩
    refine⟨h1,?_⟩
    unfold mkn at h2
    rw[if_neg (hk2 h1.1)]at h2
    split at h2
    ·rename_i h3;exact h3.2
    ·exfalso
     obtain⟨y,_,e⟩:=List.mem_map.1 h2
     split at e
     ·cases (List.cons.inj e).1
     ·exact hplain h1.1 (e▸ ⟨43,y,rfl,by simp⟩)
   ·rintro⟨h1,h2⟩
    refine⟨h1,?_⟩
    unfold mkn
    rw[if_neg (hk2 h1.1),if_pos (show VO s f from⟨h1,h2⟩)]
    exact d0O.2 h2
  refine Evt.succ ?_
  simp only[Pn,i1G,Option.bind_some,WU,TG,hmk,hml,hmn]
  rw[i4i]
  refine Evt.cond (fun e=>?_) (fun e=>?_)
  ·have hp:VO s f:=hpart.1 (of_decide_eq_true e)
   rw[if_pos hp]
   have i9N:mkn s f=43::f.name:=by unfold mkn;rw[if_neg (hk2 hp.1.1),if_pos hp]
   rw[i9N]
   show Evt _ (RM (Vo env [_]))
   rw[d8H]
   unfold d4c
   cases h:assoc (43::f.name) env with
   |none=>
    refine Evt.cond (fun e=>by simp at e) (fun _=>Evt.Tg (Evt.pure ?_))
    exact⟨fun e he=>by cases he;rfl,fun he=>by cases he⟩
   |some b=>
    refine Evt.cond (fun _=>?_) (fun e=>by simp at e)
    obtain⟨h1,h2⟩:=he _ _ h
    have hsm:=h2.1
    have htx:b.text=[]:=by
     rcases h2.2 with⟨z,e1,e2⟩|⟨c',z,e1,hc',e2⟩
     ·exact e2
     ·rw[h1]at e1
      have:=(List.cons.inj e1).1
      rcases hc' with rfl|rfl|rfl<;>cases this
    have hiff:b=⟨43::f.name,[],g⟩↔b.form=g:=by
     constructor
     ·intro e;rw[e]
     ·intro e
      cases b
      simp only at h1 htx e
      rw[h1,htx,e]
    refine Evt.bind (i1M _ b.form (Nat.le_refl _) hsm g) fun v hv=>Evt.pure ?_
    subst hv
    by_cases hb:b.form=g
    ·simp only[if_pos (hiff.2 hb),decide_eq_true hb]
     exact⟨fun e he=>by cases he;rfl,fun he=>by cases he⟩
    ·simp only[if_neg fun e=>hb (hiff.1 e),decide_eq_false hb]
     exact⟨fun e he=>(by cases he),fun _=>rfl⟩
  have hp:¬VO s f:=fun h=>(of_decide_eq_false e) (hpart.2 h)
  rw[if_neg hp]
  refine Evt.cond (fun e=>Evt.pure ?_) (fun e=>?_)
  ·have hc:f.kind≠g.kind∨f.words.length≠g.words.length:=Classical.byContradiction fun h=>by
    obtain⟨h1,h2⟩:=not_or.1 h
    have h1:=Classical.not_not.1 h1
    have h2:=Classical.not_not.1 h2
    simp[h1,h2]at e
   rw[if_pos hc]
   exact⟨fun e he=>(by cases he),fun _=>rfl⟩
  have hk:f.kind=g.kind:=Classical.byContradiction fun h=>by simp[h]at e
  have hl:f.words.length=g.words.length:=Classical.byContradiction fun h=>by
   have:¬((f.words.length:Int)=(g.words.length:Int)):=by omega
   simp[this]at e
  rw[if_neg fun h=>h.elim (fun h=>h hk) (fun h=>h hl),d1v]
  have hsl:f.subs.length=g.subs.length:=by have:=hnf.1;have:=hng.1;rw[hk]at *; omega
  have rest:∀d9E:Env,ZJ d9E→Has bd d9E→Has (if QK f.kind then f.name::bd else bd) d9E→Evt (fun n=>Qk (Pn n) (Td s f bd) (Zo s) g d9E) (RM ((cat (ptw s.words bd f.words g.words) (d1w s f.subs (if QK f.kind then f.name::bd else bd) g.subs)).bind (Vo d9E))):=by
   intro d9E he1 hh1 i9O
   rw[d1v]
   unfold Qk
   refine Evt.Pg (d8I hwf hl bd he1 hh1) (fun t ht=>?_) (fun r hr=>?_)
   ·obtain⟨ht,hte,hth⟩:=ht
    have hmono:Has (if QK f.kind then f.name::bd else bd) t:=by
     cases hw:ptw s.words bd f.words g.words with
     |none=>rw[hw]at ht;cases ht
     |some ps=>rw[hw]at ht;exact i9O.mono (ZF _ _ _ ht).2.1
    rw[ht]
    unfold Sp
    rw[hms,d1u]
    refine Evt.Pg (P:=ExP (fun t'=>(d1w s f.subs (if QK f.kind then f.name::bd else bd) g.subs).bind (Vo t)=some t') (fun r=>(d1w s f.subs (if QK f.kind then f.name::bd else bd) g.subs).bind (Vo t)=none∧r.1=false)) ((Evt.range (fun k t'=>(d1w s f.subs (if QK f.kind then f.name::bd else bd) g.subs).bind (Vo t)=(d1w s (f.subs.drop k) (if QK f.kind then f.name::bd else bd) (g.subs.drop k)).bind (Vo t')∧ZJ t'∧Has (if QK f.kind then f.name::bd else bd) t') (fun _=>False) (fun r=>(d1w s f.subs (if QK f.kind then f.name::bd else bd) g.subs).bind (Vo t)=none∧r.1=false) ⟨rfl,hte,hmono⟩ (fun k t' hk ht'=>?_)).mono fun e h=>?_) (fun t' ht'=>?_) (fun r hr=>?_)
    ·obtain⟨ht',i7S,i7T⟩:=ht'
     have hkg:k<g.subs.length:=by omega
     have hkm:Am.get (Td s f bd).subs k=Td s (Am.get f.subs k) (if QK f.kind then f.name::bd else bd):=by
      rw[hms]
      have:∀(l:List Ox) (bd:List Bs) (k:Nat),k<l.length→Am.get (Tr s l bd) k=Td s (Am.get l k) bd:=by
       intro l
       induction l with
       |nil=>intro bd k h;cases h
       |cons a l ih=>
        intro bd k h
        rw[Tr]
        cases k with
        |zero=>rfl
        |succ k=>exact ih bd k (by simpa using h)
      exact this _ _ _ hk
     have e1:f.subs.drop k=Am.get f.subs k::f.subs.drop (k+1):=by rw[List.drop_eq_getElem_cons hk];simp[Am.get,hk]
     have e2:g.subs.drop k=Am.get g.subs k::g.subs.drop (k+1):=by rw[List.drop_eq_getElem_cons hkg];simp[Am.get,hkg]
     rw[e1,e2,d1w,d1v]at ht'
     unfold Sq
     simp only[hkm]
     have hsz:=Rw hk
     refine Evt.chk (by omega) (Evt.bind (ih _ (by omega) (d4C hwf hk) _ (d4C hwg hkg) _ t' i7S i7T) fun v hv=>?_)
     cases hp:(pts s (Am.get f.subs k) (if QK f.kind then f.name::bd else bd) (Am.get g.subs k)).bind (Vo t')with
     |none=>
      rw[hp]at ht' hv
      have h1:=hv.2 rfl
      exact Evt.cond (fun _=>Evt.pure ⟨ht',rfl⟩) (fun e=>by rw[h1]at e;cases e)
     |some t''=>
      rw[hp]at ht' hv
      have h1:=hv.1 _ rfl
      subst h1
      refine Evt.cond (fun e=>by cases e) (fun _=>Evt.pure ⟨ht',?_,?_⟩)
      ·cases hq:pts s (Am.get f.subs k) (if QK f.kind then f.name::bd else bd) (Am.get g.subs k)with
       |none=>rw[hq]at hp;cases hp
       |some ps=>rw[hq]at hp;exact i1I i7S (i1K s _ _ _ (WfF.sm _ (d4C hwg hkg)) ps hq) hp
      ·cases hq:pts s (Am.get f.subs k) (if QK f.kind then f.name::bd else bd) (Am.get g.subs k)with
       |none=>rw[hq]at hp;cases hp
       |some ps=>rw[hq]at hp;exact i7T.mono (ZF _ _ _ hp).2.1
    ·cases e with
     |ret r=>exact h
     |nxt t'=>
      obtain⟨h1,h2,h3⟩:=h.elim id False.elim
      rw[List.drop_length,d1w]at h1
      exact h1
    ·unfold Sr
     have ht':(d1w s f.subs (if QK f.kind then f.name::bd else bd) g.subs).bind (Vo t)=some t':=ht'
     refine Evt.pure ?_
     show RM ((some t).bind _) _
     rw[Option.bind_some,ht']
     exact⟨fun e he=>by cases he;rfl,fun he=>by cases he⟩
    ·show RM ((some t).bind _) _
     rw[Option.bind_some,hr.1]
     exact⟨fun e he=>(by cases he),fun _=>hr.2⟩
   ·rw[hr.1]
    exact⟨fun e he=>(by cases he),fun _=>hr.2⟩
  have i7U:∀c:UInt8,c=33∨c=63→mkn s f=c::f.name→pth s f g=some [⟨c::f.name,g.name,zf⟩]→(QK f.kind→c=63)→Evt (fun n=>PE (Pn n) (Td s f bd) g env (Zo s) true) (RM (((pth s f g).bind (Vo env)).bind fun s'=>(cat (ptw s.words bd f.words g.words) (d1w s f.subs (if QK f.kind then f.name::bd else bd) g.subs)).bind (Vo s'))):=by
   intro c hc hm hpt hq
   have hc3:c=33∨c=46∨c=63:=hc.elim .inl fun h=>.inr (.inr h)
   unfold PE
   simp only[cond_true,hmn,hm,hpt]
   have e0:(some [(⟨c::f.name,g.name,zf⟩:OB)]).bind (Vo env)=d4c env ⟨c::f.name,g.name,zf⟩:=by
    show Vo env [_]=_
    rw[Vo]
    cases d4c env ⟨c::f.name,g.name,zf⟩<;>rfl
   rw[e0]
   refine Evt.bind (d3y he hc3 f.name g.name) fun v hv=>?_
   cases hp:d4c env ⟨c::f.name,g.name,zf⟩with
   |none=>
    rw[hp]at hv
    have h1:=hv.2 rfl
    exact Evt.cond (fun _=>Evt.pure ⟨fun e he=>(by cases he),fun _=>rfl⟩) (fun e=>by rw[h1]at e;cases e)
   |some t=>
    rw[hp]at hv
    have h1:=hv.1 _ rfl
    subst h1
    refine Evt.cond (fun e=>by cases e) (fun _=>?_)
    have hm1:=hh.mono (YJ hp).2.1
    refine rest t (d7I he (d7J hc3) hp) hm1 ?_
    by_cases hqk:QK f.kind
    ·rw[if_pos hqk]
     intro x hx
     rcases List.mem_cons.1 hx with rfl|hx
     ·have:=(YJ hp).1
      obtain rfl:=hq hqk
      show(assoc (63::f.name) t).isSome=true
      rw[show assoc (63::f.name) t=some _ from this];rfl
     ·exact hm1 x hx
    ·rw[if_neg hqk];exact hm1
  refine Evt.cond (fun e=>?_) (fun e=>?_)
  ·have hq:QK f.kind:=of_decide_eq_true e
   rw[e]
   exact i7U 63 (.inr rfl) (by unfold mkn;rw[if_pos hq]) (by unfold pth;rw[if_pos hq]) (fun _=>rfl)
  ·have hq:¬QK f.kind:=of_decide_eq_false e
   have d9F:mkn s f=if f.kind=2∧f.name∈s.PA then 33::f.name else f.name:=by unfold mkn;rw[if_neg hq,if_neg hp]
   refine Evt.bind (P:=fun v=>f.kind=2→v=decide (mkn s f∈(Zo s).PA)) (Evt.gd (fun _=>Evt.pure fun _=>rfl) (fun g h=>by simp[h]at g)) fun v hv=>?_
   by_cases hpr:f.kind=2∧f.name∈s.PA
   ·rw[if_pos hpr]at d9F
    have h1:=hv hpr.1
    rw[d9F,decide_eq_true (show(33::f.name:Bs)∈(Zo s).PA from d0O.2 hpr.2)]at h1
    have e2:(bif decide (f.kind=2)then v else false)=true:=by simp[hpr.1,h1]
    rw[e2]
    exact i7U 33 (.inl rfl) d9F (by unfold pth;rw[if_neg hq,if_pos hpr]) (fun h=>absurd h hq)
   ·rw[if_neg hpr]at d9F
    have e2:(bif decide (f.kind=2)then v else false)=false:=by
     by_cases h2:f.kind=2
     ·have h1:=hv h2
      rw[d9F,decide_eq_false (show ¬f.name∈(Zo s).PA from fun h=>hplain h2 (d7K (.inl rfl) h))]at h1
      simp[h1]
     ·simp[h2]
    rw[e2]
    have hpt:pth s f g=if f.name=g.name then some []else none:=by unfold pth;rw[if_neg hq,if_neg hpr]
    unfold PE
    simp only[cond_false,hmn,d9F,hpt]
    refine Evt.cond (fun e=>Evt.pure ?_) (fun e=>?_)
    ·replace e:=bx e
     rw[if_neg e]
     exact⟨fun e he=>(by cases he),fun _=>rfl⟩
    ·replace e:=bx e
     rw[if_pos e]
     exact rest env he hh (by rw[if_neg hq];exact hh)
end
mutual
theorem i3p(s:OG):∀(f:Ox) (bd:List Bs),ndF (Td s f bd)=ndF f
 | .mk k n w l,bd=>by rw[Td,ndF,ndF,d6v s l]
theorem d6v(s:OG):∀(l:List Ox) (bd:List Bs),Tx (Tr s l bd)=Tx l
 | [],bd=>by rw[Tr]
 |f::l,bd=>by rw[Tr,Tx,Tx,i3p s f,d6v s l]
end
mutual
theorem i3q(s:OG):∀(f:Ox) (bd:List Bs),qs (Td s f bd)=(qs f).map (63:: ·)
 | .mk k n w l,bd=>by
   rw[Td,qs,qs,d6w s l,List.map_append]
   by_cases h:QK k
   ·have:mkn s (.mk k n w l)=63::n:=by unfold mkn;exact if_pos h
    simp only[if_pos h,this];rfl
   ·simp only[if_neg h];rfl
theorem d6w(s:OG):∀(l:List Ox) (bd:List Bs),qsL (Tr s l bd)=(qsL l).map (63:: ·)
 | [],bd=>by rw[Tr,qsL];rfl
 |f::l,bd=>by rw[Tr,qsL,qsL,i3q s f,d6w s l,List.map_append]
end
def i9P(s:OG):List Bs:=(s.words.map (46:: ·)++s.PA.map (33:: ·)++s.parts.map (43:: ·))++(qs s.form).map (63:: ·)
def txE(e:Env)(k:Bs):Bs:=((assoc k e).getD default).text
def fmE(e:Env)(k:Bs):Ox:=((assoc k e).getD default).form
def caught(s:OG)(e:Env):Prop:=∃w∈s.words,txE e (46::w)∈(qs s.form).map fun x=>txE e (63::x)
open Classical in
noncomputable def p1I(s:OG)(g:Ox):List OB×Bool:=match (pts s s.form [] g).bind (Vo [])with
 |none=>([],false)
 |some e=>if caught s e then([],false)else((i9P s).map fun k=>⟨k.drop 1,txE e k,fmE e k⟩,true)
theorem i5o(u:Nat):∀c∈Lib.decDigits u,48≤c.toNat∧c.toNat≤57:=by
 induction u using Nat.strongRecOn with
 | _ u ih=>
   have one:∀v:Nat,v<10→48≤(UInt8.ofNat (48+v)).toNat∧(UInt8.ofNat (48+v)).toNat≤57:=fun v hv=>by
    simp only[UInt8.toNat_ofNat'];omega
   intro c hc
   by_cases h:u<10
   ·rw[Lib.decDigits,dif_pos h,List.mem_singleton]at hc
    subst hc;exact one u h
   ·rw[Lib.decDigits,dif_neg h]at hc
    rcases List.mem_append.1 hc with hc|hc
    ·exact ih (u / 10) (by omega) c hc
    ·rw[List.mem_singleton]at hc
     subst hc;exact one _ (Nat.mod_lt _ (by decide))
theorem i5p{m:Nat}(h:m≤1000000000):PK (vn m):=by
 have hl:=d7G h
 refine⟨by simp[vn],by simp[vn];omega,by simp[vn,UO],fun k hk=>?_⟩
 unfold OkC UO
 rw[Int.toNat_natCast]
 cases k with
 |zero=>left;simp[vn]
 |succ k=>
  right;left
  have hk2:k<(Lib.decDigits m).length:=by simpa[vn]using hk
  have:(vn m).getD (k+1) 0=(Lib.decDigits m)[k]:=by simp[vn,hk2]
  rw[this]
  have:=i5o m _ (List.getElem_mem hk2)
  omega
theorem i1N{k:Int}{n n':Bs}{w w':List Bs}{l l':List Ox}(h:UY (.mk k n w l)=0)(hn:k=2→n'=n)(hq:QK k→PK n')(hn2:¬(k=2∨QK k)→n'=n)(hw:w'.length=w.length)(hl:l'.length=l.length)(hx:∀x∈w',PK x):UY (.mk k n' w' l')=0:=by
 have o:=Uk h
 refine i3g (by have:=o.1;show 0≤arF k;have h2:((l.length:Nat):Int)=arF k:=this;omega) (by show(l'.length:Int)=arF k;rw[hl];exact o.1) (by show Zk k w'.length;rw[hw];exact o.2.1) (fun h=>?_) (fun h=>?_) hx
 ·rcases h with h|h
  ·have h:k=2:=h
   have:=o.2.2.1 (.inl h)
   show PK n'
   rw[hn h];exact this
  ·exact hq h
 ·show n'=[]
  rw[hn2 h];exact o.2.2.2.1 h
mutual
theorem i4k(N:Nat→Bs)(q:Nat)(hN:∀i,i<q→PK (N i)):∀(f:Ox) (env:List (Bs×Bs)) (i:Nat),WfF f→i+nq f≤q→(∀p∈env,PK p.2)→WfF (ren N f env i)
 | .mk k n w s,env,i,h,hq,i4h=>by
   have h0:=(Uf _).1 h
   have hnn:UY (.mk k n w s)=0:=h0.1
   have hss:ZB s:=h0.2
   rw[nq]at hq
   rw[ren,Uf]
   refine⟨i1N hnn (fun e=>if_neg (by unfold QK;omega)) (fun e=>?_) (fun e=>if_neg fun e2=>e (.inr e2)) (List.length_map _) (Vm _ _ _ _) (fun x hx=>?_),?_⟩
   ·rw[if_pos e]
    rw[if_pos e]at hq
    exact hN i (by omega)
   ·obtain⟨y,hy,rfl⟩:=List.mem_map.1 hx
    have hyn:PK y:=i1H h hy
    by_cases hm:y∈env.map (·.1)
    ·obtain⟨p,hp,e⟩:=List.mem_map.1 (d7C hm)
     rw[←e];exact i4h p hp
    ·rw[d7B fun p hp e=>hm (List.mem_map.2 ⟨p,hp,e⟩)];exact hyn
   ·refine i1O N q hN s _ _ hss ?_ (fun p hp=>?_)
    ·by_cases e:QK k
     ·simp only[if_pos e]at hq ⊢; omega
     ·simp only[if_neg e]at hq ⊢; omega
    ·by_cases e:QK k
     ·rw[if_pos e]at hp
      rw[if_pos e]at hq
      rcases List.mem_cons.1 hp with rfl|hp
      ·exact hN i (by omega)
      ·exact i4h p hp
     ·rw[if_neg e]at hp;exact i4h p hp
theorem i1O(N:Nat→Bs)(q:Nat)(hN:∀i,i<q→PK (N i)):∀(l:List Ox) (env:List (Bs×Bs)) (i:Nat),ZB l→i+nqL l≤q→(∀p∈env,PK p.2)→ZB (Sc N l env i)
 | [],env,i,_,_,_=>by rw[Sc,ZB];trivial
 |f::l,env,i,h,hq,i4h=>by
  rw[nqL]at hq
  rw[Sc,ZB]
  exact⟨i4k N q hN f env i (Qt.1 h f (List.mem_cons_self ..)) (by omega) i4h,i1O N q hN l env _ (Qt.2 fun x hx=>Qt.1 h x (List.mem_cons_of_mem _ hx)) (by omega) i4h⟩
end
theorem i3r{f:Ox}(h:OkF f):∃C:List Bs,C.length≤600∧∀x,fre f [] x↔x∈C:=by
 have:=h.2.1
 obtain⟨C,hC,_⟩:=d1S h.1 (by omega)
 exact⟨C,by omega,fun x=>(hC.1 x).symm⟩
theorem i9Q{f:Ox}(h:OkF f):OkF (cf f):=by
 obtain⟨C,hCl,hC⟩:=i3r h
 have hnd:=h.2.1
 have hq:=i1o f
 have p1J:=d8C (fun x=>(hC x).1) 600 hCl
 refine⟨i4k _ 200 (fun i hi=>i5p (by have:=p1J i;omega)) f [] 0 h.1 (by omega) (fun p hp=>by cases hp),?_,?_⟩
 ·unfold cf;rw[i1t];exact h.2.1
 ·unfold cf;rw[i1v];exact h.2.2
theorem i3s(f:Ox):Ox.mk f.kind f.name f.words f.subs=f:=by cases f;rfl
theorem d4d{l:List Bs}(hl:l.length≤8000000):Evt (fun n=>Ql n l l) (fun b=>b=true):=by
 unfold Ql
 refine Evt.cond (fun e=>by simp at e) (fun _=>?_)
 refine Evt.Pg (Evt.i1m l.length (fun k s=>s=(k:Int)) (fun _=>True) (fun _=>False) rfl (fun k s hk hs=>?_) (fun s hs=>?_)) (fun t ht=>?_) (fun r hr=>?_)
 ·subst hs
  unfold PO
  refine Evt.cond (fun _=>Evt.chk (by omega) (Evt.chk (by omega) (Evt.cond (fun e=>by simp at e) (fun _=>Evt.pure ?_)))) (fun e=>by replace e:=bx e;omega)
  exact(d0H (by omega) (by omega)).trans rfl
 ·subst hs
  unfold PO
  exact Evt.cond (fun e=>by replace e:=bx e;omega) (fun _=>Evt.pure trivial)
 ·exact Evt.pure rfl
 ·exact False.elim hr
theorem d0P:∀(m:Nat) (f:Ox),SizeOf.sizeOf f≤m→SmF f→Evt (fun n=>Pm n f f) (fun b=>b=true):=by
 intro m
 induction m with
 |zero=>intro f h;cases f;simp only[Ox.mk.sizeOf_spec]at h;omega
 |succ m ih=>
  intro f hf hsm
  obtain⟨hws,hsl,hsm⟩:=(d4F f).1 hsm
  refine Evt.succ ?_
  simp only[Pm]
  refine Evt.bind (P:=fun v=>v=true) (Evt.gd (fun _=>d4d (by omega)) (fun h=>by simp at h)) fun v hv=>?_
  subst hv
  refine Evt.cond (fun e=>by simp at e) (fun _=>?_)
  refine Evt.Pg (Evt.i1m f.subs.length (fun k s=>s=(k:Int)) (fun _=>True) (fun _=>False) rfl (fun k s hk hs=>?_) (fun s hs=>?_)) (fun t ht=>?_) (fun r hr=>?_)
  ·subst hs
   unfold PZ
   have hsz:=Rw hk
   refine Evt.cond (fun _=>Evt.chk (by omega) (Evt.chk (by omega) ?_)) (fun e=>by replace e:=bx e;omega)
   simp only[Int.toNat_natCast]
   refine Evt.bind (ih _ (by omega) (d2t hsm _ (get_mem hk))) fun v hv=>?_
   subst hv
   refine Evt.cond (fun e=>by cases e) (fun _=>Evt.pure ?_)
   exact(d0H (by omega) (by omega)).trans rfl
  ·subst hs
   unfold PZ
   exact Evt.cond (fun e=>by replace e:=bx e;omega) (fun _=>Evt.pure trivial)
  ·exact Evt.pure rfl
  ·exact False.elim hr
theorem d8J{f:Ox}(h:SmF f):f.words.length≤3:=((d4F f).1 h).1
theorem d1x{f:Ox}(h:SmF f):f.subs.length≤2:=((d4F f).1 h).2.1
theorem d0Q{f:Ox}(h:SmF f){k:Nat}(hk:k<f.subs.length):SmF (Am.get f.subs k):=d2t ((d4F f).1 h).2.2 _ (get_mem hk)
theorem d7L:∀(m:Nat) (f:Ox),SizeOf.sizeOf f≤m→SmF f→∀(bd l:List Bs),bd.length+ndF f≤100000→l.length+3*ndF f≤300000→
 Evt (fun n=>Po n f bd l) (fun r=>(∀x,x∈r↔x∈l∨fre f bd x)∧r.length≤l.length+3*ndF f):=by
 intro m
 induction m with
 |zero=>intro f h;cases f;simp only[Ox.mk.sizeOf_spec]at h;omega
 |succ m ih=>
  intro f hf hwf bd l hbd hl
  have hnd:=d4A f
  have hws:=d8J hwf
  refine Evt.succ ?_
  simp only[Po]
  refine Evt.Pg (P:=ExP (fun t=>(∀x,x∈t↔x∈l∨(x∈f.words∧x∉bd))∧t.length≤l.length+3) (fun _=>False)) ((Evt.range (fun k s=>(∀x,x∈s↔x∈l∨(x∈f.words.take k∧x∉bd))∧s.length≤l.length+k) (fun _=>False) (fun _=>False) ⟨fun x=>by simp,by omega⟩ (fun k s hk hi=>?_)).mono fun e he=>?_) (fun t ht=>?_) (fun _ h=>h.elim)
  ·unfold Rf
   simp only[TG,Option.bind_some]
   refine Evt.cond (fun e=>Evt.Tg (Evt.chk ?_ (Evt.pure ⟨fun x=>?_,?_⟩))) (fun e=>Evt.pure ⟨fun x=>?_,by omega⟩)
   ·rw[Vl];simp only[List.length_append,List.length_cons,List.length_nil];omega
   ·replace e:=bx e
    rw[List.mem_append,hi.1 x,QL hk,List.mem_append,List.mem_singleton]
    by_cases hx:x=Am.get f.words k
    ·subst hx;simp[e]
    ·simp[hx]
   ·simp only[List.length_append,List.length_cons,List.length_nil];omega
   ·replace e:=bx e
    rw[hi.1 x,QL hk,List.mem_append,List.mem_singleton]
    by_cases hx:x=Am.get f.words k
    ·subst hx;simp[e]
    ·simp[hx]
  ·cases e with
   |ret r=>exact he
   |nxt t=>
    obtain⟨h1,h2⟩:=he.elim id False.elim
    rw[List.take_length]at h1
    exact⟨h1,by omega⟩
  ·obtain⟨h1,h2⟩:=ht
   have key:∀bd':List Bs,(∀y,y∈bd'↔y∈(if QK f.kind then f.name::bd else bd))→bd'.length≤bd.length+1→Evt (fun n=>PF (Po n) f t bd') (fun r=>(∀x,x∈r↔x∈l∨fre f bd x)∧r.length≤l.length+3*ndF f):=by
    intro bd' hb hbl
    unfold PF
    refine Evt.Pg (P:=ExP (fun r=>(∀x,x∈r↔x∈t∨XZ f.subs bd' x)∧r.length≤t.length+3*Tx f.subs) (fun _=>False)) ((Evt.range (fun k s=>(∀x,x∈s↔x∈t∨XZ (f.subs.take k) bd' x)∧s.length≤t.length+3*Tx (f.subs.take k)) (fun _=>False) (fun _=>False) ⟨fun x=>by simp[XZ],by omega⟩ (fun k s hk hi=>?_)).mono fun e he=>?_) (fun r hr=>?_) (fun _ h=>h.elim)
    ·unfold Rg
     have hsz:=Rw hk
     have htk:=Xj hk
     refine Evt.bind (ih _ (by omega) (d0Q hwf hk) bd' s (by omega) (by omega)) fun v hv=>Evt.pure ⟨fun x=>?_,?_⟩
     ·rw[hv.1 x,hi.1 x,QL hk,d6q,or_assoc]
     ·rw[QL hk,Zn]
      have:=hv.2
      have:=hi.2
      omega
    ·cases e with
     |ret r=>exact he
     |nxt r=>
      have:=he.elim id False.elim
      rw[List.take_length]at this
      exact this
    ·obtain⟨h3,h4⟩:=hr
     unfold Rh
     refine Evt.pure ⟨fun x=>?_,by omega⟩
     rw[h3 x,h1 x,i4d,ZC f.subs _ _ hb x,or_assoc]
   unfold Ri
   simp only[WU,Option.bind_some]
   refine Evt.cond (fun e=>Evt.chk (by omega) (Evt.Tg (Evt.chk ?_ (key _ (fun y=>?_) ?_)))) (fun e=>key _ (fun y=>?_) (by omega))
   ·rw[Vl];simp only[List.length_append,List.length_cons,List.length_nil];omega
   ·replace e:=bx e
    rw[if_pos e];simp[or_comm]
   ·simp
   ·replace e:=bx e
    rw[if_neg e]
theorem d5r{f:Ox}(hwf:SmF f)(hn:ndF f≤50000):Evt (fun n=>Qy n f) (fun r=>(∀x,x∈r↔fre f [] x)∧r.length≤3*ndF f):=by
 unfold Qy
 refine Evt.bind (d7L _ f (Nat.le_refl _) hwf [] [] (by simp;omega) (by simp;omega)) fun v hv=>?_
 obtain⟨h1,h2⟩:=hv
 simp only[List.length_nil,Nat.zero_add]at h2
 unfold PJ Qf
 have hlen:(Yp cfB v).length=v.length:=(TM cfB v).length_eq
 refine Evt.bind (Evt.chk (by omega) (Evt.pure (P:=fun r=>r=Yp cfB v) rfl)) fun r hr=>?_
 subst hr
 refine Evt.bind (Evt.chk (by omega) (Evt.pure (P:=fun r=>True) trivial)) fun _ _=>Evt.pure ⟨fun x=>?_,?_⟩
 ·rw[d3v,(TM cfB v).mem_iff,h1 x]
  simp
 ·have:=Lib.compact_length_le (Yp cfB v)
  omega
theorem d7M{p:Bs→Prop}{C:List Bs}(hC:∀x,x∈C↔p x)(hCl:C.length≤10000):∀(m:Nat) (f:Ox),SizeOf.sizeOf f≤m→SmF f→∀(env:List OJ) (i b:Nat),env.length+ndF f≤100000→i+nq f≤1000→nx p b=num p i→
 Evt (fun n=>PD n f env (b:Int) C) (fun r=>r.1=ren (NN p) f (d1t env) i∧∃b':Nat,r.2=(b':Int)∧nx p b'=num p (i+nq f)):=by
 intro m
 have hC2:∀x,p x→x∈C:=fun x=>(hC x).2
 induction m with
 |zero=>intro f h;cases f;simp only[Ox.mk.sizeOf_spec]at h;omega
 |succ m ih=>
  intro f hf hwf env i b i4h hi hb
  have hnd:=d4A f
  have hws:=d8J hwf
  have hsl:=d1x hwf
  have hnq:=i3f f
  refine Evt.succ ?_
  simp only[PD]
  refine Evt.Pg (P:=ExP (fun t=>t=f.words.map (sub (d1t env))) (fun _=>False)) ((Evt.range (fun k s=>s=(f.words.take k).map (sub (d1t env))) (fun _=>False) (fun _=>False) (by simp) (fun k s hk hs=>?_)).mono fun e he=>?_) (fun t ht=>?_) (fun _ h=>h.elim)
  ·unfold Sh
   refine Evt.Pg (i7O (fun k=>(Am.get env k).from_) (fun k=>(Am.get env k).to_) env.length (by omega) (Am.get f.words k) (QM env f k) (fun j hj=>?_) rfl) (fun t ht=>?_) (fun _ h=>h.elim)
   ·unfold QM
    have e1:decide (0≤(j:Int))=true:=decide_eq_true (by omega)
    rw[e1,cond_true,d3j (by omega)]
    rfl
   ·unfold Si
    refine Evt.Tg (Evt.chk ?_ (Evt.pure ?_))
    ·subst hs
     rw[Vl];simp only[List.length_append,List.length_map,List.length_take,List.length_cons,List.length_nil];omega
    ·show _=_
     have ht:t=sub (d1t env) (Am.get f.words k):=ht
     rw[hs,ht,QL hk,List.map_append];rfl
  ·cases e with
   |ret r=>exact he
   |nxt t=>
    have:=he.elim id False.elim
    rw[List.take_length]at this
    exact this
  ·subst ht
   have key:∀(env':List OJ) (nm:Bs) (j c:Nat),nm=(if QK f.kind then NN p i else f.name)→d1t env'=(if QK f.kind then(f.name,NN p i)::d1t env else d1t env)→j=i+(if QK f.kind then 1 else 0)→nx p c=num p j→env'.length≤env.length+1→
    Evt (fun n=>Qj (PD n) f C (f.words.map (sub (d1t env))) ((c:Int),nm,env')) (fun r=>r.1=ren (NN p) f (d1t env) i∧∃b':Nat,r.2=(b':Int)∧nx p b'=num p (i+nq f)):=by
    intro env' nm j c hnm i5k hj hc hlen
    have hjn:j+nqL f.subs=i+nq f:=by omega
    unfold Qj
    refine Evt.Pg (P:=ExP (fun t=>t.2=Sc (NN p) f.subs (d1t env') j∧∃b':Nat,t.1=(b':Int)∧nx p b'=num p (j+nqL f.subs)) (fun _=>False)) ((Evt.range (fun k s=>s.2=Sc (NN p) (f.subs.take k) (d1t env') j∧∃b':Nat,s.1=(b':Int)∧nx p b'=num p (j+nqL (f.subs.take k))) (fun _=>False) (fun _=>False) ⟨by simp[Sc],c,rfl,by simpa[nqL]using hc⟩ (fun k s hk hs=>?_)).mono fun e he=>?_) (fun t ht=>?_) (fun _ h=>h.elim)
    ·obtain⟨hs1,b',hs2,hs3⟩:=hs
     unfold Sj
     have hsz:=Rw hk
     have htk:=Xj hk
     have hqk:=ZD hk
     refine Evt.bind (P:=fun r=>r.1=ren (NN p) (Am.get f.subs k) (d1t env') (j+nqL (f.subs.take k))∧∃b'':Nat,r.2=(b'':Int)∧nx p b''=num p (j+nqL (f.subs.take k)+nq (Am.get f.subs k))) ?_ fun v hv=>Evt.Tg (Evt.chk ?_ (Evt.pure ?_))
     ·rw[hs2]
      exact ih _ (by omega) (d0Q hwf hk) env' _ b' (by omega) (by omega) hs3
     ·rw[Vl,hs1];simp only[List.length_append,Vm,List.length_take,List.length_cons,List.length_nil];omega
     ·obtain⟨hv1,b'',hv2,hv3⟩:=hv
      refine⟨?_,b'',hv2,?_⟩
      ·show s.2++[v.1]=_
       rw[hs1,hv1,QL hk,Xk]
      ·rw[hv3,QL hk,XK,Nat.add_assoc]
    ·cases e with
     |ret r=>exact he
     |nxt t=>
      have:=he.elim id False.elim
      rw[List.take_length]at this
      exact this
    ·obtain⟨ht1,b',ht2,ht3⟩:=ht
     unfold Sk
     refine Evt.pure ⟨?_,b',ht2,by rw[ht3,hjn]⟩
     show Ox.mk _ _ _ _=_
     rw[d4B,ht1,hnm,i5k,hj]
   unfold Sl
   simp only[WU,Option.bind_some]
   have hbl:=(i3k hC2 b).1
   have hnl:=d8C hC2 10000 hCl i
   refine Evt.cond (fun e=>?_) (fun e=>?_)
   ·replace e:=bx e
    rw[if_pos e]at hnq
    refine Evt.bind (d6s hC (b:=b) (by omega)) fun v hv=>Evt.chk (by omega) (Evt.Tg (Evt.chk ?_ ?_))
    ·rw[Vl];simp only[List.length_append,List.length_cons,List.length_nil];omega
    ·subst hv
     exact key _ _ (i+1) (nx p b+1) (by rw[if_pos e,hb];rfl) (by rw[if_pos e,d6t,hb];rfl) (by rw[if_pos e]) (by rw[hb];rfl) (by simp)
   ·replace e:=bx e
    rw[if_neg e]at hnq
    exact key _ _ i b (by rw[if_neg e]) (by rw[if_neg e]) (by rw[if_neg e];rfl) hb (by omega)
theorem i1P{f:Ox}(h:SmF f)(h2:ndF f≤200):Evt (fun n=>Sy n f) (fun r=>r=cf f):=by
 unfold Sy Ug
 have hq:=i1o f
 refine Evt.bind (P:=fun r=>r=cf f) (Evt.bind (d5r h (by omega)) fun v hv=>?_) fun v hv=>Evt.pure hv
 refine Evt.Pg (P:=ExP (fun _=>True) (fun _=>False)) ⟨.nxt (),trivial,0,fun n _=>rfl⟩ (fun _ _=>?_) (fun _ h=>h.elim)
 unfold Sm
 exact Evt.bind (d7M hv.1 (by omega) _ f (Nat.le_refl _) h [] 0 0 (by simp;omega) (by omega) rfl) fun r hr=>Evt.pure hr.1
def Aft(env env' Zp:List (Bs×Bs)):Prop:=∀w,PK w→sub env' (sub env w)=sub Zp w
theorem i7V{env:List (Bs×Bs)}{w:Bs}:sub env w=w∨∃p∈env,sub env w=p.2:=by
 by_cases h:w∈env.map (·.1)
 ·obtain⟨p,hp,e⟩:=List.mem_map.1 (d7C h)
  exact .inr ⟨p,hp,e.symm⟩
 ·exact .inl (d7B fun p hp e=>h (List.mem_map.2 ⟨p,hp,e⟩))
theorem Aft.put{N M:Nat→Bs}(hN:∀i j,N i=N j→i=j)(hN2:∀i,¬PK (N i)){env env' Zp:List (Bs×Bs)}{i:Nat}(he:∀p∈env,∃j,j<i∧p.2=N j)(h:Aft env env' Zp)(n:Bs):Aft ((n,N i)::env) ((N i,M i)::env') ((n,M i)::Zp):=fun w hw=>by
 by_cases e:n=w
 ·have a:sub ((n,N i)::env) w=N i:=by rw[Tq,if_pos e]
  have b:sub ((n,M i)::Zp) w=M i:=by rw[Tq,if_pos e]
  rw[a,b,Tq,if_pos rfl]
 ·have a:sub ((n,N i)::env) w=sub env w:=by rw[Tq,if_neg e]
  have b:sub ((n,M i)::Zp) w=sub Zp w:=by rw[Tq,if_neg e]
  rw[a,b,Tq,if_neg fun e2=>?_]
  ·exact h w hw
  ·rcases i7V (env:=env) (w:=w)with e3|⟨p,hp,e3⟩
   ·rw[e3]at e2
    exact hN2 i (e2▸hw)
   ·obtain⟨j,hj,e4⟩:=he p hp
    rw[e3,e4]at e2
    have:=hN _ _ e2
    omega
mutual
theorem i1Q(N M:Nat→Bs)(hN:∀i j,N i=N j→i=j)(hN2:∀i,¬PK (N i)):∀(f:Ox) (env env' Zp:List (Bs×Bs)) (i:Nat),WfF f→(∀p∈env,∃j,j<i∧p.2=N j)→Aft env env' Zp→ren M (ren N f env i) env' i=ren M f Zp i
 | .mk k n w s,env,env',Zp,i,hwf,he,ha=>by
   have hn:=((Uf _).1 hwf).1
   have hs:ZB s:=((Uf _).1 hwf).2
   have hw:=(Uk hn).2.2.2.2
   have e1:(w.map (sub env)).map (sub env')=w.map (sub Zp):=by
    rw[List.map_map]
    exact List.map_congr_left fun x hx=>ha x (hw x hx)
   rw[ren,ren,ren,e1]
   by_cases hq:QK k
   ·simp only[if_pos hq]
    rw[d5s N M hN hN2 s _ _ _ (i+1) hs (fun p hp=>by
     rcases List.mem_cons.1 hp with rfl|hp
     ·exact⟨i,by omega,rfl⟩
     ·obtain⟨j,h1,h2⟩:=he p hp
      exact⟨j,by omega,h2⟩) (Aft.put hN hN2 he ha n)]
   ·simp only[if_neg hq]
    rw[d5s N M hN hN2 s _ _ _ (i+0) hs he ha]
theorem d5s(N M:Nat→Bs)(hN:∀i j,N i=N j→i=j)(hN2:∀i,¬PK (N i)):∀(l:List Ox) (env env' Zp:List (Bs×Bs)) (i:Nat),ZB l→(∀p∈env,∃j,j<i∧p.2=N j)→Aft env env' Zp→Sc M (Sc N l env i) env' i=Sc M l Zp i
 | [],env,env',Zp,i,_,_,_=>by rw[Sc,Sc,Sc]
 |x::l,env,env',Zp,i,h,he,ha=>by
  rw[Sc,Sc,Sc,i1Q N M hN hN2 x _ _ _ i (Qt.1 h x (List.mem_cons_self ..)) he ha,i1r,d5s N M hN hN2 l _ _ _ (i+nq x) (Qt.2 fun y hy=>Qt.1 h y (List.mem_cons_of_mem _ hy)) (fun p hp=>by
   obtain⟨j,h1,h2⟩:=he p hp
   exact⟨j,by omega,h2⟩) ha]
end
theorem i7W{f:Ox}(h:WfF f){N:Nat→Bs}(hN:∀i j,N i=N j→i=j)(hN2:∀i,¬PK (N i)):cf (ren N f [] 0)=cf f:=by
 have e:fre (ren N f [] 0) []=fre f []:=by
  funext x
  exact propext (i1y N PK hN2 f [] 0 (fun x hx=>d8E f h _ x hx) (fun p hp=>by cases hp) x)
 show ren (NN (fre (ren N f [] 0) [])) (ren N f [] 0) [] 0=cf f
 rw[e]
 exact i1Q N _ hN hN2 f [] [] [] 0 h (fun p hp=>by cases hp) (fun w _=>rfl)
def qn(i:Nat):Bs:=63::Lib.decDigits (i+1)
theorem i7X(i j:Nat)(h:qn i=qn j):i=j:=by have:=d7F (List.cons.inj h).2;omega
theorem i5q(i:Nat):¬PK (qn i):=fun h=>by
 have:=h.2.2.1.1
 simp[UO,qn]at this
set_option maxRecDepth 1000000 in
theorem d1y(m:Nat):Pw (m+300)=some true:=by kernel_rfl
theorem d0R:Evt Pw (fun b=>b=true):=⟨true,rfl,300,fun n hn=>by
 obtain⟨m,rfl⟩:∃m,n=m+300:=⟨n-300,by omega⟩
 exact d1y m⟩
end Go.Proofs.YtfacbpehlibilaaGreatDoor
