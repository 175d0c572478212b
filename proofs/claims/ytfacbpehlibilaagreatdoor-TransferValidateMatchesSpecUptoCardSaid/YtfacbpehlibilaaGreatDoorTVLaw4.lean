import Derived.Test.YtfacbpehlibilaaGreatDoorTVLaw3
set_option linter.unusedVariables false
set_option linter.unusedSimpArgs false
namespace Go.Proofs.YtfacbpehlibilaaGreatDoor
open Go Go.Am
def Er(m E:List (Bs×Bs)):Prop:=∀w,(assoc w m).getD w=sub E w
theorem Er.nil:Er [] []:=fun w=>rfl
theorem Er.put{m E:List (Bs×Bs)}(h:Er m E)(a v:Bs):Er (r5j a v m) ((a,v)::E):=fun w=>by
 rw[r7H]
 by_cases e:a=w
 ·subst e
  rw[u3V,if_pos rfl];rfl
 ·rw[u6N (fun x=>e x.symm),if_neg e];exact h w
theorem w0X{k:Nat}(hk:k<10):(Lib.decDigits k).length=1:=by rw[Lib.decDigits,dif_pos hk];rfl
mutual
def ArF:p6w→Prop
 | .mk k _ w s=>((s.length:Nat):Int)=arF k∧w.length≤3∧s.length≤2∧u6a s
def u6a:List p6w→Prop
 | []=>True
 |f::l=>ArF f∧u6a l
end
theorem x3R(f:p6w):ArF f↔((f.subs.length:Nat):Int)=arF f.kind∧f.words.length≤3∧f.subs.length≤2∧u6a f.subs:=by cases f;rw[ArF];rfl
theorem w7w:∀ {l:List p6w},u6a l→∀x∈l,ArF x
 | [],_,x,h=>by cases h
 |f::l,h,x,hx=>by
  rw[u6a]at h
  rcases List.mem_cons.1 hx with rfl|hx
  ·exact h.1
  ·exact w7w h.2 x hx
theorem x3S{f:p6w}(h:ArF f){k:Nat}(hk:k<f.subs.length):ArF (Am.get f.subs k):=w7w ((x3R f).1 h).2.2.2 _ (get_mem hk)
mutual
theorem ArF.sm:∀(f:p6w),ArF f→SmF f
 | .mk k n w s,h=>by
   rw[ArF]at h
   rw[SmF]
   exact⟨h.2.1,h.2.2.1,u6a.sm s h.2.2.2⟩
theorem u6a.sm:∀(l:List p6w),u6a l→u9e l
 | [],_=>by rw[u9e];trivial
 |f::l,h=>by
  rw[u6a]at h
  rw[u9e]
  exact⟨ArF.sm f h.1,u6a.sm l h.2⟩
end
mutual
theorem WfF.ar:∀(f:p6w),WfF f→ArF f
 | .mk k n w s,h=>by
   rw[ArF]
   exact⟨(u1b ((u1l _).1 h).1).1,w2m h,w3l h,u6L.ar s ((u1l _).1 h).2⟩
theorem u6L.ar:∀(l:List p6w),u6L l→u6a l
 | [],_=>by rw[u6a];trivial
 |f::l,h=>by
  rw[u6a]
  exact⟨WfF.ar f (r7s.1 h f (List.mem_cons_self ..)),u6L.ar l (r7s.2 fun x hx=>r7s.1 h x (List.mem_cons_of_mem _ hx))⟩
end
mutual
theorem ArF.ren(N:Nat→Bs):∀(f:p6w) (env:List (Bs×Bs)) (i:Nat),ArF f→ArF (ren N f env i)
 | .mk k n w s,env,i,h=>by
   rw[ArF]at h
   rw[Go.Proofs.YtfacbpehlibilaaGreatDoor.ren,ArF]
   exact⟨by rw[u7T];exact h.1,by rw[List.length_map];exact h.2.1,by rw[u7T];exact h.2.2.1,u6a.ren N s _ _ h.2.2.2⟩
theorem u6a.ren(N:Nat→Bs):∀(l:List p6w) (env:List (Bs×Bs)) (i:Nat),u6a l→u6a (r9f N l env i)
 | [],env,i,_=>by rw[r9f,u6a];trivial
 |f::l,env,i,h=>by
  rw[u6a]at h
  rw[r9f,u6a]
  exact⟨ArF.ren N f env i h.1,u6a.ren N l env _ h.2⟩
end
section
variable {s:r5b}
open Classical in
theorem x8m:∀(m:Nat) (f:p6w),SizeOf.sizeOf f≤m→WfF f→∀(g:p6w),ArF g→∀(bd:List Bs) (env:Env),u6x env→Has bd env→
 Evt (fun n=>r5I n (u6w s) (u0t s f bd) g env) (RM ((pts s f bd g).bind (u1u env))):=by
 intro m
 induction m with
 |zero=>intro f h;cases f;simp only[p6w.mk.sizeOf_spec]at h;omega
 |succ m ih=>
  intro f hf hwf g hwg bd env he hh
  have hnf:=u1b ((u1l f).1 hwf).1
  have hng:=(x3R g).1 hwg
  have hml:(u0t s f bd).words.length=f.words.length:=by rw[u3j];exact List.length_map _
  have hmk:(u0t s f bd).kind=f.kind:=by rw[u3j];rfl
  have hmn:(u0t s f bd).name=mkn s f:=by rw[u3j];rfl
  have hms:(u0t s f bd).subs=u0H s f.subs (if QK f.kind then f.name::bd else bd):=by rw[u3j];rfl
  have hk2:f.kind=2→¬QK f.kind:=fun h=>by unfold QK;omega
  have hplain:f.kind=2→¬IsKey f.name:=fun h=>w3s (hnf.2.2.1 (.inl h))
  have hpart:r7r (u6w s) (u0t s f bd)↔r7r s f:=by
   unfold r7r
   rw[hmk,hml,hmn]
   constructor
   ·rintro⟨h1,h2⟩
    refine⟨h1,?_⟩
    unfold mkn at h2
    rw[if_neg (hk2 h1.1)]at h2
    split at h2
    ·rename_i h3;exact h3.2
    ·exfalso
     obtain⟨y,_,e⟩:=List.mem_map.1 h2
     split at e
     ·cases (List.cons.inj e).1
     ·exact hplain h1.1 (e▸ ⟨43,y,rfl,by simp⟩)
   ·rintro⟨h1,h2⟩
    refine⟨h1,?_⟩
    unfold mkn
    rw[if_neg (hk2 h1.1),if_pos (show r7r s f from⟨h1,h2⟩)]
    exact u7V.2 h2
  refine Evt.succ ?_
  simp only[r5I,w0V,Option.bind_some,u5H,r7E,hmk,hml,hmn]
  rw[w4Q]
  refine Evt.cond (fun e=>?_) (fun e=>?_)
  ·have hp:r7r s f:=hpart.1 (of_decide_eq_true e)
   rw[if_pos hp]
   have y0w:mkn s f=43::f.name:=by unfold mkn;rw[if_neg (hk2 hp.1.1),if_pos hp]
   rw[y0w]
   show Evt _ (RM (u1u env [_]))
   rw[w7u]
   unfold u9r
   cases h:assoc (43::f.name) env with
   |none=>
    refine Evt.cond (fun e=>by simp at e) (fun _=>Evt.r9F (Evt.pure ?_))
    exact⟨fun e he=>by cases he;rfl,fun he=>by cases he⟩
   |some b=>
    refine Evt.cond (fun _=>?_) (fun e=>by simp at e)
    obtain⟨h1,h2⟩:=he _ _ h
    have hsm:=h2.1
    have htx:b.text=[]:=by
     rcases h2.2 with⟨z,e1,e2⟩|⟨c',z,e1,hc',e2⟩
     ·exact e2
     ·rw[h1]at e1
      have:=(List.cons.inj e1).1
      rcases hc' with rfl|rfl|rfl<;>cases this
    have hiff:b=⟨43::f.name,[],g⟩↔b.form=g:=by
     constructor
     ·intro e;rw[e]
     ·intro e
      cases b
      simp only at h1 htx e
      rw[h1,htx,e]
    refine Evt.bind (x1c _ b.form (Nat.le_refl _) hsm g) fun v hv=>Evt.pure ?_
    subst hv
    by_cases hb:b.form=g
    ·simp only[if_pos (hiff.2 hb),decide_eq_true hb]
     exact⟨fun e he=>by cases he;rfl,fun he=>by cases he⟩
    ·simp only[if_neg fun e=>hb (hiff.1 e),decide_eq_false hb]
     exact⟨fun e he=>(by cases he),fun _=>rfl⟩
  have hp:¬r7r s f:=fun h=>(of_decide_eq_false e) (hpart.2 h)
  rw[if_neg hp]
  refine Evt.cond (fun e=>Evt.pure ?_) (fun e=>?_)
  ·have hc:f.kind≠g.kind∨f.words.length≠g.words.length:=Classical.byContradiction fun h=>by
    obtain⟨h1,h2⟩:=not_or.1 h
    have h1:=Classical.not_not.1 h1
    have h2:=Classical.not_not.1 h2
    simp[h1,h2]at e
   rw[if_pos hc]
   exact⟨fun e he=>(by cases he),fun _=>rfl⟩
  have hk:f.kind=g.kind:=Classical.byContradiction fun h=>by simp[h]at e
  have hl:f.words.length=g.words.length:=Classical.byContradiction fun h=>by
   have:¬((f.words.length:Int)=(g.words.length:Int)):=by omega
   simp[this]at e
  rw[if_neg fun h=>h.elim (fun h=>h hk) (fun h=>h hl),u8F]
  have hsl:f.subs.length=g.subs.length:=by have:=hnf.1;have:=hng.1;rw[hk]at *; omega
  have rest:∀w8E:Env,u6x w8E→Has bd w8E→Has (if QK f.kind then f.name::bd else bd) w8E→Evt (fun n=>r7j (r5I n) (u0t s f bd) (u6w s) g w8E) (RM ((cat (ptw s.words bd f.words g.words) (u7x s f.subs (if QK f.kind then f.name::bd else bd) g.subs)).bind (u1u w8E))):=by
   intro w8E he1 hh1 y0x
   rw[u8F]
   unfold r7j
   refine Evt.r5r (w7v hwf hl bd he1 hh1) (fun t ht=>?_) (fun r hr=>?_)
   ·obtain⟨ht,hte,hth⟩:=ht
    have hmono:Has (if QK f.kind then f.name::bd else bd) t:=by
     cases hw:ptw s.words bd f.words g.words with
     |none=>rw[hw]at ht;cases ht
     |some ps=>rw[hw]at ht;exact y0x.mono (u5J _ _ _ ht).2.1
    rw[ht]
    unfold r9S
    rw[hms,u8E]
    refine Evt.r5r (P:=ExP (fun t'=>(u7x s f.subs (if QK f.kind then f.name::bd else bd) g.subs).bind (u1u t)=some t') (fun r=>(u7x s f.subs (if QK f.kind then f.name::bd else bd) g.subs).bind (u1u t)=none∧r.1=false)) ((Evt.range (fun k t'=>(u7x s f.subs (if QK f.kind then f.name::bd else bd) g.subs).bind (u1u t)=(u7x s (f.subs.drop k) (if QK f.kind then f.name::bd else bd) (g.subs.drop k)).bind (u1u t')∧u6x t'∧Has (if QK f.kind then f.name::bd else bd) t') (fun _=>False) (fun r=>(u7x s f.subs (if QK f.kind then f.name::bd else bd) g.subs).bind (u1u t)=none∧r.1=false) ⟨rfl,hte,hmono⟩ (fun k t' hk ht'=>?_)).mono fun e h=>?_) (fun t' ht'=>?_) (fun r hr=>?_)
    ·obtain⟨ht',x8e,x8f⟩:=ht'
     have hkg:k<g.subs.length:=by omega
     have hkm:Am.get (u0t s f bd).subs k=u0t s (Am.get f.subs k) (if QK f.kind then f.name::bd else bd):=by
      rw[hms]
      have:∀(l:List p6w) (bd:List Bs) (k:Nat),k<l.length→Am.get (u0H s l bd) k=u0t s (Am.get l k) bd:=by
       intro l
       induction l with
       |nil=>intro bd k h;cases h
       |cons a l ih=>
        intro bd k h
        rw[u0H]
        cases k with
        |zero=>rfl
        |succ k=>exact ih bd k (by simpa using h)
      exact this _ _ _ hk
     have e1:f.subs.drop k=Am.get f.subs k::f.subs.drop (k+1):=by rw[List.drop_eq_getElem_cons hk];simp[Am.get,hk]
     have e2:g.subs.drop k=Am.get g.subs k::g.subs.drop (k+1):=by rw[List.drop_eq_getElem_cons hkg];simp[Am.get,hkg]
     rw[e1,e2,u7x,u8F]at ht'
     unfold r9T
     simp only[hkm]
     have hsz:=u0r hk
     refine Evt.chk (by omega) (Evt.bind (ih _ (by omega) (w0R hwf hk) _ (x3S hwg hkg) _ t' x8e x8f) fun v hv=>?_)
     cases hp:(pts s (Am.get f.subs k) (if QK f.kind then f.name::bd else bd) (Am.get g.subs k)).bind (u1u t')with
     |none=>
      rw[hp]at ht' hv
      have h1:=hv.2 rfl
      exact Evt.cond (fun _=>Evt.pure ⟨ht',rfl⟩) (fun e=>by rw[h1]at e;cases e)
     |some t''=>
      rw[hp]at ht' hv
      have h1:=hv.1 _ rfl
      subst h1
      refine Evt.cond (fun e=>by cases e) (fun _=>Evt.pure ⟨ht',?_,?_⟩)
      ·cases hq:pts s (Am.get f.subs k) (if QK f.kind then f.name::bd else bd) (Am.get g.subs k)with
       |none=>rw[hq]at hp;cases hp
       |some ps=>rw[hq]at hp;exact w6k x8e (w7s s _ _ _ (ArF.sm _ (x3S hwg hkg)) ps hq) hp
      ·cases hq:pts s (Am.get f.subs k) (if QK f.kind then f.name::bd else bd) (Am.get g.subs k)with
       |none=>rw[hq]at hp;cases hp
       |some ps=>rw[hq]at hp;exact x8f.mono (u5J _ _ _ hp).2.1
    ·cases e with
     |ret r=>exact h
     |nxt t'=>
      obtain⟨h1,h2,h3⟩:=h.elim id False.elim
      rw[List.drop_length,u7x]at h1
      exact h1
    ·unfold r9U
     have ht':(u7x s f.subs (if QK f.kind then f.name::bd else bd) g.subs).bind (u1u t)=some t':=ht'
     refine Evt.pure ?_
     show RM ((some t).bind _) _
     rw[Option.bind_some,ht']
     exact⟨fun e he=>by cases he;rfl,fun he=>by cases he⟩
    ·show RM ((some t).bind _) _
     rw[Option.bind_some,hr.1]
     exact⟨fun e he=>(by cases he),fun _=>hr.2⟩
   ·rw[hr.1]
    exact⟨fun e he=>(by cases he),fun _=>hr.2⟩
  have x8g:∀c:UInt8,c=33∨c=63→mkn s f=c::f.name→pth s f g=some [⟨c::f.name,g.name,zf⟩]→(QK f.kind→c=63)→Evt (fun n=>r6n (r5I n) (u0t s f bd) g env (u6w s) true) (RM (((pth s f g).bind (u1u env)).bind fun s'=>(cat (ptw s.words bd f.words g.words) (u7x s f.subs (if QK f.kind then f.name::bd else bd) g.subs)).bind (u1u s'))):=by
   intro c hc hm hpt hq
   have hc3:c=33∨c=46∨c=63:=hc.elim .inl fun h=>.inr (.inr h)
   unfold r6n
   simp only[cond_true,hmn,hm,hpt]
   have e0:(some [(⟨c::f.name,g.name,zf⟩:r4Y)]).bind (u1u env)=u9r env ⟨c::f.name,g.name,zf⟩:=by
    show u1u env [_]=_
    rw[u1u]
    cases u9r env ⟨c::f.name,g.name,zf⟩<;>rfl
   rw[e0]
   refine Evt.bind (w0W he hc3 f.name g.name) fun v hv=>?_
   cases hp:u9r env ⟨c::f.name,g.name,zf⟩with
   |none=>
    rw[hp]at hv
    have h1:=hv.2 rfl
    exact Evt.cond (fun _=>Evt.pure ⟨fun e he=>(by cases he),fun _=>rfl⟩) (fun e=>by rw[h1]at e;cases e)
   |some t=>
    rw[hp]at hv
    have h1:=hv.1 _ rfl
    subst h1
    refine Evt.cond (fun e=>by cases e) (fun _=>?_)
    have hm1:=hh.mono (u5I hp).2.1
    refine rest t (w6j he (w6l hc3) hp) hm1 ?_
    by_cases hqk:QK f.kind
    ·rw[if_pos hqk]
     intro x hx
     rcases List.mem_cons.1 hx with rfl|hx
     ·have:=(u5I hp).1
      obtain rfl:=hq hqk
      show(assoc (63::f.name) t).isSome=true
      rw[show assoc (63::f.name) t=some _ from this];rfl
     ·exact hm1 x hx
    ·rw[if_neg hqk];exact hm1
  refine Evt.cond (fun e=>?_) (fun e=>?_)
  ·have hq:QK f.kind:=of_decide_eq_true e
   rw[e]
   exact x8g 63 (.inr rfl) (by unfold mkn;rw[if_pos hq]) (by unfold pth;rw[if_pos hq]) (fun _=>rfl)
  ·have hq:¬QK f.kind:=of_decide_eq_false e
   have w8F:mkn s f=if f.kind=2∧f.name∈s.r5o then 33::f.name else f.name:=by unfold mkn;rw[if_neg hq,if_neg hp]
   refine Evt.bind (P:=fun v=>f.kind=2→v=decide (mkn s f∈(u6w s).r5o)) (Evt.gd (fun _=>Evt.pure fun _=>rfl) (fun g h=>by simp[h]at g)) fun v hv=>?_
   by_cases hpr:f.kind=2∧f.name∈s.r5o
   ·rw[if_pos hpr]at w8F
    have h1:=hv hpr.1
    rw[w8F,decide_eq_true (show(33::f.name:Bs)∈(u6w s).r5o from u7V.2 hpr.2)]at h1
    have e2:(bif decide (f.kind=2)then v else false)=true:=by simp[hpr.1,h1]
    rw[e2]
    exact x8g 33 (.inl rfl) w8F (by unfold pth;rw[if_neg hq,if_pos hpr]) (fun h=>absurd h hq)
   ·rw[if_neg hpr]at w8F
    have e2:(bif decide (f.kind=2)then v else false)=false:=by
     by_cases h2:f.kind=2
     ·have h1:=hv h2
      rw[w8F,decide_eq_false (show ¬f.name∈(u6w s).r5o from fun h=>hplain h2 (w6m (.inl rfl) h))]at h1
      simp[h1]
     ·simp[h2]
    rw[e2]
    have hpt:pth s f g=if f.name=g.name then some []else none:=by unfold pth;rw[if_neg hq,if_neg hpr]
    unfold r6n
    simp only[cond_false,hmn,w8F,hpt]
    refine Evt.cond (fun e=>Evt.pure ?_) (fun e=>?_)
    ·replace e:=bx e
     rw[if_neg e]
     exact⟨fun e he=>(by cases he),fun _=>rfl⟩
    ·replace e:=bx e
     rw[if_pos e]
     exact rest env he hh (by rw[if_neg hq];exact hh)
end
theorem w7x{env:List (Bs×Bs)}{w:Bs}(h:w∈env.map (·.1)):∃p∈env,sub env w=p.2:=by
 obtain⟨p,hp,e⟩:=List.mem_map.1 (w3g h)
 exact⟨p,hp,e.symm⟩
mutual
theorem x5j(N M:Nat→Bs)(U:Bs→Prop)(hN:∀i j,N i=N j→i=j)(hN2:∀i,¬U (N i)):∀(f:p6w) (env env' u1d:List (Bs×Bs)) (i j:Nat),(∀x,fre f (env.map (·.1)) x→U x)→(∀p∈env,∃k,k<i∧p.2=N k)→(∀w,w∈env.map (·.1)∨U w→sub env' (sub env w)=sub u1d w)→ren M (ren N f env i) env' j=ren M f u1d j
 | .mk k n w s,env,env',u1d,i,j,hf,he,ha=>by
   have hw:∀x∈w,x∈env.map (·.1)∨U x:=fun x hx=>by
    by_cases h:x∈env.map (·.1)
    ·exact .inl h
    ·exact .inr (hf x (by rw[fre];exact .inl ⟨hx,h⟩))
   have e1:(w.map (sub env)).map (sub env')=w.map (sub u1d):=by
    rw[List.map_map]
    exact List.map_congr_left fun x hx=>ha x (hw x hx)
   rw[ren,ren,ren,e1]
   by_cases hq:QK k
   ·simp only[if_pos hq]
    rw[w3u N M U hN hN2 s _ ((N i,M j)::env') ((n,M j)::u1d) (i+1) (j+1) (fun x hx=>hf x (by rw[fre,if_pos hq];exact .inr hx)) (fun p hp=>?_) (fun y hy=>?_)]
    ·rcases List.mem_cons.1 hp with rfl|hp
     ·exact⟨i,by omega,rfl⟩
     ·obtain⟨l,h1,h2⟩:=he p hp
      exact⟨l,by omega,h2⟩
    ·by_cases e:n=y
     ·subst e
      have a:sub ((n,N i)::env) n=N i:=by rw[r7H,if_pos rfl]
      have b:sub ((n,M j)::u1d) n=M j:=by rw[r7H,if_pos rfl]
      rw[a,b,r7H,if_pos rfl]
     ·have a:sub ((n,N i)::env) y=sub env y:=by rw[r7H,if_neg e]
      have b:sub ((n,M j)::u1d) y=sub u1d y:=by rw[r7H,if_neg e]
      have hy':y∈env.map (·.1)∨U y:=by
       rcases hy with hy|hy
       ·rw[List.map_cons,List.mem_cons]at hy
        exact hy.elim (fun h=>absurd h.symm e) .inl
       ·exact .inr hy
      rw[a,b,r7H,if_neg fun e2=>?_]
      ·exact ha y hy'
      ·by_cases hm:y∈env.map (·.1)
       ·obtain⟨p,hp,e3⟩:=w7x hm
        obtain⟨l,hl,e4⟩:=he p hp
        rw[e3,e4]at e2
        have:=hN _ _ e2
        omega
       ·rw[u7o fun p hp h=>hm (List.mem_map.2 ⟨p,hp,h⟩)]at e2
        exact hN2 i (e2▸hy'.elim (fun h=>absurd h hm) id)
   ·simp only[if_neg hq]
    rw[w3u N M U hN hN2 s env env' u1d (i+0) (j+0) (fun x hx=>hf x (by rw[fre,if_neg hq];exact .inr hx)) he ha]
theorem w3u(N M:Nat→Bs)(U:Bs→Prop)(hN:∀i j,N i=N j→i=j)(hN2:∀i,¬U (N i)):∀(l:List p6w) (env env' u1d:List (Bs×Bs)) (i j:Nat),(∀x,u0x l (env.map (·.1)) x→U x)→(∀p∈env,∃k,k<i∧p.2=N k)→(∀w,w∈env.map (·.1)∨U w→sub env' (sub env w)=sub u1d w)→r9f M (r9f N l env i) env' j=r9f M l u1d j
 | [],env,env',u1d,i,j,_,_,_=>by rw[r9f,r9f,r9f]
 |f::l,env,env',u1d,i,j,hf,he,ha=>by
  rw[r9f,r9f,r9f,x5j N M U hN hN2 f env env' u1d i j (fun x hx=>hf x (by rw[u0x];exact .inl hx)) he ha,w7g,w3u N M U hN hN2 l env env' u1d (i+nq f) (j+nq f) (fun x hx=>hf x (by rw[u0x];exact .inr hx)) (fun p hp=>by
   obtain⟨k,h1,h2⟩:=he p hp
   exact⟨k,by omega,h2⟩) ha]
end
mutual
def u5W(φ:Bs→Bs):p6w→p6w
 | .mk k n w s=>.mk k (if QK k then φ n else n) (w.map φ) (u1e φ s)
def u1e(φ:Bs→Bs):List p6w→List p6w
 | []=>[]
 |f::l=>u5W φ f::u1e φ l
end
section
variable (φ:Bs→Bs)
theorem w6n(f:p6w):u5W φ f= .mk f.kind (if QK f.kind then φ f.name else f.name) (f.words.map φ) (u1e φ f.subs):=by cases f;rw[u5W];rfl
mutual
theorem x5k:∀f:p6w,ndF (u5W φ f)=ndF f
 | .mk k n w s=>by rw[u5W,ndF,ndF,w7y s]
theorem w7y:∀l:List p6w,r9s (u1e φ l)=r9s l
 | []=>by rw[u1e]
 |f::l=>by rw[u1e,r9s,r9s,x5k f,w7y l]
end
mutual
theorem x5l:∀f:p6w,dpF (u5W φ f)=dpF f
 | .mk k n w s=>by rw[u5W,dpF,dpF,w7z s]
theorem w7z:∀l:List p6w,w0N (u1e φ l)=w0N l
 | []=>by rw[u1e]
 |f::l=>by rw[u1e,w0N,w0N,x5l f,w7z l]
end
mutual
theorem w6o:∀f:p6w,nq (u5W φ f)=nq f
 | .mk k n w s=>by rw[u5W,nq,nq,w7A s]
theorem w7A:∀l:List p6w,nqL (u1e φ l)=nqL l
 | []=>by rw[u1e]
 |f::l=>by rw[u1e,nqL,nqL,w6o f,w7A l]
end
variable {φ}
theorem w7B(hφ:∀a b,φ a=φ b→a=b):∀(env:List (Bs×Bs)) (w:Bs),(w∉env.map (·.1)→φ w=w)→sub (env.map fun p=>(φ p.1,p.2)) (φ w)=sub env w
 | [],w,h=>by rw[List.map_nil,w6b,w6b];exact h (by simp)
 |(a,b)::env,w,h=>by
  rw[List.map_cons,r7H,r7H]
  by_cases e:a=w
  ·rw[if_pos e,if_pos (by rw[e])]
  ·rw[if_neg e,if_neg fun e2=>e (hφ _ _ e2)]
   exact w7B hφ env w fun hm=>h fun hm2=>by
    rw[List.map_cons,List.mem_cons]at hm2
    exact hm2.elim (fun h=>e h.symm) hm
mutual
theorem w7C(hφ:∀a b,φ a=φ b→a=b)(M:Nat→Bs):∀(f:p6w) (env:List (Bs×Bs)) (i:Nat),(∀x,fre f (env.map (·.1)) x→φ x=x)→ren M (u5W φ f) (env.map fun p=>(φ p.1,p.2)) i=ren M f env i
 | .mk k n w s,env,i,hf=>by
   have e1:(w.map φ).map (sub (env.map fun p=>(φ p.1,p.2)))=w.map (sub env):=by
    rw[List.map_map]
    exact List.map_congr_left fun x hx=>w7B hφ env x fun h=>hf x (by rw[fre];exact .inl ⟨hx,h⟩)
   rw[u5W,ren,ren,e1]
   by_cases hq:QK k
   ·simp only[if_pos hq]
    have:=w0Y hφ M s ((n,M i)::env) (i+1) (fun x hx=>hf x (by rw[fre,if_pos hq];exact .inr hx))
    rw[List.map_cons]at this
    rw[this]
   ·simp only[if_neg hq]
    rw[w0Y hφ M s env (i+0) (fun x hx=>hf x (by rw[fre,if_neg hq];exact .inr hx))]
theorem w0Y(hφ:∀a b,φ a=φ b→a=b)(M:Nat→Bs):∀(l:List p6w) (env:List (Bs×Bs)) (i:Nat),(∀x,u0x l (env.map (·.1)) x→φ x=x)→r9f M (u1e φ l) (env.map fun p=>(φ p.1,p.2)) i=r9f M l env i
 | [],env,i,_=>by rw[u1e,r9f,r9f]
 |f::l,env,i,hf=>by rw[u1e,r9f,r9f,w7C hφ M f env i (fun x hx=>hf x (by rw[u0x];exact .inl hx)),w6o,w0Y hφ M l env _ (fun x hx=>hf x (by rw[u0x];exact .inr hx))]
end
mutual
theorem w3v(hφ:∀a b,φ a=φ b→a=b):∀(f:p6w) (bd:List Bs) (x:Bs),fre (u5W φ f) (bd.map φ) (φ x)↔fre f bd x
 | .mk k n w s,bd,x=>by
   have hm:∀(l:List Bs) (y:Bs),φ y∈l.map φ↔y∈l:=fun l y=>by
    constructor
    ·intro h
     obtain⟨z,hz,e⟩:=List.mem_map.1 h
     exact hφ _ _ e▸hz
    ·exact fun h=>List.mem_map.2 ⟨y,h,rfl⟩
   rw[u5W,fre,fre,hm,hm]
   by_cases hq:QK k
   ·simp only[if_pos hq]
    rw[←List.map_cons,w0Z hφ s]
   ·simp only[if_neg hq]
    rw[w0Z hφ s]
theorem w0Z(hφ:∀a b,φ a=φ b→a=b):∀(l:List p6w) (bd:List Bs) (x:Bs),u0x (u1e φ l) (bd.map φ) (φ x)↔u0x l bd x
 | [],bd,x=>by rw[u1e,u0x,u0x]
 |f::l,bd,x=>by rw[u1e,u0x,u0x,w3v hφ f,w0Z hφ l]
end
mutual
theorem w7D:∀(f:p6w) (bd:List Bs) (x:Bs),fre (u5W φ f) bd x→∃y,x=φ y
 | .mk k n w s,bd,x,h=>by
   rw[u5W,fre]at h
   rcases h with h|h
   ·obtain⟨y,_,e⟩:=List.mem_map.1 h.1
    exact⟨y,e.symm⟩
   ·exact w4T s _ x h
theorem w4T:∀(l:List p6w) (bd:List Bs) (x:Bs),u0x (u1e φ l) bd x→∃y,x=φ y
 | [],bd,x,h=>by rw[u1e,u0x]at h;exact h.elim
 |f::l,bd,x,h=>by
  rw[u1e,u0x]at h
  exact h.elim (w7D f bd x) (w4T l bd x)
end
theorem w6p(hφ:∀a b,φ a=φ b→a=b){f:p6w}(hf:∀x,fre f [] x→φ x=x):fre (u5W φ f) []=fre f []:=by
 funext x
 refine propext ⟨fun h=>?_,fun h=>?_⟩
 ·obtain⟨y,rfl⟩:=w7D f [] x h
  have h2:=(w3v hφ f [] y).1 h
  rw[hf y h2];exact h2
 ·have:=(w3v hφ f [] x).2 h
  rw[hf x h]at this
  exact this
end
mutual
def x5m:p6w→Bs→List Bs
 | .mk _ _ _ l,p=>p::w1a l p 0
def w1a:List p6w→Bs→Nat→List Bs
 | [],_,_=>[]
 |f::l,p,i=>x5m f (p++Lib.decDigits i)++w1a l p (i+1)
end
mutual
theorem x2X:∀(f:p6w) (p:Bs),(x5m f p).length=ndF f
 | .mk _ _ _ l,p=>by rw[x5m,ndF,List.length_cons,w4U l];omega
theorem w4U:∀(l:List p6w) (p:Bs) (i:Nat),(w1a l p i).length=r9s l
 | [],p,i=>by rw[w1a,r9s];rfl
 |f::l,p,i=>by rw[w1a,r9s,List.length_append,x2X f,w4U l]
end
mutual
theorem w7E:∀(f:p6w) (p:Bs),∀q∈x5m f p,p <+: q
 | .mk _ _ _ l,p,q,h=>by
   rw[x5m]at h
   rcases List.mem_cons.1 h with rfl|h
   ·exact List.prefix_refl _
   ·obtain⟨j,_,_,hj⟩:=u7X l p 0 q h
    exact(List.prefix_append _ _).trans hj
theorem u7X:∀(l:List p6w) (p:Bs) (i:Nat),∀q∈w1a l p i,∃j,i≤j∧j<i+l.length∧(p++Lib.decDigits j) <+: q
 | [],p,i,q,h=>by rw[w1a]at h;cases h
 |f::l,p,i,q,h=>by
  rw[w1a]at h
  rcases List.mem_append.1 h with h|h
  ·exact⟨i,Nat.le_refl _,by rw[List.length_cons];omega,w7E f _ q h⟩
  ·obtain⟨j,h1,h2,h3⟩:=u7X l p (i+1) q h
   exact⟨j,by omega,by rw[List.length_cons];omega,h3⟩
end
theorem x8n{a b q:Bs}(h1:a <+: q)(h2:b <+: q)(hl:a.length=b.length):a=b:=
 (List.prefix_of_prefix_length_le h1 h2 (by omega)).eq_of_length hl
theorem x8o{p q:Bs}{i j:Nat}(hi:i<10)(hj:j<10)(h1:(p++Lib.decDigits i) <+: q)(h2:(p++Lib.decDigits j) <+: q):i=j:=by
 have hl:(p++Lib.decDigits i).length=(p++Lib.decDigits j).length:=by rw[List.length_append,List.length_append,w0X hi,w0X hj]
 exact x0T (List.append_cancel_left (x8n h1 h2 hl))
mutual
theorem x5n:∀(f:p6w) (p:Bs),SmF f→(x5m f p).Nodup
 | .mk k n w l,p,h=>by
   rw[SmF]at h
   rw[x5m,List.nodup_cons]
   refine⟨fun hm=>?_,w7F l p 0 (by omega) h.2.2⟩
   obtain⟨j,_,hj,h3⟩:=u7X l p 0 p hm
   have:=h3.length_le
   rw[List.length_append,w0X (by omega)]at this
   omega
theorem w7F:∀(l:List p6w) (p:Bs) (i:Nat),i+l.length≤10→u9e l→(w1a l p i).Nodup
 | [],p,i,_,_=>by rw[w1a];exact List.nodup_nil
 |f::l,p,i,hi,h=>by
  rw[u9e]at h
  rw[List.length_cons]at hi
  rw[w1a,List.nodup_append]
  refine⟨x5n f _ h.1,w7F l p (i+1) (by omega) h.2,fun x hx y hy e=>?_⟩
  subst e
  obtain⟨j,h1,h2,h3⟩:=u7X l p (i+1) x hy
  have:=x8o (by omega) (by omega) (w7E f _ x hx) h3
  omega
end
mutual
def u7Y(fr to:Bs)(a:Nat):p6w→p6w
 | .mk k n w s=>.mk k (if k=2∧n=fr∧w.length=a then to else n) w (u0e fr to a s)
def u0e(fr to:Bs)(a:Nat):List p6w→List p6w
 | []=>[]
 |f::l=>u7Y fr to a f::u0e fr to a l
end
mutual
def tlF(nm:Bs)(a:Nat):p6w→Prop
 | .mk k n w s=>(k=2∧n=nm∧w.length=a)∨x1g nm a s
def x1g(nm:Bs)(a:Nat):List p6w→Prop
 | []=>False
 |f::l=>tlF nm a f∨x1g nm a l
end
section
variable (fr to:Bs) (a:Nat)
theorem w4V:∀l:List p6w,u0e fr to a l=l.map (u7Y fr to a)
 | []=>by rw[u0e];rfl
 |f::l=>by rw[u0e,w4V l];rfl
theorem w4W(l:List p6w):(u0e fr to a l).length=l.length:=by rw[w4V,List.length_map]
mutual
theorem x5o:∀f:p6w,ndF (u7Y fr to a f)=ndF f
 | .mk k n w s=>by rw[u7Y,ndF,ndF,w7G s]
theorem w7G:∀l:List p6w,r9s (u0e fr to a l)=r9s l
 | []=>by rw[u0e]
 |f::l=>by rw[u0e,r9s,r9s,x5o f,w7G l]
end
mutual
theorem x5p:∀f:p6w,dpF (u7Y fr to a f)=dpF f
 | .mk k n w s=>by rw[u7Y,dpF,dpF,w7H s]
theorem w7H:∀l:List p6w,w0N (u0e fr to a l)=w0N l
 | []=>by rw[u0e]
 |f::l=>by rw[u0e,w0N,w0N,x5p f,w7H l]
end
mutual
theorem x1h:∀f:p6w,nq (u7Y fr to a f)=nq f
 | .mk k n w s=>by rw[u7Y,nq,nq,w7I s]
theorem w7I:∀l:List p6w,nqL (u0e fr to a l)=nqL l
 | []=>by rw[u0e]
 |f::l=>by rw[u0e,nqL,nqL,x1h f,w7I l]
end
theorem q2{k:Int}(h:k=2):¬QK k:=by subst h;unfold QK;omega
theorem x5q{k:Int}{n:Bs}{w:List Bs}(h:QK k):(if k=2∧n=fr∧w.length=a then to else n)=n:=if_neg fun e=>q2 e.1 h
mutual
theorem x2Y(N:Nat→Bs):∀(f:p6w) (env:List (Bs×Bs)) (i:Nat),u7Y fr to a (ren N f env i)=ren N (u7Y fr to a f) env i
 | .mk k n w s,env,i=>by
   rw[ren,u7Y,u7Y,ren]
   by_cases hq:QK k
   ·rw[x5q fr to a hq,x5q fr to a hq]
    simp only[if_pos hq]
    rw[w1b N s]
   ·simp only[if_neg hq,List.length_map]
    rw[w1b N s]
theorem w1b(N:Nat→Bs):∀(l:List p6w) (env:List (Bs×Bs)) (i:Nat),u0e fr to a (r9f N l env i)=r9f N (u0e fr to a l) env i
 | [],env,i=>by rw[r9f,u0e,r9f]
 |f::l,env,i=>by rw[r9f,u0e,u0e,r9f,x2Y N f,w1b N l,x1h]
end
mutual
theorem x2Z:∀(f:p6w) (bd:List Bs) (x:Bs),fre (u7Y fr to a f) bd x↔fre f bd x
 | .mk k n w s,bd,x=>by
   rw[u7Y,fre,fre]
   by_cases hq:QK k
   ·rw[x5q fr to a hq,w1c s]
   ·simp only[if_neg hq]
    rw[w1c s]
theorem w1c:∀(l:List p6w) (bd:List Bs) (x:Bs),u0x (u0e fr to a l) bd x↔u0x l bd x
 | [],bd,x=>by rw[u0e]
 |f::l,bd,x=>by rw[u0e,u0x,u0x,x2Z f,w1c l]
end
mutual
theorem x5r:∀f:p6w,ArF f→ArF (u7Y fr to a f)
 | .mk k n w s,h=>by
   rw[ArF]at h
   rw[u7Y,ArF,w4W]
   exact⟨h.1,h.2.1,h.2.2.1,w7J s h.2.2.2⟩
theorem w7J:∀l:List p6w,u6a l→u6a (u0e fr to a l)
 | [],_=>by rw[u0e,u6a];trivial
 |f::l,h=>by
  rw[u6a]at h
  rw[u0e,u6a]
  exact⟨x5r f h.1,w7J l h.2⟩
end
theorem x3a{f:p6w}(h1:(f.subs.length:Int)=arF f.kind)(h2:u3z f.kind f.words.length)(h3:f.kind=2∨QK f.kind→r5Q f.name)(h4:¬(f.kind=2∨QK f.kind)→f.name=[])(h5:∀w∈f.words,r5Q w):r9Z f=0:=by
 unfold r9Z
 rw[if_neg (by omega),if_neg (fun e=>e.elim (fun e=>e h1) fun e=>e h2),if_neg (fun e=>e.2 (h3 e.1)),if_neg (fun e=>e.2 (h4 e.1)),if_neg (fun⟨w,h6,h7⟩=>h7 (h5 w h6))]
variable {to}
mutual
theorem x5s(ht:r5Q to):∀f:p6w,WfF f→WfF (u7Y fr to a f)
 | .mk k n w s,h=>by
   obtain⟨h1,h2⟩:=(u1l _).1 h
   obtain⟨n1,n2,n3,n4,n5⟩:=u1b h1
   rw[u1l]
   refine⟨x3a ?_ ?_ ?_ ?_ ?_,?_⟩
   ·rw[u7Y];show((u0e fr to a s).length:Int)=_;rw[w4W];exact n1
   ·rw[u7Y];exact n2
   ·rw[u7Y]
    intro e
    show r5Q (if _ then to else n)
    split
    ·exact ht
    ·exact n3 e
   ·rw[u7Y]
    intro e
    show(if _ then to else n)=[]
    rw[if_neg fun e2=>e (.inl e2.1)]
    exact n4 e
   ·rw[u7Y];exact n5
   ·rw[u7Y];exact w7K ht s h2
theorem w7K(ht:r5Q to):∀l:List p6w,u6L l→u6L (u0e fr to a l)
 | [],_=>by rw[u0e,u6L];trivial
 |f::l,h=>by
  rw[u6L]at h
  rw[u0e,u6L]
  exact⟨x5s ht f h.1,w7K ht l h.2⟩
end
variable (to)
mutual
theorem x1i:∀f:p6w,¬tlF to a f→u7Y to fr a (u7Y fr to a f)=f
 | .mk k n w s,h=>by
   rw[tlF,not_or]at h
   rw[u7Y,u7Y,w2p s h.2]
   congr 1
   by_cases e:k=2∧n=fr∧w.length=a
   ·rw[if_pos e,if_pos ⟨e.1,rfl,e.2.2⟩];exact e.2.1.symm
   ·rw[if_neg e,if_neg h.1]
theorem w2p:∀l:List p6w,¬x1g to a l→u0e to fr a (u0e fr to a l)=l
 | [],_=>by rw[u0e,u0e]
 |f::l,h=>by
  rw[x1g,not_or]at h
  rw[u0e,u0e,x1i f h.1,w2p l h.2]
end
mutual
theorem x1j(hne:fr≠to):∀f:p6w,¬tlF fr a (u7Y fr to a f)
 | .mk k n w s=>by
   rw[u7Y,tlF,not_or]
   refine⟨fun⟨h1,h2,h3⟩=>?_,w2q hne s⟩
   by_cases e:k=2∧n=fr∧w.length=a
   ·rw[if_pos e]at h2;exact hne h2.symm
   ·rw[if_neg e]at h2;exact e ⟨h1,h2,h3⟩
theorem w2q(hne:fr≠to):∀l:List p6w,¬x1g fr a (u0e fr to a l)
 | []=>by rw[u0e,x1g];exact id
 |f::l=>by rw[u0e,x1g,not_or];exact⟨x1j hne f,w2q hne l⟩
end
mutual
theorem x5t(N:Nat→Bs):∀(f:p6w) (env:List (Bs×Bs)) (i:Nat),tlF to a (ren N f env i)↔tlF to a f
 | .mk k n w s,env,i=>by
   rw[ren,tlF,tlF,w7L N s,List.length_map]
   by_cases hk:k=2
   ·simp only[if_neg (q2 hk)]
   ·simp only[hk,false_and]
theorem w7L(N:Nat→Bs):∀(l:List p6w) (env:List (Bs×Bs)) (i:Nat),x1g to a (r9f N l env i)↔x1g to a l
 | [],env,i=>by rw[r9f]
 |f::l,env,i=>by rw[r9f,x1g,x1g,x5t N f,w7L N l]
end
end
def xw(i:Nat):Bs:=120::Lib.decDigits i
def xs(a:Nat):List Bs:=(List.range a).map xw
def w2r(φ:Bs→Bs)(b:r4Y):r4Y:=⟨b.name,if b.name.head? =some 46 then φ b.text else b.text,b.form⟩
def w2s(φ:Bs→Bs)(e:Env):Env:=e.map fun p=>(p.1,w2r φ p.2)
section
variable {φ:Bs→Bs}
theorem x3b(hφ:∀a b,φ a=φ b→a=b){a b:r4Y}(h:w2r φ a=w2r φ b):a=b:=by
 obtain⟨n,t,f⟩:=a
 obtain⟨n',t',f'⟩:=b
 unfold w2r at h
 simp only[r4Y.mk.injEq]at h
 obtain⟨rfl,h2,rfl⟩:=h
 by_cases hh:n.head? =some 46
 ·rw[if_pos hh,if_pos hh]at h2
  rw[hφ _ _ h2]
 ·rw[if_neg hh,if_neg hh]at h2
  rw[h2]
theorem u8H(k:Bs):∀e:Env,assoc k (w2s φ e)=(assoc k e).map (w2r φ)
 | []=>rfl
 |(a,b)::e=>by
  show(if k=a then some (w2r φ b)else assoc k (w2s φ e))=Option.map _ (if k=a then some b else assoc k e)
  by_cases h:k=a
  ·rw[if_pos h,if_pos h];rfl
  ·rw[if_neg h,if_neg h];exact u8H k e
theorem u7Z(k:Bs)(b:r4Y):∀e:Env,r5j k (w2r φ b) (w2s φ e)=w2s φ (r5j k b e)
 | []=>rfl
 |(a,c)::e=>by
  show(if k=a then(k,w2r φ b)::w2s φ e else(a,w2r φ c)::r5j k (w2r φ b) (w2s φ e))=w2s φ (if k=a then(k,b)::e else(a,c)::r5j k b e)
  by_cases h:k=a
  ·rw[if_pos h,if_pos h];rfl
  ·rw[if_neg h,if_neg h,u7Z k b e];rfl
open Classical in
theorem x1k(hφ:∀a b,φ a=φ b→a=b)(e:Env)(b:r4Y):u9r (w2s φ e) (w2r φ b)=(u9r e b).map (w2s φ):=by
 unfold u9r
 show(match assoc b.name (w2s φ e)with|none=>some (r5j b.name (w2r φ b) (w2s φ e))|some b'=>if b'=w2r φ b then some (w2s φ e)else none)=_
 rw[u8H]
 cases h:assoc b.name e with
 |none=>simp only[Option.map_none,Option.map_some,u7Z]
 |some b'=>
  simp only[Option.map_some]
  by_cases hb:b'=b
  ·rw[if_pos hb,if_pos (by rw[hb])];rfl
  ·rw[if_neg hb,if_neg fun h2=>hb (x3b hφ h2)];rfl
theorem w4X(hφ:∀a b,φ a=φ b→a=b):∀(ps:List r4Y) (e:Env),u1u (w2s φ e) (ps.map (w2r φ))=(u1u e ps).map (w2s φ)
 | [],e=>rfl
 |b::ps,e=>by
  rw[List.map_cons,u1u,u1u,x1k hφ]
  cases u9r e b with
  |none=>rfl
  |some e'=>exact w4X hφ ps e'
theorem w7M(hφ:∀a b,φ a=φ b→a=b)(W:List Bs):∀(ws ys:List Bs),(∀x∈ws,φ x=x)→ptw W [] ws (ys.map φ)=(ptw W [] ws ys).map (List.map (w2r φ))
 | [],ys,_=>by
   cases ys<;>simp[ptw]
 |x::ws,[],_=>by simp[ptw]
 |x::ws,y::ys,h=>by
  have ih:=w7M hφ W ws ys fun z hz=>h z (List.mem_cons_of_mem _ hz)
  have hx:=h x (List.mem_cons_self ..)
  rw[List.map_cons,ptw,ptw,if_neg List.not_mem_nil,if_neg List.not_mem_nil,ih]
  by_cases hw:x∈W
  ·rw[if_pos hw,if_pos hw]
   cases ptw W [] ws ys with
   |none=>rfl
   |some l=>rfl
  ·rw[if_neg hw,if_neg hw]
   by_cases e:x=y
   ·rw[if_pos e,if_pos (by rw[←e];exact hx.symm)]
   ·rw[if_neg e,if_neg fun e2=>e (hφ _ _ (hx.trans e2))];rfl
structure w3w(s:r5b):Prop where
 kind:s.form.kind=2
 subs:s.form.subs=[]
 parts:s.parts=[]
theorem w3w.part{s:r5b}(h:w3w s)(f:p6w):¬r7r s f:=fun e=>by
 have:=e.2
 rw[h.parts]at this
 cases this
theorem w3w.qs{s:r5b}(h:w3w s):qs s.form=[]:=by
 rw[x2M,h.subs,qsL,if_neg (q2 h.kind)];rfl
noncomputable def eF(s:r5b)(g:p6w):Option Env:=(pts s s.form [] g).bind (u1u [])
open Classical in
theorem x6x{s:r5b}(h:w3w s)(g:p6w):x8i s g=match eF s g with
 |none=>([],false)
 |some e=>((x8h s).map fun k=>⟨k.drop 1,txE e k,fmE e k⟩,true):=by
 unfold x8i eF
 cases (pts s s.form [] g).bind (u1u [])with
 |none=>rfl
 |some e=>
  have hc:¬caught s e:=fun⟨w,_,h2⟩=>by rw[h.qs]at h2;cases h2
  simp only[if_neg hc]
theorem x5u(hφ:∀a b,φ a=φ b→a=b){s:r5b}(h:w3w s)(hw:∀x∈s.form.words,φ x=x)(g:p6w):eF s (u5W φ g)=(eF s g).map (w2s φ):=by
 unfold eF
 have hq:¬QK s.form.kind:=q2 h.kind
 have key:pts s s.form [] (u5W φ g)=(pts s s.form [] g).map (List.map (w2r φ)):=by
  rw[w4Q,w4Q,if_neg (h.part _),if_neg (h.part _),h.subs,u7x,u7x]
  have m1:(u5W φ g).kind=g.kind:=by rw[w6n];rfl
  have m2:(u5W φ g).words=g.words.map φ:=by rw[w6n];rfl
  have m3:(u5W φ g).name=if QK g.kind then φ g.name else g.name:=by rw[w6n];rfl
  rw[m1,m2,List.length_map]
  by_cases hk:s.form.kind≠g.kind∨s.form.words.length≠g.words.length
  ·rw[if_pos hk,if_pos hk];rfl
  ·rw[if_neg hk,if_neg hk]
   rw[not_or,Classical.not_not,Classical.not_not]at hk
   have hp:pth s s.form (u5W φ g)=(pth s s.form g).map (List.map (w2r φ)):=by
    unfold pth
    rw[if_neg hq,if_neg hq,m3]
    have hn:(if QK g.kind then φ g.name else g.name)=g.name:=if_neg (by rw[←hk.1];exact hq)
    rw[hn]
    by_cases hp:s.form.kind=2∧s.form.name∈s.r5o
    ·rw[if_pos hp]
     simp[w2r]
    ·rw[if_neg hp]
     by_cases e:s.form.name=g.name
     ·rw[if_pos e];rfl
     ·rw[if_neg e];rfl
   rw[hp,w7M hφ _ _ _ hw]
   unfold cat
   cases pth s s.form g with
   |none=>rfl
   |some a=>
    cases ptw s.words [] s.form.words g.words with
    |none=>rfl
    |some b=>simp
 rw[key]
 cases pts s s.form [] g with
 |none=>rfl
 |some ps=>exact w4X hφ ps []
end
section
variable {φ:Bs→Bs}
mutual
theorem w7N(N:Nat→Bs):∀(f:p6w) (env:List (Bs×Bs)) (i:Nat),(∀x,fre f (env.map (·.1)) x→φ x=x)→u5W φ (ren N f env i)=ren (fun j=>φ (N j)) f (env.map fun p=>(p.1,φ p.2)) i
 | .mk k n w s,env,i,hf=>by
   have e1:(w.map (sub env)).map φ=w.map (sub (env.map fun p=>(p.1,φ p.2))):=by
    rw[List.map_map]
    refine List.map_congr_left fun x hx=>?_
    show φ (sub env x)=_
    by_cases hm:x∈env.map (·.1)
    ·have:∀l:List (Bs×Bs),x∈l.map (·.1)→φ (sub l x)=sub (l.map fun p=>(p.1,φ p.2)) x:=fun l=>by
      induction l with
      |nil=>intro h;cases h
      |cons p l ih=>
       intro h
       obtain⟨a,b⟩:=p
       rw[List.map_cons,r7H,r7H]
       by_cases e:a=x
       ·rw[if_pos e,if_pos e]
       ·rw[if_neg e,if_neg e]
        rw[List.map_cons,List.mem_cons]at h
        exact ih (h.elim (fun h=>absurd h.symm e) id)
     exact this env hm
    ·have hm2:x∉ (env.map fun p=>(p.1,φ p.2)).map (·.1):=fun h=>hm (by
      rw[List.map_map]at h
      obtain⟨p,hp,e⟩:=List.mem_map.1 h
      exact List.mem_map.2 ⟨p,hp,e⟩)
     rw[u7o fun p hp e=>hm (List.mem_map.2 ⟨p,hp,e⟩),u7o fun p hp e=>hm2 (List.mem_map.2 ⟨p,hp,e⟩)]
     exact hf x (by rw[fre];exact .inl ⟨hx,hm⟩)
   rw[ren,u5W,ren,e1]
   by_cases hq:QK k
   ·simp only[if_pos hq]
    rw[u8I N s _ (i+1) (fun x hx=>hf x (by rw[fre,if_pos hq];exact .inr hx)),List.map_cons]
   ·simp only[if_neg hq]
    rw[u8I N s _ (i+0) (fun x hx=>hf x (by rw[fre,if_neg hq];exact .inr hx))]
theorem u8I(N:Nat→Bs):∀(l:List p6w) (env:List (Bs×Bs)) (i:Nat),(∀x,u0x l (env.map (·.1)) x→φ x=x)→u1e φ (r9f N l env i)=r9f (fun j=>φ (N j)) l (env.map fun p=>(p.1,φ p.2)) i
 | [],env,i,_=>by rw[r9f,u1e,r9f]
 |f::l,env,i,hf=>by rw[r9f,u1e,r9f,w7N N f env i (fun x hx=>hf x (by rw[u0x];exact .inl hx)),u8I N l env _ (fun x hx=>hf x (by rw[u0x];exact .inr hx))]
end
end
mutual
def prF(h:Bs→Bs):p6w→p6w
 | .mk k n w s=>.mk k (if k=2 then h n else n) w (w2t h s)
def w2t(h:Bs→Bs):List p6w→List p6w
 | []=>[]
 |f::l=>prF h f::w2t h l
end
section
variable (h:Bs→Bs)
theorem w3x:∀l:List p6w,w2t h l=l.map (prF h)
 | []=>by rw[w2t];rfl
 |f::l=>by rw[w2t,w3x l];rfl
mutual
theorem x8p:∀f:p6w,ndF (prF h f)=ndF f
 | .mk k n w s=>by rw[prF,ndF,ndF,x1l s]
theorem x1l:∀l:List p6w,r9s (w2t h l)=r9s l
 | []=>by rw[w2t]
 |f::l=>by rw[w2t,r9s,r9s,x8p f,x1l l]
end
mutual
theorem x8q:∀f:p6w,dpF (prF h f)=dpF f
 | .mk k n w s=>by rw[prF,dpF,dpF,x1m s]
theorem x1m:∀l:List p6w,w0N (w2t h l)=w0N l
 | []=>by rw[w2t]
 |f::l=>by rw[w2t,w0N,w0N,x8q f,x1m l]
end
mutual
theorem x8r:∀f:p6w,nq (prF h f)=nq f
 | .mk k n w s=>by rw[prF,nq,nq,x1n s]
theorem x1n:∀l:List p6w,nqL (w2t h l)=nqL l
 | []=>by rw[w2t]
 |f::l=>by rw[w2t,nqL,nqL,x8r f,x1n l]
end
mutual
theorem w6q:∀(f:p6w) (bd:List Bs) (x:Bs),fre (prF h f) bd x↔fre f bd x
 | .mk k n w s,bd,x=>by
   rw[prF,fre,fre]
   by_cases hq:QK k
   ·rw[if_neg (fun e=>q2 e hq),w3y s]
   ·simp only[if_neg hq]
    rw[w3y s]
theorem w3y:∀(l:List p6w) (bd:List Bs) (x:Bs),u0x (w2t h l) bd x↔u0x l bd x
 | [],bd,x=>by rw[w2t]
 |f::l,bd,x=>by rw[w2t,u0x,u0x,w6q f,w3y l]
end
end
noncomputable def w5j:List r4V→p6w→Option (r4V×Env)
 | [],_=>none
 |r::rs,f=>match eF r.from_ f with
  |some e=>some (r,e)
  |none=>w5j rs f
def bp(s:r5b)(e:Env)(n:Bs):Bs:=if n∈s.r5o then txE e (33::n)else n
def x9m(s:r5b)(e:Env):List (Bs×Bs):=s.words.map fun w=>(w,txE e (46::w))
def inst(r:r4V)(e:Env)(c:Nat):p6w:=ren (fun j=>qn (c+j)) (prF (bp r.from_ e) r.to_) (x9m r.from_ e) 0
section
variable (rs:List r4V)
mutual
noncomputable def nR:p6w→Nat
 | .mk k n w s=>match w5j rs (.mk k n w s)with
   |some p=>nq p.1.to_
   |none=>nRL s
noncomputable def nRL:List p6w→Nat
 | []=>0
 |f::l=>nR f+nRL l
end
mutual
noncomputable def RP:p6w→Nat→p6w
 | .mk k n w s,c=>match w5j rs (.mk k n w s)with
   |some p=>inst p.1 p.2 c
   |none=>.mk k n w (RPL s c)
noncomputable def RPL:List p6w→Nat→List p6w
 | [],_=>[]
 |f::l,c=>RP f c::RPL l (c+nR rs f)
end
theorem y0z(f:p6w):nR rs f=match w5j rs f with|some p=>nq p.1.to_|none=>nRL rs f.subs:=by cases f;rw[nR];rfl
theorem y0A(f:p6w)(c:Nat):RP rs f c=match w5j rs f with|some p=>inst p.1 p.2 c|none=>.mk f.kind f.name f.words (RPL rs f.subs c):=by cases f;rw[RP];rfl
end
structure x6y(φ:Bs→Bs)(rs:List r4V):Prop where
 inj:∀a b,φ a=φ b→a=b
 nil:φ []=[]
 pred:∀r∈rs,w3w r.from_
 frm:∀r∈rs,∀x∈r.from_.form.words,φ x=x
 tow:∀r∈rs,∀x,fre r.to_ [] x→φ x=x
section
variable {φ:Bs→Bs} {rs:List r4V}
theorem w1d:∀ {rs:List r4V} (_:x6y φ rs) (f:p6w),w5j rs (u5W φ f)=(w5j rs f).map fun p=>(p.1,w2s φ p.2)
 | [],_,f=>rfl
 |r::rs,h,f=>by
  have ih:=w1d (rs:=rs) ⟨h.inj,h.nil,fun r hr=>h.pred r (List.mem_cons_of_mem _ hr),fun r hr=>h.frm r (List.mem_cons_of_mem _ hr),fun r hr=>h.tow r (List.mem_cons_of_mem _ hr)⟩ f
  rw[w5j,w5j,x5u h.inj (h.pred r (List.mem_cons_self ..)) (h.frm r (List.mem_cons_self ..))]
  cases eF r.from_ f with
  |none=>exact ih
  |some e=>rfl
theorem u9O:∀ {rs:List r4V} {f:p6w} {p:r4V×Env},w5j rs f=some p→p.1∈rs∧eF p.1.from_ f=some p.2
 | [],f,p,h=>by cases h
 |r::rs,f,p,h=>by
  rw[w5j]at h
  cases he:eF r.from_ f with
  |none=>
   rw[he]at h
   obtain⟨h1,h2⟩:=u9O (rs:=rs) h
   exact⟨List.mem_cons_of_mem _ h1,h2⟩
  |some e=>
   rw[he]at h
   cases h
   exact⟨List.mem_cons_self ..,he⟩
theorem w7O(h0:φ []=[])(e:Env)(hn:∀k b,assoc k e=some b→b.name=k)(k:Bs):txE (w2s φ e) k=if k.head? =some 46 then φ (txE e k)else txE e k:=by
 unfold txE
 rw[u8H]
 cases h:assoc k e with
 |none=>
  show(default:r4Y).text=if k.head? =some 46 then φ (default:r4Y).text else(default:r4Y).text
  have:(default:r4Y).text=[]:=rfl
  rw[this,h0];simp
 |some b=>
  show(w2r φ b).text=if k.head? =some 46 then φ b.text else b.text
  unfold w2r
  rw[hn k b h]
theorem x1o(h:x6y φ rs){r:r4V}(hr:r∈rs){e:Env}(hn:∀k b,assoc k e=some b→b.name=k){c c':Nat}(hc:∀j,φ (qn (c+j))=qn (c'+j)):inst r (w2s φ e) c'=u5W φ (inst r e c):=by
 have hb:bp r.from_ (w2s φ e)=bp r.from_ e:=by
  funext n
  unfold bp
  rw[w7O h.nil e hn,if_neg (show ¬(33::n:Bs).head? =some 46 from fun e=>by cases e)]
 have hw:x9m r.from_ (w2s φ e)=(x9m r.from_ e).map fun p=>(p.1,φ p.2):=by
  unfold x9m
  rw[List.map_map]
  refine List.map_congr_left fun w _=>?_
  rw[w7O h.nil e hn,if_pos (show(46::w:Bs).head? =some 46 from rfl)];rfl
 unfold inst
 rw[hb,hw,w7N]
 ·simp only[hc]
 ·intro x hx
  rw[w6q]at hx
  refine h.tow r hr x ?_
  have:∀(m:Nat) (f:p6w),SizeOf.sizeOf f≤m→∀(bd bd':List Bs) (x:Bs),(∀y∈bd',y∈bd)→fre f bd x→fre f bd' x:=by
   intro m
   induction m with
   |zero=>intro f h;cases f;simp only[p6w.mk.sizeOf_spec]at h;omega
   |succ m ih=>
    intro f hf bd bd' x hs hx
    have hL:∀l:List p6w,(∀y∈l,SizeOf.sizeOf y≤m)→∀(bd bd':List Bs),(∀y∈bd',y∈bd)→u0x l bd x→u0x l bd' x:=by
     intro l
     induction l with
     |nil=>intro _ bd bd' _ h;rw[u0x]at h;exact h.elim
     |cons a l ihl=>
      intro hl bd bd' hs h
      rw[u0x]at h⊢
      exact h.elim (fun h=>.inl (ih a (hl a (List.mem_cons_self ..)) bd bd' x hs h)) fun h=>.inr (ihl (fun y hy=>hl y (List.mem_cons_of_mem _ hy)) bd bd' hs h)
    rw[w7h]at hx⊢
    rcases hx with⟨h1,h2⟩|hx
    ·exact .inl ⟨h1,fun h3=>h2 (hs x h3)⟩
    ·refine .inr (hL f.subs (fun y hy=>?_) _ _ (fun y hy=>?_) hx)
     ·obtain⟨j,hj,rfl⟩:=r9P.1 hy
      have:=u0r hj
      omega
     ·by_cases hq:QK f.kind
      ·rw[if_pos hq]at hy⊢
       rcases List.mem_cons.1 hy with rfl|hy
       ·exact List.mem_cons_self ..
       ·exact List.mem_cons_of_mem _ (hs y hy)
      ·rw[if_neg hq]at hy ⊢; exact hs y hy
  exact this _ _ (Nat.le_refl _) _ [] x (fun y hy=>by cases hy) hx
theorem x3c{s:r5b}{g:p6w}(hg:SmF g){e:Env}(h:eF s g=some e):∀k b,assoc k e=some b→b.name=k:=by
 have x3O:u6x e:=by
  unfold eF at h
  cases hq:pts s s.form [] g with
  |none=>rw[hq]at h;cases h
  |some ps=>rw[hq]at h;exact w6k (fun k b h=>by cases h) (w7s s _ _ _ hg ps hq) h
 exact fun k b hb=>(x3O k b hb).1
mutual
theorem x1p(h:x6y φ rs):∀f:p6w,nR rs (u5W φ f)=nR rs f
 | .mk k n w s=>by
   have e1:nR rs (u5W φ (.mk k n w s))=_:=y0z rs _
   rw[e1,w1d h,nR]
   cases w5j rs (.mk k n w s)with
   |none=>
    show nRL rs (u5W φ (.mk k n w s)).subs=nRL rs s
    rw[u5W]
    exact w7P h s
   |some p=>rfl
theorem w7P(h:x6y φ rs):∀l:List p6w,nRL rs (u1e φ l)=nRL rs l
 | []=>by rw[u1e]
 |f::l=>by rw[u1e,nRL,nRL,x1p h f,w7P h l]
end
mutual
theorem x5v(h:x6y φ rs):∀(f:p6w),SmF f→∀(c c':Nat),(∀j,φ (qn (c+j))=qn (c'+j))→RP rs (u5W φ f) c'=u5W φ (RP rs f c)
 | .mk k n w s,hs,c,c',hc=>by
   have e1:RP rs (u5W φ (.mk k n w s)) c'=_:=y0A rs _ _
   rw[e1,w1d h,RP]
   cases hm:w5j rs (.mk k n w s)with
   |none=>
    show p6w.mk _ _ _ (RPL rs (u5W φ (.mk k n w s)).subs c')=u5W φ (.mk k n w (RPL rs s c))
    rw[SmF]at hs
    rw[u5W,u5W]
    show p6w.mk k _ _ (RPL rs (u1e φ s) c')=_
    rw[w7Q h s hs.2.2 c c' hc];rfl
   |some p=>
    obtain⟨h1,h2⟩:=u9O hm
    exact x1o h h1 (x3c hs h2) hc
theorem w7Q(h:x6y φ rs):∀(l:List p6w),u9e l→∀(c c':Nat),(∀j,φ (qn (c+j))=qn (c'+j))→RPL rs (u1e φ l) c'=u1e φ (RPL rs l c)
 | [],_,c,c',_=>by rw[u1e,RPL,RPL,u1e]
 |f::l,hs,c,c',hc=>by
  rw[u9e]at hs
  rw[u1e,RPL,RPL,u1e,x5v h f hs.1 c c' hc,x1p h f,w7Q h l hs.2 (c+nR rs f) (c'+nR rs f) (fun j=>by rw[Nat.add_assoc,hc,Nat.add_assoc])]
end
end
mutual
theorem u9g(N:Nat→Bs):∀(f:p6w) (env:List (Bs×Bs)) (bd:List Bs) (i:Nat) (x:Bs),fre (ren N f env i) bd x→x∉bd∧((∃p∈env,x=p.2)∨fre f (env.map (·.1)) x)
 | .mk k n w s,env,bd,i,x,h=>by
   refine⟨x0F _ _ _ h,?_⟩
   rw[ren,fre]at h
   rw[fre]
   rcases h with⟨h1,h2⟩|h
   ·obtain⟨y,hy,rfl⟩:=List.mem_map.1 h1
    by_cases hm:y∈env.map (·.1)
    ·obtain⟨p,hp,e⟩:=w7x hm
     exact .inl ⟨p,hp,e⟩
    ·rw[u7o fun p hp e=>hm (List.mem_map.2 ⟨p,hp,e⟩)]
     exact .inr (.inl ⟨hy,hm⟩)
   ·by_cases hq:QK k
    ·simp only[if_pos hq]at h⊢
     obtain⟨h1,h2⟩:=u5K N s _ _ _ x h
     rcases h2 with⟨p,hp,e⟩|h2
     ·rcases List.mem_cons.1 hp with rfl|hp
      ·exact absurd (List.mem_cons.2 (.inl e)) h1
      ·exact .inl ⟨p,hp,e⟩
     ·rw[List.map_cons]at h2
      exact .inr (.inr h2)
    ·simp only[if_neg hq]at h⊢
     obtain⟨_,h2⟩:=u5K N s _ _ _ x h
     exact h2.elim .inl fun h=>.inr (.inr h)
theorem u5K(N:Nat→Bs):∀(l:List p6w) (env:List (Bs×Bs)) (bd:List Bs) (i:Nat) (x:Bs),u0x (r9f N l env i) bd x→x∉bd∧((∃p∈env,x=p.2)∨u0x l (env.map (·.1)) x)
 | [],env,bd,i,x,h=>by rw[r9f,u0x]at h;exact h.elim
 |f::l,env,bd,i,x,h=>by
  rw[r9f,u0x]at h
  rw[u0x]
  rcases h with h|h
  ·obtain⟨h1,h2⟩:=u9g N f env bd _ x h
   exact⟨h1,h2.elim .inl fun h=>.inr (.inl h)⟩
  ·obtain⟨h1,h2⟩:=u5K N l env bd _ x h
   exact⟨h1,h2.elim .inl fun h=>.inr (.inr h)⟩
end
theorem w6r(W:List Bs):∀(ws ys:List Bs) (l:List r4Y),ws.length=ys.length→ptw W [] ws ys=some l→∀x∈ws,x∈W→∃y∈ys,(⟨46::x,y,zf⟩:r4Y)∈l
 | [],ys,l,_,_,x,hx,_=>by cases hx
 |a::ws,[],l,hl,_,x,_,_=>by simp at hl
 |a::ws,b::ys,l,hl,h,x,hx,hW=>by
  rw[ptw,if_neg List.not_mem_nil]at h
  have hl':ws.length=ys.length:=by simpa using hl
  by_cases ha:a∈W
  ·rw[if_pos ha]at h
   cases hp:ptw W [] ws ys with
   |none=>rw[hp]at h;cases h
   |some l'=>
    rw[hp]at h
    cases h
    rcases List.mem_cons.1 hx with rfl|hx
    ·exact⟨b,List.mem_cons_self ..,List.mem_cons_self ..⟩
    ·obtain⟨y,h1,h2⟩:=w6r W ws ys l' hl' hp x hx hW
     exact⟨y,List.mem_cons_of_mem _ h1,List.mem_cons_of_mem _ h2⟩
  ·rw[if_neg ha]at h
   by_cases e:a=b
   ·rw[if_pos e]at h
    rcases List.mem_cons.1 hx with rfl|hx
    ·exact absurd hW ha
    ·obtain⟨y,h1,h2⟩:=w6r W ws ys l hl' h x hx hW
     exact⟨y,List.mem_cons_of_mem _ h1,h2⟩
   ·rw[if_neg e]at h;cases h
theorem x3d{s:r5b}(hs:w3w s){g:p6w}{e:Env}(h:eF s g=some e){x:Bs}(h1:x∈s.words)(h2:x∈s.form.words):txE e (46::x)∈g.words:=by
 unfold eF at h
 rw[w4Q,if_neg (hs.part _),hs.subs,u7x]at h
 by_cases hk:s.form.kind≠g.kind∨s.form.words.length≠g.words.length
 ·rw[if_pos hk]at h;cases h
 rw[if_neg hk]at h
 rw[not_or,Classical.not_not,Classical.not_not]at hk
 cases hp:pth s s.form g with
 |none=>rw[hp]at h;cases h
 |some a=>
  cases hw:ptw s.words [] s.form.words g.words with
  |none=>rw[hp,hw]at h;cases h
  |some b=>
   rw[hp,hw]at h
   have h:u1u [] (a++(b++[]))=some e:=h
   obtain⟨y,hy,hm⟩:=w6r _ _ _ _ hk.2 hw x h2 h1
   have:=(u5J _ _ _ h).1 _ (List.mem_append.2 (.inr (List.mem_append.2 (.inl hm))))
   have this:assoc (46::x) e=some ⟨46::x,y,zf⟩:=this
   unfold txE
   rw[this]
   exact hy
structure w3z(r:r4V):Prop where
 pred:w3w r.from_
 good:w4P r.from_
 to:OkF r.to_
theorem w3z.words{r:r4V}(h:w3z r){x:Bs}(hx:x∈r.from_.words):x∈r.from_.form.words:=by
 have:=h.good.words x hx
 rw[w7h,h.pred.subs]at this
 rcases this with h|h
 ·exact h.1
 ·rw[u0x]at h;exact h.elim
theorem w3z.names{r:r4V}(h:w3z r):∀x∈r.from_.form.words,r5Q x:=(u1b ((u1l _).1 h.good.form.1).1).2.2.2.2
section
variable {rs:List r4V}
theorem x3e(hr:∀r∈rs,w3z r){g:p6w}{p:r4V×Env}(hm:w5j rs g=some p)(c:Nat)(bd:List Bs)(x:Bs)(h:fre (inst p.1 p.2 c) bd x):fre g bd x∨r5Q x:=by
 obtain⟨h1,h2⟩:=u9O hm
 have hp:=hr _ h1
 unfold inst at h
 obtain⟨h3,h4⟩:=u9g _ _ _ _ _ _ h
 rcases h4 with⟨q,hq,rfl⟩|h4
 ·obtain⟨w,hw,rfl⟩:=List.mem_map.1 hq
  left
  rw[w7h]
  exact .inl ⟨x3d hp.pred h2 hw (hp.words hw),h3⟩
 ·right
  rw[w6q]at h4
  exact w7q _ hp.to.1 _ x h4
mutual
theorem x8s(hr:∀r∈rs,w3z r):∀(f:p6w) (c:Nat) (bd:List Bs) (x:Bs),fre (RP rs f c) bd x→fre f bd x∨r5Q x
 | .mk k n w s,c,bd,x,h=>by
   rw[RP]at h
   cases hm:w5j rs (.mk k n w s)with
   |some p=>
    rw[hm]at h
    exact x3e hr hm c bd x h
   |none=>
    rw[hm]at h
    have h:fre (.mk k n w (RPL rs s c)) bd x:=h
    rw[fre]at h⊢
    rcases h with h|h
    ·exact .inl (.inl h)
    ·exact(x1q hr s c _ x h).elim (fun h=>.inl (.inr h)) .inr
theorem x1q(hr:∀r∈rs,w3z r):∀(l:List p6w) (c:Nat) (bd:List Bs) (x:Bs),u0x (RPL rs l c) bd x→u0x l bd x∨r5Q x
 | [],c,bd,x,h=>by rw[RPL]at h;exact .inl h
 |f::l,c,bd,x,h=>by
  rw[RPL,u0x]at h
  rw[u0x]
  rcases h with h|h
  ·exact(x8s hr f c bd x h).elim (fun h=>.inl (.inl h)) .inr
  ·exact(x1q hr l _ bd x h).elim (fun h=>.inl (.inr h)) .inr
end
end
open Classical in
noncomputable def phi(σ:Nat→Nat)(w:Bs):Bs:=if h:∃i,w=qn i then qn (σ h.choose)else w
theorem x1r(σ:Nat→Nat)(i:Nat):phi σ (qn i)=qn (σ i):=by
 unfold phi
 have h:∃j,qn i=qn j:=⟨i,rfl⟩
 rw[dif_pos h]
 congr 2
 exact(x3Q _ _ h.choose_spec).symm
theorem w3A(σ:Nat→Nat){w:Bs}(h:∀i,w≠qn i):phi σ w=w:=by
 unfold phi
 rw[dif_neg fun⟨i,e⟩=>h i e]
theorem w7R(σ:Nat→Nat){w:Bs}(h:r5Q w):phi σ w=w:=w3A σ fun i e=>x5i i (e▸h)
theorem x1s{σ:Nat→Nat}(hσ:∀i j,σ i=σ j→i=j)(a b:Bs)(h:phi σ a=phi σ b):a=b:=by
 by_cases ha:∃i,a=qn i
 ·obtain⟨i,rfl⟩:=ha
  rw[x1r]at h
  by_cases hb:∃j,b=qn j
  ·obtain⟨j,rfl⟩:=hb
   rw[x1r]at h
   rw[hσ _ _ (x3Q _ _ h)]
  ·rw[w3A σ fun i e=>hb ⟨i,e⟩]at h
   exact absurd ⟨_,h.symm⟩ hb
 ·rw[w3A σ fun i e=>ha ⟨i,e⟩]at h
  by_cases hb:∃j,b=qn j
  ·obtain⟨j,rfl⟩:=hb
   rw[x1r]at h
   exact absurd ⟨_,h⟩ ha
  ·rw[w3A σ fun i e=>hb ⟨i,e⟩]at h
   exact h
mutual
theorem x1t{N N':Nat→Bs}:∀(f:p6w) (env:List (Bs×Bs)) (i j:Nat),(∀k,k<nq f→N (i+k)=N' (j+k))→ren N f env i=ren N' f env j
 | .mk k n w s,env,i,j,h=>by
   rw[nq]at h
   rw[ren,ren]
   by_cases hq:QK k
   ·simp only[if_pos hq]at h⊢
    have h0:N i=N' j:=h 0 (by omega)
    rw[h0,u8J s _ (i+1) (j+1) fun k hk=>by rw[Nat.add_assoc,Nat.add_assoc];exact h _ (by omega)]
   ·simp only[if_neg hq]at h⊢
    rw[u8J s _ (i+0) (j+0) fun k hk=>by rw[Nat.add_zero,Nat.add_zero];exact h _ (by omega)]
theorem u8J{N N':Nat→Bs}:∀(l:List p6w) (env:List (Bs×Bs)) (i j:Nat),(∀k,k<nqL l→N (i+k)=N' (j+k))→r9f N l env i=r9f N' l env j
 | [],env,i,j,_=>by rw[r9f,r9f]
 |f::l,env,i,j,h=>by
  rw[nqL]at h
  rw[r9f,r9f,x1t f env i j fun k hk=>h k (by omega),u8J l env (i+nq f) (j+nq f) fun k hk=>by rw[Nat.add_assoc,Nat.add_assoc];exact h _ (by omega)]
end
end Go.Proofs.YtfacbpehlibilaaGreatDoor
