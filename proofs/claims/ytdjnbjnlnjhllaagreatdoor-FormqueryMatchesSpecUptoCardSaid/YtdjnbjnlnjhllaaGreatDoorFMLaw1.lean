import Derived.Test.YtdjnbjnlnjhllaaGreatDoorFMLaw0
set_option linter.unusedVariables false
set_option linter.unusedSimpArgs false
namespace Go.Am
open Go
section
variable {σ ρ τ:Type} {body:Nat→σ→Option (Ctl ρ σ τ)} {s s' s'':σ} {e:Ex ρ τ}
def p5O(body:Nat→σ→Option (Ctl ρ σ τ))(s s':σ):Prop:=∃k N,∀n,N≤n→∀f,i9z (body n) (f+k) s=i9z (body n) f s'
def p8P(body:Nat→σ→Option (Ctl ρ σ τ))(s:σ)(e:Ex ρ τ):Prop:=∃k N,∀n,N≤n→∀f,i9z (body n) (f+k) s=some e
theorem p5O.refl:p5O body s s:=⟨0,0,fun _ _ _=>rfl⟩
theorem p5O.trans(h:p5O body s s')(k:p5O body s' s''):p5O body s s'':=by
 obtain⟨a,N,h⟩:=h
 obtain⟨b,M,k⟩:=k
 exact⟨b+a,max N M,fun n hn f=>by rw[←Nat.add_assoc,h n (by omega),k n (by omega)]⟩
theorem p5O.ends(h:p5O body s s')(k:p8P body s' e):p8P body s e:=by
 obtain⟨a,N,h⟩:=h
 obtain⟨b,M,k⟩:=k
 exact⟨b+a,max N M,fun n hn f=>by rw[←Nat.add_assoc,h n (by omega),k n (by omega)]⟩
theorem p5O.one(h:Evt (fun n=>body n s) (fun c=>c= .nxt s')):p5O body s s':=by
 obtain⟨c,rfl,N,h⟩:=h
 exact⟨1,N,fun n hn f=>by show i9z (body n) (f+1) s=_;simp only[i9z,h n hn]⟩
theorem p8P.brk{t:τ}(h:Evt (fun n=>body n s) (fun c=>c= .brk t)):p8P body s (.nxt t):=by
 obtain⟨c,rfl,N,h⟩:=h
 exact⟨1,N,fun n hn f=>by show i9z (body n) (f+1) s=_;simp only[i9z,h n hn]⟩
theorem p8P.ret{r:ρ}(h:Evt (fun n=>body n s) (fun c=>c= .ret r)):p8P body s (.ret r):=by
 obtain⟨c,rfl,N,h⟩:=h
 exact⟨1,N,fun n hn f=>by show i9z (body n) (f+1) s=_;simp only[i9z,h n hn]⟩
theorem p8P.evt(h:p8P body s e):Evt (fun n=>i9z (body n) n s) (fun x=>x=e):=by
 obtain⟨k,N,h⟩:=h
 exact⟨e,rfl,max N k,fun n hn=>by
  have:=h n (by omega) (n-k)
  rwa[show n-k+k=n by omega]at this⟩
end
end Go.Am
namespace Go.Proofs.YtdjnbjnlnjhllaaGreatDoor
open Go Go.Am
theorem get_mem{α:Type}[Inhabited α]{l:List α}{k:Nat}(h:k<l.length):Am.get l k∈l:=by
 unfold Am.get
 rw[List.getD_eq_getElem?_getD,List.getElem?_eq_getElem h]
 exact List.getElem_mem h
theorem r4V{α:Type}[Inhabited α]{l:List α}{k:Nat}(h:k<l.length):l.drop k=Am.get l k::l.drop (k+1):=by
 rw[List.drop_eq_getElem_cons h]
 unfold Am.get
 rw[List.getD_eq_getElem?_getD,List.getElem?_eq_getElem h];rfl
def Live{α:Type}(st:List α×Int×Nat)(l:List α)(c:Int):Prop:=st.1.take st.2.2=l∧st.2.2=l.length∧st.2.1=c
section
variable {α:Type} {st:List α×Int×Nat} {rest:List α} {x:α} {c:Int}
theorem Live.le{l:List α}(h:Live st l c):st.2.2≤st.1.length:=by
 have h1:=congrArg List.length h.1
 rw[List.length_take]at h1
 have h2:=h.2.1
 omega
theorem Live.sp(h:Live st (rest++[x]) c):st.2.2=rest.length+1:=by rw[h.2.1];simp
theorem Live.top[Inhabited α](h:Live st (rest++[x]) c):Am.get st.1 rest.length=x:=by
 have h1:Am.get (st.1.take st.2.2) rest.length=Am.get st.1 rest.length:=u3m (by rw[h.sp];omega)
 rw[←h1,h.1]
 exact r7q
theorem Live.pop(h:Live st (rest++[x]) c):st.1.take rest.length=rest:=by
 have h1:=congrArg (List.take rest.length) h.1
 rw[List.take_take,List.take_left,h.sp,Nat.min_eq_left (by omega)]at h1
 exact h1
end
theorem r3s(s:Bs):Evt (fun n=>p1I n s) (fun b=>b=r2h s):=by
 unfold p1I
 refine Evt.cond (fun h=>Evt.pure (p5E fun hn=>?_).symm) (fun h=>?_)
 ·obtain⟨h1,h2,h3,_⟩:=hn
  replace h:=bx h
  omega
 replace h:=bx h
 refine Evt.i8R (P:=ExP (fun _=>r2h s=true) (fun b=>b=false∧r2h s=false)) (Evt.loop (fun i:Int=>(s.length-i).toNat) (fun i=>0≤i∧i≤s.length∧∀j:Nat,(j:Int)<i→OkC (i9O s (j:Int))∧(j=0→97≤i9O s 0∧i9O s 0≤122)) _ _ ⟨Int.le_refl _,by omega,fun j hj=>by omega⟩ (fun i hi=>?_)) (fun t ht=>Evt.pure ht.symm) (fun r hr=>by rw[hr.1,hr.2])
 obtain⟨h0,h1,h2⟩:=hi
 unfold p3o
 refine Evt.cond (fun e=>?_) (fun e=>Evt.pure ?_)
 ·replace e:=bx e
  have hw:wr .i64 (i+1)=i+1∨True:=.inr trivial
  refine Evt.chk ⟨h0,e⟩ (Evt.cond (fun e2=>Evt.pure ⟨rfl,p5E fun hn=>?_⟩) (fun e2=>Evt.pure ?_))
  ·replace e2:=bx e2
   have h3:=hn.2.2.2 i.toNat (by omega)
   rw[show((i.toNat:Nat):Int)=i by omega]at h3
   unfold OkC at h3
   have h4:=hn.2.2.1
   by_cases hi0:i=0
   ·subst hi0;omega
   ·omega
  ·replace e2:=bx e2
   have hl:s.length≤30:=by omega
   rw[p0D (by omega) (by omega)]
   refine⟨⟨by omega,by omega,fun j hj=>?_⟩,by omega⟩
   by_cases ej:(j:Int)=i
   ·rw[ej]
    unfold OkC
    by_cases hi0:i=0
    ·subst hi0
     by_cases hc:97≤i9O s 0∧i9O s 0≤122
     ·exact⟨.inl hc,fun _=>hc⟩
     ·exact absurd rfl (e2 (by omega)).1
    ·exact⟨by omega,fun h=>by omega⟩
   ·exact h2 j (by omega)
 ·replace e:=bx e
  exact r1F ⟨by omega,by omega,(h2 0 (by omega)).2 rfl,fun k hk=>(h2 k (by omega)).1⟩
end Go.Proofs.YtdjnbjnlnjhllaaGreatDoor
namespace Go.Am
open Go
theorem Evt.p6d{σ ρ τ:Type}{body:Nat→σ→Option (Ctl ρ σ τ)}{s0:σ}(N:Nat)(I:Nat→σ→Prop)(B:τ→Prop)(R:ρ→Prop)(h0:I 0 s0)
 (hs:∀k s,k<N→I k s→Evt (fun n=>body n s) (u0P (I (k+1)) B R)) (he:∀s,I N s→Evt (fun n=>body n s) (u0P (fun _=>False) B R)):
 Evt (fun n=>i9z (body n) n s0) (ExP B R):=by
 have key:∀j k s,k+j=N→I k s→∃e,ExP B R e∧∃M,∀n,M≤n→∀f,j<f→i9z (body n) f s=some e:=by
  intro j
  induction j with
  |zero=>
   intro k s hk hi
   obtain rfl:k=N:=by omega
   obtain⟨c,hc,M,hM⟩:=he s hi
   cases c with
   |nxt s'=>exact hc.elim
   |brk t=>refine⟨.nxt t,hc,M,fun n hn f hf=>?_⟩;obtain⟨g,rfl⟩:∃g,f=g+1:=⟨f-1,by omega⟩;simp only[i9z,hM n hn]
   |ret x=>refine⟨.ret x,hc,M,fun n hn f hf=>?_⟩;obtain⟨g,rfl⟩:∃g,f=g+1:=⟨f-1,by omega⟩;simp only[i9z,hM n hn]
  |succ j ih=>
   intro k s hk hi
   obtain⟨c,hc,M,hM⟩:=hs k s (by omega) hi
   cases c with
   |nxt s'=>
    obtain⟨e,he,L,hL⟩:=ih (k+1) s' (by omega) hc
    refine⟨e,he,max M L,fun n hn f hf=>?_⟩
    obtain⟨g,rfl⟩:∃g,f=g+1:=⟨f-1,by omega⟩
    simp only[i9z,hM n (by omega)]
    exact hL n (by omega) g (by omega)
   |brk t=>refine⟨.nxt t,hc,M,fun n hn f hf=>?_⟩;obtain⟨g,rfl⟩:∃g,f=g+1:=⟨f-1,by omega⟩;simp only[i9z,hM n hn]
   |ret x=>refine⟨.ret x,hc,M,fun n hn f hf=>?_⟩;obtain⟨g,rfl⟩:∃g,f=g+1:=⟨f-1,by omega⟩;simp only[i9z,hM n hn]
 obtain⟨e,he,M,hM⟩:=key N 0 s0 (by omega) h0
 exact⟨e,he,max M (N+1),fun n hn=>hM n (by omega) n (by omega)⟩
end Go.Am
namespace Go.Proofs.YtdjnbjnlnjhllaaGreatDoor
open Go Go.Am
def QK(k:Int):Prop:=k=8∨k=9
instance(k:Int):Decidable (QK k):=inferInstanceAs (Decidable (_∨_))
mutual
def ndF:i8F→Nat
 | .mk _ _ _ s=>1+p3T s
def p3T:List i8F→Nat
 | []=>0
 |x::l=>ndF x+p3T l
end
mutual
def dpF:i8F→Nat
 | .mk _ _ _ s=>1+u0X s
def u0X:List i8F→Nat
 | []=>0
 |x::l=>max (dpF x) (u0X l)
end
mutual
def nq:i8F→Nat
 | .mk k _ _ s=>(if QK k then 1 else 0)+nqL s
def nqL:List i8F→Nat
 | []=>0
 |x::l=>nq x+nqL l
end
mutual
def qs:i8F→List Bs
 | .mk k n _ s=>(if QK k then [n]else [])++qsL s
def qsL:List i8F→List Bs
 | []=>[]
 |x::l=>qs x++qsL l
end
theorem p9u(f:i8F):ndF f=1+p3T f.subs:=by cases f;rw[ndF];rfl
theorem u7F(f:i8F):nq f=(if QK f.kind then 1 else 0)+nqL f.subs:=by cases f;rw[nq];rfl
theorem r9p(f:i8F):qs f=(if QK f.kind then [f.name]else [])++qsL f.subs:=by cases f;rw[qs];rfl
mutual
theorem r0d:∀f:i8F,(qs f).length=nq f
 | .mk k n w s=>by rw[qs,nq,List.length_append,r7r];split<;>rfl
theorem r7r:∀l:List i8F,(qsL l).length=nqL l
 | []=>by rw[qsL,nqL];rfl
 |x::l=>by rw[qsL,nqL,List.length_append,r0d,r7r]
end
mutual
theorem r1G:∀f:i8F,nq f≤ndF f
 | .mk k n w s=>by
   rw[nq,ndF]
   have:=u0Y s
   split<;>omega
theorem u0Y:∀l:List i8F,nqL l≤p3T l
 | []=>by rw[nqL];omega
 |x::l=>by
  rw[nqL,p3T]
  have h1:=r1G x
  have h2:=u0Y l
  omega
end
theorem p0V{f:i8F}{k:Nat}(h:k<f.subs.length):SizeOf.sizeOf (Am.get f.subs k)<SizeOf.sizeOf f:=by
 cases f with
 |mk a b c s=>
  have h2:Am.get s k∈s:=by
   unfold Am.get
   have h3:k<s.length:=h
   rw[List.getD_eq_getElem?_getD,List.getElem?_eq_getElem h3]
   exact List.getElem_mem h3
  have:=List.sizeOf_lt_of_mem h2
  show SizeOf.sizeOf (Am.get s k)<_
  simp only[i8F.mk.sizeOf_spec]
  omega
def arF(k:Int):Int:=if k=1∨k=2∨k=3 then 0 else if k=4∨k=8∨k=9 then 1 else if k=5∨k=6∨k=7 then 2 else -1
def p6Y(k:Int)(n:Nat):Prop:=if k=2 then n≤3 else if k=3 then n=2 else n=0
instance(k:Int)(n:Nat):Decidable (p6Y k n):=by unfold p6Y;infer_instance
open Classical in
noncomputable def p4A(f:i8F):Int:=
 if arF f.kind<0 then 4
 else if(f.subs.length:Int)≠arF f.kind∨¬p6Y f.kind f.words.length then 9
 else if(f.kind=2∨QK f.kind)∧¬p0a f.name then 10
 else if ¬(f.kind=2∨QK f.kind)∧f.name≠ []then 5
 else if ∃w∈f.words,¬p0a w then 10
 else 0
mutual
noncomputable def r1Z:i8F→Int→Int→Int×Int
 | .mk k n w s,d,b=>if 200<b+1∨40<d then(1,b)else if p4A (.mk k n w s)=0 then p6Z s (d+1) (b+1)else(p4A (.mk k n w s),b)
noncomputable def p6Z:List i8F→Int→Int→Int×Int
 | [],_,b=>(0,b)
 |x::l,d,b=>if(r1Z x d b).1=0 then p6Z l d (r1Z x d b).2 else r1Z x d b
end
theorem u0Z(f:i8F)(d b:Int):r1Z f d b=if 200<b+1∨40<d then(1,b)else if p4A f=0 then p6Z f.subs (d+1) (b+1)else(p4A f,b):=by
 cases f;rw[r1Z];rfl
mutual
def WfF:i8F→Prop
 | .mk k n w s=>p4A (.mk k n w s)=0∧r2v s
def r2v:List i8F→Prop
 | []=>True
 |x::l=>WfF x∧r2v l
end
theorem p4O(f:i8F):WfF f↔p4A f=0∧r2v f.subs:=by cases f;rw[WfF];rfl
theorem p2h:∀ {l:List i8F},r2v l↔ ∀x∈l,WfF x
 | []=>by simp[r2v]
 |x::l=>by rw[r2v,p2h];simp
mutual
theorem r7s:∀(f:i8F) (d b:Int),(r1Z f d b).1=0→WfF f∧(r1Z f d b).2=b+ndF f∧b+ndF f≤200∧d-1+dpF f≤40
 | .mk k n w s,d,b,h=>by
   rw[r1Z]at h⊢
   split at h
   ·cases h
   ·rename_i h1
    rw[if_neg h1]
    split at h
    ·rename_i h2
     rw[if_pos h2]
     obtain⟨w1,w2,w3,w4⟩:=r8l s (d+1) (b+1) h (by omega) (by omega)
     rw[WfF,ndF,dpF]
     refine⟨⟨h2,w1⟩,?_,?_,?_⟩<;>omega
    ·exact absurd h (by assumption)
theorem r8l:∀(l:List i8F) (d b:Int),(p6Z l d b).1=0→b≤200→d-1≤40→r2v l∧(p6Z l d b).2=b+p3T l∧b+p3T l≤200∧d-1+u0X l≤40
 | [],d,b,_,hb,hd=>by rw[p6Z,r2v,p3T,u0X];refine⟨trivial,?_,?_,?_⟩<;>first|omega|(show b=_;omega)
 |x::l,d,b,h,hb,hd=>by
  rw[p6Z]at h⊢
  split at h
  ·rename_i h1
   rw[if_pos h1]
   obtain⟨w1,w2,w3,w4⟩:=r7s x d b h1
   rw[w2]at h⊢
   obtain⟨v1,v2,v3,v4⟩:=r8l l d (b+ndF x) h w3 hd
   rw[r2v,p3T,u0X]
   refine⟨⟨w1,v1⟩,?_,?_,?_⟩<;>omega
  ·exact absurd h (by assumption)
end
mutual
theorem u1a:∀(f:i8F) (d b:Int),WfF f→b+ndF f≤200→d-1+dpF f≤40→r1Z f d b=(0,b+ndF f)
 | .mk k n w s,d,b,h1,h2,h3=>by
   rw[WfF]at h1
   rw[ndF]at h2⊢
   rw[dpF]at h3
   rw[r1Z,if_neg (by omega),if_pos h1.1,r8m s (d+1) (b+1) h1.2 (by omega) (by omega)]
   congr 1
   omega
theorem r8m:∀(l:List i8F) (d b:Int),r2v l→b+p3T l≤200→d-1+u0X l≤40→p6Z l d b=(0,b+p3T l)
 | [],d,b,_,_,_=>by rw[p6Z,p3T];congr 1;omega
 |x::l,d,b,h1,h2,h3=>by
  rw[r2v]at h1
  rw[p3T]at h2⊢
  rw[u0X]at h3
  rw[p6Z,u1a x d b h1.1 (by omega) (by omega),if_pos rfl,r8m l d _ h1.2 (by omega) (by omega)]
  congr 1
  omega
end
def OkF(f:i8F):Prop:=WfF f∧ndF f≤200∧dpF f≤40
theorem r8n(f:i8F):(r1Z f 1 0).1=0↔OkF f:=by
 refine⟨fun h=>?_,fun h=>?_⟩
 ·obtain⟨h1,h2,h3,h4⟩:=r7s f 1 0 h
  exact⟨h1,by omega,by omega⟩
 ·rw[u1a f 1 0 h.1 (by have:=h.2.1;omega) (by have:=h.2.2;omega)]
theorem p3F{f:i8F}(h:p4A f=0):(f.subs.length:Int)=arF f.kind∧p6Y f.kind f.words.length∧(f.kind=2∨QK f.kind→p0a f.name)∧(¬(f.kind=2∨QK f.kind)→f.name=[])∧∀w∈f.words,p0a w:=by
 unfold p4A at h
 split at h
 ·cases h
 split at h
 ·cases h
 split at h
 ·cases h
 split at h
 ·cases h
 split at h
 ·cases h
 rename_i h1 h2 h3 h4 h5
 refine⟨Classical.byContradiction fun e=>h2 (.inl e),Classical.byContradiction fun e=>h2 (.inr e),fun h=>Classical.byContradiction fun e=>h3 ⟨h,e⟩,fun h=>Classical.byContradiction fun e=>h4 ⟨h,e⟩,fun w hw=>Classical.byContradiction fun e=>h5 ⟨w,hw,e⟩⟩
theorem u3n{f:i8F}(h0:0≤arF f.kind)(h1:(f.subs.length:Int)=arF f.kind)(h2:p6Y f.kind f.words.length)(h3:f.kind=2∨QK f.kind→p0a f.name)(h4:¬(f.kind=2∨QK f.kind)→f.name=[])(h5:∀w∈f.words,p0a w):p4A f=0:=by
 unfold p4A
 rw[if_neg (by omega),if_neg (fun h=>h.elim (fun e=>e h1) (fun e=>e h2)),if_neg (fun h=>h.2 (h3 h.1)),if_neg (fun h=>h.2 (h4 h.1)),if_neg (fun⟨w,hw,e⟩=>e (h5 w hw))]
def sub(env:List (Bs×Bs))(w:Bs):Bs:=((env.find? (fun p=>p.1==w)).map (·.2)).getD w
theorem r7t(w:Bs):sub [] w=w:=rfl
theorem p6r(a b w:Bs)(env:List (Bs×Bs)):sub ((a,b)::env) w=if a=w then b else sub env w:=by
 unfold sub
 rw[List.find?_cons]
 by_cases h:a=w
 ·simp[h]
 ·have:(a==w)=false:=beq_false_of_ne h
  simp[this,h]
theorem u1b{env:List (Bs×Bs)}{w:Bs}(h:∀p∈env,p.1≠w):sub env w=w:=by
 induction env with
 |nil=>rfl
 |cons p env ih=>
  obtain⟨a,b⟩:=p
  rw[p6r,if_neg (h (a,b) (List.mem_cons_self ..)),ih fun q hq=>h q (List.mem_cons_of_mem _ hq)]
theorem u1c{env:List (Bs×Bs)}{w:Bs}(h:w∈env.map (·.1)):sub env w∈env.map (·.2):=by
 induction env with
 |nil=>cases h
 |cons p env ih=>
  obtain⟨a,b⟩:=p
  rw[p6r]
  split
  ·exact List.mem_cons_self ..
  ·rename_i hne
   rw[List.map_cons,List.mem_cons]at h
   exact List.mem_cons_of_mem _ (ih (h.resolve_left fun e=>hne e.symm))
mutual
def ren(N:Nat→Bs):i8F→List (Bs×Bs)→Nat→i8F
 | .mk k n w s,env,i=>.mk k (if QK k then N i else n) (w.map (sub env)) (p6F N s (if QK k then(n,N i)::env else env) (i+if QK k then 1 else 0))
def p6F(N:Nat→Bs):List i8F→List (Bs×Bs)→Nat→List i8F
 | [],_,_=>[]
 |x::l,env,i=>ren N x env i::p6F N l env (i+nq x)
end
theorem u4f(N:Nat→Bs)(f:i8F)(env:List (Bs×Bs))(i:Nat):ren N f env i= .mk f.kind (if QK f.kind then N i else f.name) (f.words.map (sub env)) (p6F N f.subs (if QK f.kind then(f.name,N i)::env else env) (i+if QK f.kind then 1 else 0)):=by
 cases f;rw[ren];rfl
theorem r0Y(N:Nat→Bs):∀(l:List i8F) (env:List (Bs×Bs)) (i:Nat),(p6F N l env i).length=l.length
 | [],_,_=>by rw[p6F]
 |x::l,env,i=>by rw[p6F,List.length_cons,List.length_cons,r0Y N l]
mutual
theorem u4g(N:Nat→Bs):∀(f:i8F) (env:List (Bs×Bs)) (i:Nat),nq (ren N f env i)=nq f
 | .mk k n w s,env,i=>by rw[ren,nq,nq,u1d N s]
theorem u1d(N:Nat→Bs):∀(l:List i8F) (env:List (Bs×Bs)) (i:Nat),nqL (p6F N l env i)=nqL l
 | [],env,i=>by rw[p6F]
 |x::l,env,i=>by rw[p6F,nqL,nqL,u4g N x,u1d N l]
end
mutual
theorem u1e(N:Nat→Bs):∀(f:i8F) (env:List (Bs×Bs)) (i:Nat),ndF (ren N f env i)=ndF f
 | .mk k n w s,env,i=>by rw[ren,ndF,ndF,u1f N s]
theorem u1f(N:Nat→Bs):∀(l:List i8F) (env:List (Bs×Bs)) (i:Nat),p3T (p6F N l env i)=p3T l
 | [],env,i=>by rw[p6F]
 |x::l,env,i=>by rw[p6F,p3T,p3T,u1e N x,u1f N l]
end
mutual
theorem u4h(N:Nat→Bs):∀(f:i8F) (env:List (Bs×Bs)) (i:Nat),dpF (ren N f env i)=dpF f
 | .mk k n w s,env,i=>by rw[ren,dpF,dpF,u1g N s]
theorem u1g(N:Nat→Bs):∀(l:List i8F) (env:List (Bs×Bs)) (i:Nat),u0X (p6F N l env i)=u0X l
 | [],env,i=>by rw[p6F]
 |x::l,env,i=>by rw[p6F,u0X,u0X,u4h N x,u1g N l]
end
def nms(N:Nat→Bs):Nat→Nat→List Bs
 | _,0=>[]
 |i,m+1=>N i::nms N (i+1) m
theorem r4W(N:Nat→Bs):∀(a b i:Nat),nms N i (a+b)=nms N i a++nms N (i+a) b
 |0,b,i=>by rw[Nat.zero_add];rfl
 |a+1,b,i=>by rw[show a+1+b=(a+b)+1 by omega,nms,nms,r4W N a b,List.cons_append,show i+1+a=i+(a+1)by omega]
mutual
theorem u7G(N:Nat→Bs):∀(f:i8F) (env:List (Bs×Bs)) (i:Nat),qs (ren N f env i)=nms N i (nq f)
 | .mk k n w s,env,i=>by
   rw[ren,qs,nq,u1h N s,r4W]
   by_cases h:QK k
   ·simp only[if_pos h];rfl
   ·simp only[if_neg h];rfl
theorem u1h(N:Nat→Bs):∀(l:List i8F) (env:List (Bs×Bs)) (i:Nat),qsL (p6F N l env i)=nms N i (nqL l)
 | [],env,i=>by rw[p6F,nqL];rfl
 |x::l,env,i=>by rw[p6F,qsL,nqL,u7G N x,u1h N l,r4W]
end
def Idn(env:List (Bs×Bs)):Prop:=∀p∈env,p.1=p.2
theorem u7H{env:List (Bs×Bs)}(h:Idn env)(w:Bs):sub env w=w:=by
 induction env with
 |nil=>rfl
 |cons p env ih=>
  obtain⟨a,b⟩:=p
  rw[p6r,ih fun q hq=>h q (List.mem_cons_of_mem _ hq)]
  split
  ·rename_i e;rw[←e];exact(h (a,b) (List.mem_cons_self ..)).symm
  ·rfl
mutual
theorem u5q(N:Nat→Bs):∀(f:i8F) (env env':List (Bs×Bs)) (i:Nat),Idn env'→ren N (ren N f env i) env' i=ren N f env i
 | .mk k n w s,env,env',i,h=>by
   have hw:(w.map (sub env)).map (sub env')=w.map (sub env):=by
    conv=>rhs;rw[←List.map_id (w.map (sub env))]
    exact List.map_congr_left fun x _=>u7H h x
   rw[ren,ren,hw]
   by_cases hq:QK k
   ·simp only[if_pos hq]
    rw[r4X N s _ _ _ (fun p hp=>by
     rcases List.mem_cons.1 hp with rfl|hp
     ·rfl
     ·exact h p hp)]
   ·simp only[if_neg hq]
    rw[r4X N s _ _ _ h]
theorem r4X(N:Nat→Bs):∀(l:List i8F) (env env':List (Bs×Bs)) (i:Nat),Idn env'→p6F N (p6F N l env i) env' i=p6F N l env i
 | [],env,env',i,h=>by rw[p6F,p6F]
 |x::l,env,env',i,h=>by
  rw[p6F,p6F,u5q N x _ _ _ h,u4g,r4X N l _ _ _ h]
end
mutual
def fre:i8F→List Bs→Bs→Prop
 | .mk k n w s,bd,x=>(x∈w∧x∉bd)∨p7W s (if QK k then n::bd else bd) x
def p7W:List i8F→List Bs→Bs→Prop
 | [],_,_=>False
 |f::l,bd,x=>fre f bd x∨p7W l bd x
end
theorem r8o(f:i8F)(bd:List Bs)(x:Bs):fre f bd x↔(x∈f.words∧x∉bd)∨p7W f.subs (if QK f.kind then f.name::bd else bd) x:=by cases f;rw[fre];rfl
theorem r4Y:∀ {l:List i8F} {bd:List Bs} {x:Bs},p7W l bd x↔ ∃f∈l,fre f bd x
 | [],bd,x=>by simp[p7W]
 |f::l,bd,x=>by rw[p7W,r4Y];simp
mutual
theorem u5r:∀(f:i8F) (bd:List Bs) (x:Bs),fre f bd x→x∉bd
 | .mk k n w s,bd,x,h=>by
   rw[fre]at h
   rcases h with h|h
   ·exact h.2
   ·have:=r8p s _ x h
    split at this
    ·exact fun e=>this (List.mem_cons_of_mem _ e)
    ·exact this
theorem r8p:∀(l:List i8F) (bd:List Bs) (x:Bs),p7W l bd x→x∉bd
 | [],bd,x,h=>by rw[p7W]at h;exact h.elim
 |f::l,bd,x,h=>by
  rw[p7W]at h
  exact h.elim (u5r f bd x) (r8p l bd x)
end
mutual
theorem u1i(N:Nat→Bs)(U:Bs→Prop)(hN:∀i,¬U (N i)):∀(f:i8F) (env:List (Bs×Bs)) (i:Nat),(∀x,fre f (env.map (·.1)) x→U x)→(∀p∈env,∃j,p.2=N j)→∀x,fre (ren N f env i) (env.map (·.2)) x↔fre f (env.map (·.1)) x
 | .mk k n w s,env,i,hU,he,x=>by
   have key:∀y∈w,(sub env y∉env.map (·.2)↔y∉env.map (·.1))∧(y∉env.map (·.1)→sub env y=y):=fun y hy=>by
    by_cases hb:y∈env.map (·.1)
    ·exact⟨⟨fun h=>absurd (u1c hb) h,fun h=>absurd hb h⟩,fun h=>absurd hb h⟩
    ·have e:sub env y=y:=u1b fun p hp e=>hb (List.mem_map.2 ⟨p,hp,e⟩)
     rw[e]
     refine⟨⟨fun _=>hb,fun _ h=>?_⟩,fun _=>rfl⟩
     obtain⟨p,hp,e2⟩:=List.mem_map.1 h
     obtain⟨j,hj⟩:=he p hp
     exact hN j (by rw[←hj,e2];exact hU y (by rw[fre];exact .inl ⟨hy,hb⟩))
   have hs:p7W (p6F N s (if QK k then(n,N i)::env else env) (i+if QK k then 1 else 0)) (if QK k then N i::env.map (·.2)else env.map (·.2)) x↔p7W s (if QK k then n::env.map (·.1)else env.map (·.1)) x:=by
    by_cases hq:QK k
    ·simp only[if_pos hq]
     exact r4Z N U hN s ((n,N i)::env) (i+1) (fun y hy=>hU y (by rw[fre,if_pos hq];exact .inr hy)) (fun p hp=>by
      rcases List.mem_cons.1 hp with rfl|hp
      ·exact⟨i,rfl⟩
      ·exact he p hp) x
    ·simp only[if_neg hq]
     exact r4Z N U hN s env _ (fun y hy=>hU y (by rw[fre,if_neg hq];exact .inr hy)) he x
   rw[ren,fre,fre]
   have hn:(if QK k then(if QK k then N i else n)::env.map (·.2)else env.map (·.2))=(if QK k then N i::env.map (·.2)else env.map (·.2)):=by
    by_cases hq:QK k<;>simp[hq]
   rw[hn,hs]
   refine or_congr_left ⟨fun h=>?_,fun h=>?_⟩
   ·obtain⟨h1,h2⟩:=h
    obtain⟨y,hy,rfl⟩:=List.mem_map.1 h1
    have hk:=key y hy
    have hb:=hk.1.1 h2
    rw[hk.2 hb]
    exact⟨hy,hb⟩
   ·have hk:=key x h.1
    have e:=hk.2 h.2
    exact⟨List.mem_map.2 ⟨x,h.1,e⟩,by rw[←e];exact hk.1.2 h.2⟩
theorem r4Z(N:Nat→Bs)(U:Bs→Prop)(hN:∀i,¬U (N i)):∀(l:List i8F) (env:List (Bs×Bs)) (i:Nat),(∀x,p7W l (env.map (·.1)) x→U x)→(∀p∈env,∃j,p.2=N j)→∀x,p7W (p6F N l env i) (env.map (·.2)) x↔p7W l (env.map (·.1)) x
 | [],env,i,_,_,x=>by rw[p6F];simp[p7W]
 |f::l,env,i,hU,he,x=>by
  rw[p6F,p7W,p7W,u1i N U hN f env i (fun y hy=>hU y (by rw[p7W];exact .inl hy)) he x,r4Z N U hN l env _ (fun y hy=>hU y (by rw[p7W];exact .inr hy)) he x]
end
theorem u5s(k:Int):p7s k=some (arF k):=by
 by_cases h1:k=1
 ·subst h1;rfl
 by_cases h2:k=2
 ·subst h2;rfl
 by_cases h3:k=3
 ·subst h3;rfl
 by_cases h4:k=4
 ·subst h4;rfl
 by_cases h5:k=5
 ·subst h5;rfl
 by_cases h6:k=6
 ·subst h6;rfl
 by_cases h7:k=7
 ·subst h7;rfl
 by_cases h8:k=8
 ·subst h8;rfl
 by_cases h9:k=9
 ·subst h9;rfl
 simp[p7s,p4F,p4G,p4H,arF,h1,h2,h3,h4,h5,h6,h7,h8,h9]
theorem p9K(f:i8F):i9W f=some (decide (QK f.kind)):=by
 unfold i9W QK
 by_cases h:f.kind=8<;>simp[h]
def r9B(c:Int×Int)(b:Int)(r:i8N×Int):Prop:=r.1.code=c.1∧(c.1=0→r=(⟨0,0⟩,c.2)∧b≤c.2∧c.2≤200)∧(c.1≠0→r.1=⟨c.1,c.2⟩)
theorem r9B.bad{c b x:Int}{r:i8N×Int}(hc:c≠0)(hr:r.1=⟨c,x⟩):r9B (c,x) b r:=⟨by rw[hr],fun h=>absurd h hc,fun _=>hr⟩
theorem u4i(k:Int):arF k≤2:=by unfold arF;repeat' split<;>omega
theorem u1j{f:i8F}(h:arF f.kind<0):p4A f=4:=by unfold p4A;rw[if_pos h]
theorem u1k{f:i8F}(h0:¬arF f.kind<0)(h:(f.subs.length:Int)≠arF f.kind∨¬p6Y f.kind f.words.length):p4A f=9:=by unfold p4A;rw[if_neg h0,if_pos h]
theorem r8q{f:i8F}(h0:¬arF f.kind<0)(h1:¬((f.subs.length:Int)≠arF f.kind∨¬p6Y f.kind f.words.length))(h:(f.kind=2∨QK f.kind)∧¬p0a f.name):p4A f=10:=by unfold p4A;rw[if_neg h0,if_neg h1,if_pos h]
theorem u1l{f:i8F}(h0:¬arF f.kind<0)(h1:¬((f.subs.length:Int)≠arF f.kind∨¬p6Y f.kind f.words.length))(h2:¬((f.kind=2∨QK f.kind)∧¬p0a f.name))(h:¬(f.kind=2∨QK f.kind)∧f.name≠ []):p4A f=5:=by unfold p4A;rw[if_neg h0,if_neg h1,if_neg h2,if_pos h]
open Classical in
theorem u1m{f:i8F}(h0:¬arF f.kind<0)(h1:¬((f.subs.length:Int)≠arF f.kind∨¬p6Y f.kind f.words.length))(h2:¬((f.kind=2∨QK f.kind)∧¬p0a f.name))(h3:¬(¬(f.kind=2∨QK f.kind)∧f.name≠ [])):p4A f=if ∃w∈f.words,¬p0a w then 10 else 0:=by unfold p4A;rw[if_neg h0,if_neg h1,if_neg h2,if_neg h3]
theorem p5p{s:Bs}{b:Bool}(h:b=r2h s):b=true↔p0a s:=by
 rw[h];unfold r2h;simp
theorem r6h{l:List Bs}(h:∀j,j<l.length→p0a (Am.get l j)):¬ ∃w∈l,¬p0a w:=fun⟨w,hw,hn⟩=>by
 obtain⟨j,hj,rfl⟩:=p1x.1 hw
 exact hn (h j hj)
theorem u1n:∀(m:Nat) (f:i8F),SizeOf.sizeOf f≤m→∀d b:Int,0≤d→d≤41→0≤b→b≤200→Evt (fun n=>p0t n f d b false) (r9B (r1Z f d b) b):=by
 intro m
 induction m with
 |zero=>intro f h;cases f;simp only[i8F.mk.sizeOf_spec]at h;omega
 |succ m ih=>
  intro f hf d b hd0 hd hb0 hb
  have hw1:wr .i64 (d+1)=d+1:=p0D (by omega) (by omega)
  have hw2:wr .i64 (b+1)=b+1:=p0D (by omega) (by omega)
  refine Evt.succ ?_
  simp only[p0t,hw2,u5s,Option.bind_some]
  rw[u0Z]
  refine Evt.cond (fun e=>?_) (fun e=>?_)
  ·replace e:=bx e
   rw[if_pos (by omega)]
   exact Evt.pure (r9B.bad (by decide) rfl)
  replace e:=bx e
  rw[if_neg (by omega)]
  have key:Evt (fun n=>p3B (p0t n) b f d false (arF f.kind)) (r9B (if p4A f=0 then p6Z f.subs (d+1) (b+1)else(p4A f,b)) b):=by
   unfold p3B
   refine Evt.cond (fun e=>?_) (fun e=>?_)
   ·replace e:=bx e
    rw[u1j e,if_neg (by decide)]
    exact Evt.pure (r9B.bad (by decide) rfl)
   replace e:=bx e
   have e0:¬arF f.kind<0:=by omega
   have k1:∀c:Bool,(c=true↔p6Y f.kind f.words.length)→Evt (fun n=>p2z (p0t n) f (arF f.kind) b d false c) (r9B (if p4A f=0 then p6Z f.subs (d+1) (b+1)else(p4A f,b)) b):=by
    intro c hc
    unfold p2z
    refine Evt.cond (fun e=>?_) (fun e=>?_)
    ·replace e:=bx e
     rw[u1k e0 (by
      rcases e with e|e
      ·exact .inl e
      ·exact .inr fun h=>by rw[hc.2 h]at e;cases e),if_neg (by decide)]
     exact Evt.pure (r9B.bad (by decide) (by simp only[hw2]))
    replace e:=bx e
    have e1:¬((f.subs.length:Int)≠arF f.kind∨¬p6Y f.kind f.words.length):=fun h=>h.elim (fun h=>h e.1) (fun h=>h (hc.1 e.2))
    have h10:f.kind≠10:=fun h=>by
     rw[h]at e0;exact e0 (by decide)
    simp only[p9K]
    refine Evt.bind (P:=fun v=>v=(!(decide (f.kind=2))&&decide (QK f.kind))) (Evt.gd (fun g=>Evt.pure (by replace g:=bx g;simp[g])) (fun g=>by replace g:=bx g;simp[g])) fun v5 hv5=>?_
    have hn:(bif bif decide (f.kind=2)then true else v5 then true else decide (f.kind=10))=decide (f.kind=2∨QK f.kind):=by
     subst hv5
     by_cases h2:f.kind=2<;>simp[h2,h10]
    rw[hn]
    refine Evt.bind (P:=fun v=>(f.kind=2∨QK f.kind)→(v=true↔p0a f.name)) (Evt.gd (fun g=>(r0o f.name).mono fun v hv _=>p5p hv) (fun g h=>absurd h (by simpa using g))) fun v6 hv6=>?_
    refine Evt.cond (fun e=>?_) (fun e=>?_)
    ·replace e:=bx e
     rw[r8q e0 e1 ⟨e.1,fun h=>by rw[(hv6 e.1).2 h]at e;cases e.2⟩,if_neg (by decide)]
     exact Evt.pure (r9B.bad (by decide) (by simp only[hw2]))
    have e2:¬((f.kind=2∨QK f.kind)∧¬p0a f.name):=fun⟨h1,h2⟩=>by
     cases v6 with
     |true=>exact h2 ((hv6 h1).1 rfl)
     |false=>simp[h1]at e
    refine Evt.cond (fun e=>?_) (fun e=>?_)
    ·replace e:=bx e
     rw[u1l e0 e1 e2 ⟨by simpa using e.1,e.2⟩,if_neg (by decide)]
     exact Evt.pure (r9B.bad (by decide) (by simp only[hw2]))
    have e3:¬(¬(f.kind=2∨QK f.kind)∧f.name≠ []):=fun⟨h1,h2⟩=>by simp[h1,h2]at e
    have u1o:=u1m e0 e1 e2 e3
    refine Evt.i8R (Evt.scan (fun k _=>∀j,j<k→p0a (Am.get f.words j)) (fun k r=>r.1=⟨10,b⟩∧∃w∈f.words,¬p0a w) (fun j hj=>absurd hj (Nat.not_lt_zero _)) (fun k u hk hi=>?_)) (fun t ht=>?_) (fun r hr=>?_)
    ·unfold p5u
     refine Evt.bind (r0o _) fun v hv=>Evt.cond (fun e=>?_) (fun e=>Evt.pure ?_)
     ·replace e:=bx e
      exact Evt.pure ⟨rfl,_,get_mem hk,fun h=>by rw[(p5p hv).2 h]at e;cases e⟩
     ·replace e:=bx e
      intro j hj
      by_cases ej:j=k
      ·subst ej;exact(p5p hv).1 e
      ·exact hi j (by omega)
    ·have hall:=r6h ht
     rw[u1o,if_neg hall,if_pos rfl]
     unfold p5v
     rw[hw2]
     have hsl:f.subs.length≤2:=by
      have:=u4i f.kind
      have:(f.subs.length:Int)=arF f.kind:=Classical.byContradiction fun h=>e1 (.inl h)
      omega
     refine Evt.i8R (Evt.range (fun k c=>p6Z (f.subs.drop k) (d+1) c=p6Z f.subs (d+1) (b+1)∧b+1≤c∧c≤200) (fun _=>False) (fun r=>r9B (p6Z f.subs (d+1) (b+1)) b r) ⟨rfl,by omega,by omega⟩ (fun k c hk hj=>?_)) (fun t ht=>Evt.pure ?_) (fun r hr=>hr)
     ·obtain⟨h1,h2,h3⟩:=hj
      unfold p5w
      have hsz:=p0V hk
      rw[hw1]
      rw[r4V hk,p6Z]at h1
      refine Evt.bind (ih _ (by omega) _ _ (by omega) (by omega) (by omega) h3) fun v hv=>Evt.cond (fun e=>Evt.pure ?_) (fun e=>Evt.pure ?_)
      ·replace e:=bx e
       rw[hv.1]at e
       rw[if_neg e]at h1
       rw[←h1]
       exact⟨hv.1,fun h=>absurd h e,hv.2.2⟩
      ·replace e:=bx e
       rw[hv.1]at e
       rw[if_pos e]at h1
       obtain⟨hv1,hv2,hv3⟩:=hv.2.1 e
       rw[hv1]
       exact⟨h1,by show b+1≤(r1Z _ _ _).2;omega,hv3⟩
     ·obtain⟨h1,h2,h3⟩:=ht.elim id False.elim
      rw[List.drop_length,p6Z]at h1
      unfold p5x at*
      rw[←h1]
      exact⟨rfl,fun _=>⟨rfl,by show b≤t;omega,h3⟩,fun h=>absurd rfl h⟩
    ·obtain⟨k,_,_,_,h1,h2⟩:=hr
     rw[u1o,if_pos h2,if_neg (by decide)]
     exact r9B.bad (by decide) h1
   refine Evt.cond (fun e=>k1 _ ?_) (fun e=>Evt.cond (fun e2=>k1 _ ?_) (fun e2=>k1 _ ?_))
   ·replace e:=bx e
    unfold p6Y;simp[e];omega
   ·replace e:=bx e;replace e2:=bx e2
    unfold p6Y;simp[e2];omega
   ·replace e:=bx e;replace e2:=bx e2
    unfold p6Y;simp[e,e2]
  refine Evt.cond (fun e=>?_) (fun e=>key)
  simp at e
noncomputable def p8W(f:i8F):i8N:=if(r1Z f 1 0).1=0 then⟨0,0⟩else⟨(r1Z f 1 0).1,(r1Z f 1 0).2⟩
theorem p6l(f:i8F):(p8W f).code=0↔OkF f:=by
 rw[←r8n]
 unfold p8W
 split
 ·simp[*]
 ·simp[*]
theorem p9v{f:i8F}(h:OkF f):p8W f=⟨0,0⟩:=by unfold p8W;rw[if_pos ((r8n f).2 h)]
theorem p5X(f:i8F):Evt (fun n=>p3e n f) (fun r=>r=p8W f):=by
 unfold p3e p7M
 simp only[Option.bind_assoc,Option.bind_some]
 refine Evt.bind (u1n _ f (Nat.le_refl _) 1 0 (by omega) (by omega) (by omega) (by omega)) fun v hv=>Evt.pure ?_
 unfold p8W
 split
 ·rename_i h;rw[(hv.2.1 h).1]
 ·rename_i h;exact hv.2.2 h
theorem u1p(k:Int):Evt (fun _=>p2e k) (fun r=>r=arF k):=by
 unfold p2e
 refine Evt.cond (fun e=>Evt.pure ?_) (fun e=>?_)
 ·replace e:=bx e
  unfold arF
  rw[if_neg (by omega),if_neg (by omega),if_neg (by omega)]
 ·replace e:=bx e
  refine Evt.chk (by omega) (Evt.pure ?_)
  have:k=1∨k=2∨k=3∨k=4∨k=5∨k=6∨k=7∨k=8∨k=9:=by omega
  rcases this with rfl|rfl|rfl|rfl|rfl|rfl|rfl|rfl|rfl<;>rfl
abbrev FA:=i8J
def fat(d:Int)(f:i8F):FA:=⟨f,d⟩
abbrev r5a:Nat→List FA×Int×Nat→Option (Ctl i8N (List FA×Int×Nat) Unit):=fun n=>i9C n false
theorem r3t(f:i8F):p4A f=0→f.subs.length≤2:=fun h=>by
 have h1:=(p3F h).1
 have:=u4i f.kind
 omega
section
variable {rest:List FA} {f:i8F} {d c:Int} {st:List FA×Int×Nat}
theorem u5t(p9o:Live st (rest++[⟨f,d⟩]) c)(hd0:0≤d)(hd:d≤41)(hc0:0≤c)(hc:c≤200)(hr:(rest.length:Int)≤2*c)(hs:f.subs.length≤2){Q:Ctl i8N (List FA×Int×Nat) Unit→Prop}
 (q:∀st',Live st' (rest++f.subs.reverse.map (fat (d+1))) (c+1)→Q (.nxt st')):Evt (fun n=>i8T n st 0) Q:=by
 have hsp:=p9o.sp
 have u3o:=p9o.top
 have w1U:=p9o.pop
 have u8L:=p9o.2.2
 have hw:wr .i64 ((st.2.2:Int)-1)=(rest.length:Int):=by rw[p0D (by omega) (by omega)];omega
 have hwd:wr .i64 (d+1)=d+1:=p0D (by omega) (by omega)
 have hwc:wr .i64 (st.2.1+1)=c+1:=by rw[u8L];exact p0D (by omega) (by omega)
 have hwl:wr .i64 ((f.subs.length:Int)-1)=(f.subs.length:Int)-1:=p0D (by omega) (by omega)
 unfold i8T
 refine Evt.cond (fun e=>by simp at e) (fun _=>?_)
 simp only[hw,Int.toNat_natCast,u3o,hwl]
 refine Evt.i8R (P:=ExP (fun t=>t.1.take t.2=rest++f.subs.reverse.map (fat (d+1))∧t.2=(rest++f.subs.reverse.map (fat (d+1))).length) (fun _=>False))
  (Evt.loop (fun s:List FA×Int×Nat=>(s.2.1+1).toNat) (fun s=> -1≤s.2.1∧s.2.1<f.subs.length∧s.1.take s.2.2=rest++(f.subs.drop (s.2.1+1).toNat).reverse.map (fat (d+1))∧s.2.2=(rest++(f.subs.drop (s.2.1+1).toNat).reverse.map (fat (d+1))).length) _ _ ?_ (fun s hi=>?_)) (fun t ht=>?_) (fun r hr=>hr.elim)
 ·refine⟨by show -1≤(f.subs.length:Int)-1;omega,by show(f.subs.length:Int)-1<_;omega,?_,?_⟩
  ·show st.1.take rest.length=rest++(f.subs.drop ((f.subs.length:Int)-1+1).toNat).reverse.map (fat (d+1))
   rw[w1U,show((f.subs.length:Int)-1+1).toNat=f.subs.length by omega,List.drop_length]
   simp
  ·show rest.length=(rest++(f.subs.drop ((f.subs.length:Int)-1+1).toNat).reverse.map (fat (d+1))).length
   rw[show((f.subs.length:Int)-1+1).toNat=f.subs.length by omega,List.drop_length]
   simp
 ·obtain⟨l,i,p⟩:=s
  obtain⟨h0,h1,h2,h3⟩:=hi
  simp only at h0 h1 h2 h3
  unfold p1d
  simp only[hw,Int.toNat_natCast,u3o,hwd]
  refine Evt.cond (fun e=>?_) (fun e=>?_)
  ·replace e:=bx e
   have hil:i.toNat<f.subs.length:=by omega
   have hp:p≤l.length:=by
    have:=congrArg List.length h2
    rw[List.length_take]at this
    omega
   refine Evt.chk ⟨e,h1⟩ (Evt.chk hp (Evt.p1m (Evt.chk ?_ (Evt.pure ?_))))
   ·rw[h2,p0q]
    simp only[List.length_append,List.length_map,List.length_reverse,List.length_drop,List.length_cons,List.length_nil]
    omega
   ·have hi1:wr .i64 (i-1)=i-1:=p0D (by omega) (by omega)
    rw[hi1,h2]
    have hd1:f.subs.drop (i-1+1).toNat=Am.get f.subs i.toNat::f.subs.drop (i+1).toNat:=by
     rw[show(i-1+1).toNat=i.toNat by omega,r4V hil,show(i+1).toNat=i.toNat+1 by omega]
    refine⟨⟨by show -1≤i-1;omega,by show i-1<_;omega,?_,?_⟩,by show(i-1+1).toNat<(i+1).toNat;omega⟩
    ·show List.take _ _=_
     rw[List.take_length,hd1,List.reverse_cons,List.map_append,List.append_assoc]
     rfl
    ·show List.length _=_
     rw[hd1,List.reverse_cons,List.map_append,List.append_assoc]
     rfl
  ·replace e:=bx e
   have hi:i= -1:=by omega
   subst hi
   refine Evt.pure ⟨?_,?_⟩
   ·simpa using h2
   ·simpa using h3
 ·obtain⟨h1,h2⟩:=ht
  unfold p1e
  rw[hwc]
  exact Evt.pure (q _ ⟨h1,h2,rfl⟩)
theorem r7u(p9o:Live st (rest++[⟨f,d⟩]) c)(hd0:0≤d)(hd:d≤41)(hc0:0≤c)(hc:c≤200)(hr:(rest.length:Int)≤2*c){Q:Ctl i8N (List FA×Int×Nat) Unit→Prop}
 (q1:200<c+1∨40<d→Q (.ret ⟨1,c⟩)) (q2:¬(200<c+1∨40<d)→p4A f≠0→Q (.ret ⟨p4A f,c⟩)) (q3:¬(200<c+1∨40<d)→p4A f=0→∀st',Live st' (rest++f.subs.reverse.map (fat (d+1))) (c+1)→Q (.nxt st')):
 Evt (fun n=>r5a n st) Q:=by
 have hsp:=p9o.sp
 have hle:=p9o.le
 have u3o:=p9o.top
 have u8L:=p9o.2.2
 have hw:wr .i64 ((st.2.2:Int)-1)=(rest.length:Int):=by rw[p0D (by omega) (by omega)];omega
 have u6j:∀x:Int,x≠0→Q (.ret ⟨x,c⟩)→Evt (fun n=>i8T n st x) Q:=fun x hx h=>by
  unfold i8T
  refine Evt.cond (fun e=>Evt.pure (by rw[u8L];exact h)) (fun e=>?_)
  simp[hx]at e
 unfold r5a i9C
 simp only[hw,Int.toNat_natCast,u3o]
 refine Evt.cond (fun _=>?_) (fun e=>by replace e:=bx e;omega)
 refine Evt.chk hle (Evt.chk (by omega) (Evt.chk (by omega) (Evt.bind (u1p _) fun v hv=>?_)))
 subst hv
 refine Evt.cond (fun e=>by simp at e) (fun _=>?_)
 have key:∀most least:Int,((f.words.length:Int)<least∨most<(f.words.length:Int)↔ ¬p6Y f.kind f.words.length)→Evt (fun n=>i9D n st (arF f.kind) (most,least)) Q:=by
  intro most least hwd
  unfold i9D
  simp only[hw,Int.toNat_natCast,u3o,u8L]
  refine Evt.cond (fun e=>u6j 1 (by decide) (q1 (by replace e:=bx e;omega))) (fun e=>?_)
  replace e:=bx e
  have hn:¬(200<c+1∨40<d):=by omega
  refine Evt.cond (fun e=>?_) (fun e=>?_)
  ·replace e:=bx e
   have h:=u1j e
   exact u6j 4 (by decide) (by rw[←h];exact q2 hn (by rw[h];decide))
  have e0:¬arF f.kind<0:=by replace e:=bx e;omega
  refine Evt.cond (fun e=>?_) (fun e=>?_)
  ·replace e:=bx e
   have h:=u1k e0 (by
    rcases e with(e|e)|e
    ·exact .inl e
    ·exact .inr (hwd.1 (.inl e))
    ·exact .inr (hwd.1 (.inr e)))
   exact u6j 9 (by decide) (by rw[←h];exact q2 hn (by rw[h];decide))
  replace e:=bx e
  have e1:¬((f.subs.length:Int)≠arF f.kind∨¬p6Y f.kind f.words.length):=fun h=>h.elim (fun h=>h e.1.1) (fun h=>by
   have:=hwd.2 h
   omega)
  have h10:f.kind≠10:=fun h=>by
   rw[h]at e0;exact e0 (by decide)
  have hnm:(bif bif bif decide (f.kind=2)then true else decide (f.kind=8)then true else decide (f.kind=9)then true else decide (f.kind=10))=decide (f.kind=2∨QK f.kind):=by
   unfold QK
   by_cases h2:f.kind=2
   ·simp[h2]
   ·by_cases h8:f.kind=8
    ·simp[h8]
    ·by_cases h9:f.kind=9
     ·simp[h9]
     ·simp[h2,h8,h9,h10]
  rw[hnm]
  refine Evt.bind (P:=fun v=>(f.kind=2∨QK f.kind)→(v=true↔p0a f.name)) (Evt.gd (fun g=>(r3s f.name).mono fun v hv _=>p5p hv) (fun g h=>absurd h (by simpa using g))) fun v6 hv6=>?_
  refine Evt.cond (fun e=>?_) (fun e=>?_)
  ·replace e:=bx e
   have h:=r8q e0 e1 ⟨e.1,fun h=>by rw[(hv6 e.1).2 h]at e;cases e.2⟩
   exact u6j 10 (by decide) (by rw[←h];exact q2 hn (by rw[h];decide))
  have e2:¬((f.kind=2∨QK f.kind)∧¬p0a f.name):=fun⟨h1,h2⟩=>by
   cases v6 with
   |true=>exact h2 ((hv6 h1).1 rfl)
   |false=>simp[h1]at e
  refine Evt.cond (fun e=>?_) (fun e=>?_)
  ·replace e:=bx e
   have h:=u1l e0 e1 e2 ⟨by simpa using e.1,e.2⟩
   exact u6j 5 (by decide) (by rw[←h];exact q2 hn (by rw[h];decide))
  have e3:¬(¬(f.kind=2∨QK f.kind)∧f.name≠ []):=fun⟨h1,h2⟩=>by simp[h1,h2]at e
  have u1o:=u1m e0 e1 e2 e3
  refine Evt.i8R (P:=ExP (fun t:Int=>t=p4A f) (fun _=>False)) ((Evt.range (fun k s=>(s=0∧∀j,j<k→p0a (Am.get f.words j))∨(s=10∧∃w∈f.words,¬p0a w)) (fun _=>False) (fun _=>False) (.inl ⟨rfl,fun j hj=>absurd hj (Nat.not_lt_zero _)⟩) (fun k s hk hi=>?_)).mono fun x hx=>?_) (fun t ht=>?_) (fun r hr=>hr.elim)
  ·unfold p1f
   simp only[hw,Int.toNat_natCast,u3o]
   refine Evt.bind (r3s _) fun v hv=>Evt.cond (fun e=>Evt.pure (.inr ⟨rfl,_,get_mem hk,fun h=>?_⟩)) (fun e=>Evt.pure ?_)
   ·replace e:=bx e
    rw[(p5p hv).2 h]at e;cases e
   ·replace e:=bx e
    rcases hi with⟨h1,h2⟩|h
    ·refine .inl ⟨h1,fun j hj=>?_⟩
     by_cases ej:j=k
     ·subst ej;exact(p5p hv).1 e
     ·exact h2 j (by omega)
    ·exact .inr h
  ·cases x with
   |ret r=>exact hx
   |nxt t=>
    rcases hx.elim id False.elim with⟨h1,h2⟩|⟨h1,h2⟩
    ·show t=p4A f
     rw[u1o,if_neg (r6h h2)];exact h1
    ·show t=p4A f
     rw[u1o,if_pos h2];exact h1
  ·have ht:t=p4A f:=ht
   subst ht
   unfold p1g
   by_cases h0:p4A f=0
   ·rw[h0]
    exact u5t p9o hd0 hd hc0 hc hr (r3t f h0) (q3 hn h0)
   ·exact u6j _ h0 (q2 hn h0)
 unfold p0i
 simp only[hw,Int.toNat_natCast,u3o]
 refine Evt.cond (fun e=>?_) (fun e=>?_)
 ·replace e:=bx e
  unfold i9E
  simp only[hw,Int.toNat_natCast,u3o]
  refine Evt.cond (fun e2=>by replace e2:=bx e2;omega) (fun e2=>key _ _ ?_)
  have hw3:p6Y f.kind f.words.length↔f.words.length≤3:=by unfold p6Y;simp[e]
  rw[hw3];omega
 ·replace e:=bx e
  unfold i9E
  simp only[hw,Int.toNat_natCast,u3o]
  refine Evt.cond (fun e2=>key _ _ ?_) (fun e2=>key _ _ ?_)
  ·replace e2:=bx e2
   have hw3:p6Y f.kind f.words.length↔f.words.length=2:=by unfold p6Y;simp[e2]
   rw[hw3];omega
  ·replace e2:=bx e2
   have hw3:p6Y f.kind f.words.length↔f.words.length=0:=by unfold p6Y;simp[e,e2]
   rw[hw3];omega
end
theorem u5u(f:i8F)(d b:Int)(h:(r1Z f d b).1=0):b≤(r1Z f d b).2∧(r1Z f d b).2≤200:=by
 obtain⟨_,h2,h3,_⟩:=r7s f d b h
 omega
theorem r9q:∀(m:Nat) (f:i8F),SizeOf.sizeOf f≤m→∀(rest:List FA) (d c:Int) (st:List FA×Int×Nat),Live st (rest++[⟨f,d⟩]) c→0≤d→d≤41→(rest.length:Int)≤2*c→0≤c→c≤200→
 ((r1Z f d c).1=0→∃st',Live st' rest (r1Z f d c).2∧p5O r5a st st')∧((r1Z f d c).1≠0→p8P r5a st (.ret ⟨(r1Z f d c).1,(r1Z f d c).2⟩)):=by
 intro m
 induction m with
 |zero=>intro f h;cases f;simp only[i8F.mk.sizeOf_spec]at h;omega
 |succ m ih=>
  intro f hf rest d c st p9o hd0 hd hr hc0 hc
  rw[u0Z]
  by_cases h1:200<c+1∨40<d
  ·rw[if_pos h1]
   exact⟨fun h=>absurd (show(1:Int)=0 from h) (by decide),fun _=>p8P.ret (r7u p9o hd0 hd hc0 hc hr (fun _=>rfl) (fun h=>absurd h1 h) (fun h=>absurd h1 h))⟩
  rw[if_neg h1]
  by_cases h2:p4A f=0
  ·rw[if_pos h2]
   have parts:∀(l:List i8F),(∀x∈l,SizeOf.sizeOf x≤m)→∀(c:Int) (st:List FA×Int×Nat),Live st (rest++l.reverse.map (fat (d+1))) c→(rest.length:Int)+l.length≤2*c+1→0≤c→c≤200→
    ((p6Z l (d+1) c).1=0→∃st',Live st' rest (p6Z l (d+1) c).2∧p5O r5a st st')∧((p6Z l (d+1) c).1≠0→p8P r5a st (.ret ⟨(p6Z l (d+1) c).1,(p6Z l (d+1) c).2⟩)):=by
    intro l
    induction l with
    |nil=>
     intro _ c st hl _ _ _
     rw[p6Z]
     refine⟨fun _=>⟨st,by simpa using hl,p5O.refl⟩,fun h=>absurd rfl h⟩
    |cons x l ihl=>
     intro hx c st hl hr hc0 hc
     have hl2:Live st ((rest++l.reverse.map (fat (d+1)))++[⟨x,d+1⟩]) c:=by
      rw[List.reverse_cons,List.map_append, ←List.append_assoc]at hl
      exact hl
     simp only[List.length_cons]at hr
     have i0:=ih x (hx x (List.mem_cons_self ..)) _ (d+1) c st hl2 (by omega) (by omega) (by simp only[List.length_append,List.length_map,List.length_reverse];omega) hc0 hc
     rw[p6Z]
     by_cases h0:(r1Z x (d+1) c).1=0
     ·rw[if_pos h0]
      have hbd:=u5u x (d+1) c h0
      obtain⟨st',hl3,hst⟩:=i0.1 h0
      have i1:=ihl (fun y hy=>hx y (List.mem_cons_of_mem _ hy)) _ st' hl3 (by omega) (by omega) hbd.2
      refine⟨fun h=>?_,fun h=>hst.ends (i1.2 h)⟩
      obtain⟨r9E,hl4,w1V⟩:=i1.1 h
      exact⟨r9E,hl4,hst.trans w1V⟩
     ·rw[if_neg h0]
      exact⟨fun h=>absurd h h0,fun _=>i0.2 h0⟩
   have hsz:∀x∈f.subs,SizeOf.sizeOf x≤m:=fun x hx=>by
    obtain⟨j,hj,rfl⟩:=p1x.1 hx
    have:=p0V hj
    omega
   have hs2:=r3t f h2
   obtain⟨c1,⟨st',rfl,hl'⟩,hN⟩:=r7u (Q:=fun c'=>∃st',c'= .nxt st'∧Live st' (rest++f.subs.reverse.map (fat (d+1))) (c+1)) p9o hd0 hd hc0 hc hr (fun h=>absurd h h1) (fun _ h=>absurd h2 h) (fun _ _ st' h=>⟨st',rfl,h⟩)
   have hstep:p5O r5a st st':=p5O.one ⟨_,rfl,hN⟩
   have ip:=parts f.subs hsz (c+1) st' hl' (by omega) (by omega) (by omega)
   refine⟨fun h=>?_,fun h=>hstep.ends (ip.2 h)⟩
   obtain⟨r9E,h4,h5⟩:=ip.1 h
   exact⟨r9E,h4,hstep.trans h5⟩
  ·rw[if_neg h2]
   exact⟨fun h=>absurd h h2,fun _=>p8P.ret (r7u (Q:=fun c'=>c'= .ret ⟨p4A f,c⟩) p9o hd0 hd hc0 hc hr (fun h=>absurd h h1) (fun _ _=>rfl) (fun _ h=>absurd h h2))⟩
theorem r2a(f:i8F):Evt (fun n=>p0f n f) (fun r=>r=p8W f):=by
 unfold p0f
 refine Evt.bind (P:=fun r=>r=p8W f) ?_ fun v hv=>Evt.pure hv
 unfold p2i
 have h:=r9q _ f (Nat.le_refl _) [] 1 0 ([(i8J.mk f 1)],0,1) ⟨rfl,rfl,rfl⟩ (by omega) (by omega) (by simp) (by omega) (by omega)
 unfold p8W
 by_cases h0:(r1Z f 1 0).1=0
 ·rw[if_pos h0]
  obtain⟨st',hl,hst⟩:=h.1 h0
  have hend:p8P r5a st' (.nxt ()):=p8P.brk (by
   have:=hl.2.1
   unfold r5a i9C
   refine Evt.cond (fun e=>?_) (fun _=>Evt.pure rfl)
   replace e:=bx e
   have h2:st'.2.2=0:=this
   omega)
  exact Evt.i8R (hst.ends hend).evt (fun t ht=>Evt.pure rfl) (fun r hr=>by cases hr)
 ·rw[if_neg h0]
  exact Evt.i8R (h.2 h0).evt (fun t ht=>by cases ht) (fun r hr=>by cases hr;rfl)
theorem i9n{α:Type}[Inhabited α]{l:List α}{k:Nat}(h:k<l.length):l.take (k+1)=l.take k++[Am.get l k]:=by
 rw[List.take_add_one,List.getElem?_eq_getElem h]
 simp[Am.get,h]
theorem r6i{ρ:Type}(xs:List Bs)(body:List Bs×Int→Option (Ctl ρ (List Bs×Int) (List Bs)))
 (hb:∀s,body s=bif decide (s.2<(xs.length:Int))then chk (0≤s.2∧s.2<(xs.length:Int)) <| Am.p1m (s.1++[Am.get xs s.2.toNat]) fun c=>chk (c.length*16≤top∧c.length≤top) <| some (.nxt (c,wr .i64 (s.2+1)))else some (.brk s.1))
 (l0:List Bs) (h:l0.length+xs.length≤1000000):Evt (fun n=>i9z body n (l0,0)) (ExP (fun t=>t=l0++xs) (fun _:ρ=>False)):=by
 refine Evt.p6d xs.length (fun k s=>s=(l0++xs.take k,(k:Int))) _ _ (by simp) (fun k s hk hs=>?_) (fun s hs=>?_)
 ·subst hs
  rw[hb]
  refine Evt.cond (fun _=>Evt.chk (by omega) (Evt.p1m (Evt.chk ?_ (Evt.pure ?_)))) (fun e=>by replace e:=bx e;omega)
  ·rw[p0q]
   simp only[List.length_append,List.length_take,List.length_cons,List.length_nil]
   omega
  ·show(_,_)=(_,_)
   rw[p0D (by omega) (by omega),i9n hk,List.append_assoc]
   rfl
 ·subst hs
  rw[hb]
  refine Evt.cond (fun e=>by replace e:=bx e;omega) (fun _=>Evt.pure ?_)
  show l0++xs.take xs.length=_
  rw[List.take_length]
abbrev IT:=i8G
mutual
def p4B:i8F→List Bs→Nat→List IT
 | .mk k n w s,ar,b=>⟨k,n,w,w.map (fun x=>decide (x∈ar)),((b+(1+p3T s):Nat):Int)⟩::p4T s (if QK k then n::ar else ar) (b+1)
def p4T:List i8F→List Bs→Nat→List IT
 | [],_,_=>[]
 |x::l,ar,b=>p4B x ar b++p4T l ar (b+ndF x)
end
theorem r7v(f:i8F)(ar:List Bs)(b:Nat):p4B f ar b=⟨f.kind,f.name,f.words,f.words.map (fun x=>decide (x∈ar)),((b+ndF f:Nat):Int)⟩::p4T f.subs (if QK f.kind then f.name::ar else ar) (b+1):=by
 cases f;rw[p4B,ndF];rfl
mutual
theorem p4l:∀(f:i8F) (ar:List Bs) (b:Nat),(p4B f ar b).length=ndF f
 | .mk k n w s,ar,b=>by rw[p4B,ndF,List.length_cons,p8r s];omega
theorem p8r:∀(l:List i8F) (ar:List Bs) (b:Nat),(p4T l ar b).length=p3T l
 | [],_,_=>by rw[p4T,p3T];rfl
 |x::l,ar,b=>by rw[p4T,p3T,List.length_append,p4l x,p8r l]
end
theorem p8s:∀(l:List i8F) (x:i8F),p3T (l++[x])=p3T l+ndF x
 | [],x=>by simp[p3T]
 |a::l,x=>by rw[List.cons_append,p3T,p3T,p8s l x];omega
theorem r8r:∀(l m:List i8F),p3T (l++m)=p3T l+p3T m
 | [],m=>by simp[p3T]
 |a::l,m=>by rw[List.cons_append,p3T,p3T,r8r l m];omega
theorem r1H:∀(l:List i8F) (x:i8F) (ar:List Bs) (b:Nat),p4T (l++[x]) ar b=p4T l ar b++p4B x ar (b+p3T l)
 | [],x,ar,b=>by simp[p4T,p3T]
 |a::l,x,ar,b=>by rw[List.cons_append,p4T,p4T,p3T,r1H l x,List.append_assoc,Nat.add_assoc]
theorem p5Y{l:List i8F}{k:Nat}(h:k<l.length):p3T (l.take k)+ndF (Am.get l k)≤p3T l:=by
 have e:l=(l.take k++[Am.get l k])++l.drop (k+1):=by
  rw[List.append_assoc,List.singleton_append, ←r4V h];exact(List.take_append_drop k l).symm
 have h2:p3T l=p3T (l.take k)+ndF (Am.get l k)+p3T (l.drop (k+1)):=by
  conv=>lhs;rw[e]
  rw[r8r,p8s]
 omega
theorem p9w{f:i8F}(h:WfF f):f.words.length≤3:=by
 have h2:=(p3F ((p4O f).1 h).1).2.1
 unfold p6Y at h2
 split at h2
 ·exact h2
 ·split at h2<;>omega
theorem p6B{f:i8F}(h:WfF f){k:Nat}(hk:k<f.subs.length):WfF (Am.get f.subs k):=p2h.1 ((p4O f).1 h).2 _ (get_mem hk)
theorem r0p{f:i8F}(h:WfF f):f.subs.length≤2:=r3t f ((p4O f).1 h).1
theorem r8s(ar:List Bs)(x:Bs)(body:Bool×Int→Option (Ctl (Ctl (List IT) (List Bool×Int) (List Bool)) (Bool×Int) Bool))(p q:Bool×Int→Prop)[∀s,Decidable (p s)][∀s,Decidable (q s)]
 (hb:∀s,body s=bif decide (s.2<(ar.length:Int))then chk (p s) <| chk (q s) <| some (.nxt (bif s.1 then true else decide (Am.get ar s.2.toNat=x),wr .i64 (s.2+1)))else some (.brk s.1))
 (hp:∀s,0≤s.2→s.2<(ar.length:Int)→p s) (hq:∀s,q s) (h:ar.length≤1000000):Evt (fun n=>i9z body n (false,0)) (ExP (fun t=>t=decide (x∈ar)) (fun _=>False)):=by
 refine Evt.p6d ar.length (fun k s=>s=(decide (x∈ar.take k),(k:Int))) _ _ (by simp) (fun k s hk hs=>?_) (fun s hs=>?_)
 ·subst hs
  rw[hb]
  refine Evt.cond (fun _=>Evt.chk (hp _ (by simp) (by simpa using hk)) (Evt.chk (hq _) (Evt.pure ?_))) (fun e=>by replace e:=bx e;omega)
  show(_,_)=(_,_)
  rw[p0D (by omega) (by omega),i9n hk,Int.toNat_natCast]
  congr 1
  by_cases h1:x∈ar.take k
  ·simp[h1]
  ·by_cases h2:Am.get ar k=x
   ·simp[h2]
   ·simp only[h1,h2,List.mem_append,List.mem_singleton,false_or,decide_false,cond_false]
    exact(decide_eq_false fun e=>h2 e.symm).symm
 ·subst hs
  rw[hb]
  refine Evt.cond (fun e=>by replace e:=bx e;omega) (fun _=>Evt.pure ?_)
  show decide (x∈ar.take ar.length)=_
  rw[List.take_length]
theorem r8t(f:i8F)(ar:List Bs)(hw:f.words.length≤3)(ha:ar.length≤1000000)(body:Nat→List Bool×Int→Option (Ctl (List IT) (List Bool×Int) (List Bool)))(b2:List Bool×Int→Bool×Int→Option (Ctl (Ctl (List IT) (List Bool×Int) (List Bool)) (Bool×Int) Bool))
 (hb:∀n s,body n s=bif decide (s.2<(f.words.length:Int))then i8R (i9z (b2 s) n (false,0)) (fun t=>Am.p1m (s.1++[t]) fun c=>chk (c.length*1≤top∧c.length≤top) <| some (.nxt (c,wr .i64 (s.2+1))))else some (.brk s.1))
 (h2:∀(s:List Bool×Int),0≤s.2→s.2<(f.words.length:Int)→Evt (fun n=>i9z (b2 s) n (false,0)) (ExP (fun t=>t=decide (Am.get f.words s.2.toNat∈ar)) (fun _=>False))):
 Evt (fun n=>i9z (body n) n ([],0)) (ExP (fun t=>t=f.words.map fun x=>decide (x∈ar)) (fun _=>False)):=by
 refine Evt.p6d f.words.length (fun k s=>s=((f.words.take k).map (fun x=>decide (x∈ar)),(k:Int))) _ _ (by simp) (fun k s hk hs=>?_) (fun s hs=>?_)
 ·subst hs
  simp only[hb]
  refine Evt.cond (fun _=>Evt.i8R (h2 _ (by simp) (by simpa using hk)) (fun t ht=>Evt.p1m (Evt.chk ?_ (Evt.pure ?_))) (fun _ h=>h.elim)) (fun e=>by replace e:=bx e;omega)
  ·rw[p0q]
   simp only[List.length_append,List.length_map,List.length_take,List.length_cons,List.length_nil]
   omega
  ·have ht:t=decide (Am.get f.words k∈ar):=ht
   show(_,_)=(_,_)
   rw[p0D (by omega) (by omega),i9n hk,List.map_append,ht]
   rfl
 ·subst hs
  simp only[hb]
  refine Evt.cond (fun e=>by replace e:=bx e;omega) (fun _=>Evt.pure ?_)
  show(f.words.take f.words.length).map _=_
  rw[List.take_length]
theorem u1q{α:Type}[Inhabited α](l:List α)(x y:α)(m:List α):((l++[x])++m).set l.length y=l++y::m∧Am.get ((l++[x])++m) l.length=x:=by
 rw[List.append_assoc]
 refine⟨?_,?_⟩
 ·rw[List.set_append_right _ _ (Nat.le_refl _),Nat.sub_self]
  rfl
 ·unfold Am.get
  rw[List.getD_eq_getElem?_getD,List.getElem?_append_right (Nat.le_refl _)]
  simp
theorem r6j:∀(m:Nat) (f:i8F),SizeOf.sizeOf f≤m→WfF f→∀(ar:List Bs) (l:List IT),l.length+ndF f≤100000→ar.length+ndF f≤100000→
 Evt (fun n=>i9c n f ar l) (fun r=>r=l++p4B f ar l.length):=by
 intro m
 induction m with
 |zero=>intro f h;cases f;simp only[i8F.mk.sizeOf_spec]at h;omega
 |succ m ih=>
  intro f hf hwf ar l hl ha
  have hnd:=p9u f
  have hws:=p9w hwf
  refine Evt.succ ?_
  simp only[i9c]
  refine Evt.i8R (P:=ExP (fun t=>t=f.words.map fun x=>decide (x∈ar)) (fun _=>False)) ?_ (fun t ht=>?_) (fun _ h=>h.elim)
  ·refine r8t f ar hws (by omega) (fun n=>p1K n f ar) (fun s=>p1L ar s f) (fun n s=>rfl) (fun s hs0 hs1=>?_)
   refine r8s ar (Am.get f.words s.2.toNat) _ (fun s2=>p5Q (!s2.1) (0≤s2.2)∧p5Q (!s2.1) (s2.2<(ar.length:Int))) (fun s2=>p5Q (!s2.1) (0≤s.2)∧p5Q (!s2.1) (s.2<(f.words.length:Int))) (fun s2=>rfl) (fun s2 h1 h2=>⟨fun _=>h1,fun _=>h2⟩) (fun _=>⟨fun _=>hs0,fun _=>hs1⟩) (by omega)
  ·have ht:t=_:=ht
   subst ht
   unfold p1M
   refine Evt.p1m (Evt.chk ?_ ?_)
   ·rw[p0q]
    simp only[List.length_append,List.length_cons,List.length_nil]
    omega
   have key:∀ar':List Bs,ar'=(if QK f.kind then f.name::ar else ar)→Evt (fun n=>i9X (i9c n) n f (l++[⟨f.kind,f.name,f.words,f.words.map fun x=>decide (x∈ar),0⟩]) l ar') (fun r=>r=l++p4B f ar l.length):=by
    intro ar' har
    have hal:ar'.length≤ar.length+1:=by rw[har];split<;>simp
    unfold i9X
    have hsl2:=r0p hwf
    refine Evt.i8R (Evt.p6d f.subs.length (fun k s=>s=((l++[⟨f.kind,f.name,f.words,f.words.map fun x=>decide (x∈ar),0⟩])++p4T (f.subs.take k) ar' (l.length+1),(k:Int))) (fun t=>t=(l++[⟨f.kind,f.name,f.words,f.words.map fun x=>decide (x∈ar),0⟩])++p4T f.subs ar' (l.length+1)) (fun _=>False) (by simp[p4T]) (fun k s hk hs=>?_) (fun s hs=>?_)) (fun t ht=>?_) (fun _ h=>h.elim)
    ·subst hs
     unfold p0I
     have hsz:=p0V hk
     have ht:=p5Y hk
     have hrl:=p8r (f.subs.take k) ar' (l.length+1)
     refine Evt.cond (fun _=>Evt.chk (by simp;omega) (Evt.bind (ih _ (by simp only[Int.toNat_natCast];omega) (p6B hwf (by simpa using hk)) ar' _ ?_ ?_) fun v hv=>Evt.pure ?_)) (fun e=>by replace e:=bx e;omega)
     ·simp only[List.length_append,List.length_cons,List.length_nil,hrl,Int.toNat_natCast];omega
     ·simp only[Int.toNat_natCast];omega
     ·subst hv
      show(_,_)=(_,_)
      rw[p0D (by omega) (by omega),i9n hk,r1H,Int.toNat_natCast,List.append_assoc]
      simp only[List.length_append,List.length_cons,List.length_nil,hrl]
      rfl
    ·subst hs
     unfold p0I
     refine Evt.cond (fun e=>by replace e:=bx e;omega) (fun _=>Evt.pure ?_)
     show _++p4T (f.subs.take f.subs.length) ar' _=_
     rw[List.take_length]
    ·have ht:t=_:=ht
     subst ht
     unfold p1N
     refine Evt.chk (by simp only[List.length_append,List.length_cons,List.length_nil];omega) (Evt.p1m (Evt.pure ?_))
     obtain⟨h1,h2⟩:=u1q l (⟨f.kind,f.name,f.words,f.words.map fun x=>decide (x∈ar),0⟩:IT) ⟨f.kind,f.name,f.words,f.words.map fun x=>decide (x∈ar),((l.length+ndF f:Nat):Int)⟩ (p4T f.subs ar' (l.length+1))
     rw[h2,r7v, ←har, ←h1]
     congr 2
     simp only[List.length_append,List.length_cons,List.length_nil,p8r]
     omega
   refine Evt.cond (fun e=>?_) (fun e=>key ar ?_)
   ·have hq:QK f.kind:=by
     unfold QK
     by_cases h8:f.kind=8
     ·exact .inl h8
     ·simpa[h8]using e
    refine Evt.i8R (r6i ar (p1O ar) (fun s=>rfl) [f.name] (by simp;omega)) (fun t ht=>?_) (fun _ h=>h.elim)
    have ht:t=_:=ht
    subst ht
    exact key _ (by rw[if_pos hq];rfl)
   ·rw[if_neg]
    unfold QK
    by_cases h8:f.kind=8
    ·simp[h8]at e
    ·simpa[h8]using e
theorem r2w{f:i8F}(hwf:WfF f)(ar:List Bs)(hl:ndF f≤50000)(ha:ar.length≤50000):Evt (fun n=>p0b n f ar) (fun r=>r=p4B f ar 0):=by
 have h:=(r6j _ f (Nat.le_refl _) hwf ar [] (by simp;omega) (by omega)).mono (P':=fun r=>r=p4B f ar 0) fun r hr=>by simpa using hr
 have hnd:=p9u f
 have hws:=p9w hwf
 unfold p0b
 refine Evt.i8R (P:=ExP (fun t=>t=f.words.map fun x=>decide (x∈ar)) (fun _=>False)) ?_ (fun t ht=>?_) (fun _ h=>h.elim)
 ·refine r8t f ar hws (by omega) (fun n=>p2K n f ar) (fun s=>p2L ar s f) (fun n s=>rfl) (fun s hs0 hs1=>?_)
  refine r8s ar (Am.get f.words s.2.toNat) _ (fun s2=>p5Q (!s2.1) (0≤s2.2)∧p5Q (!s2.1) (s2.2<(ar.length:Int))) (fun s2=>p5Q (!s2.1) (0≤s.2)∧p5Q (!s2.1) (s.2<(f.words.length:Int))) (fun s2=>rfl) (fun s2 h1 h2=>⟨fun _=>h1,fun _=>h2⟩) (fun _=>⟨fun _=>hs0,fun _=>hs1⟩) (by omega)
 ·have ht:t=_:=ht
  subst ht
  unfold p2M
  refine Evt.p1m (Evt.chk (by simp[p0q]) ?_)
  have key:∀ar':List Bs,ar'=(if QK f.kind then f.name::ar else ar)→Evt (fun n=>p0u n f [⟨f.kind,f.name,f.words,f.words.map fun x=>decide (x∈ar),0⟩] ar') (fun r=>r=p4B f ar 0):=by
   intro ar' har
   have hal:ar'.length≤ar.length+1:=by rw[har];split<;>simp
   unfold p0u
   have hsl2:=r0p hwf
   refine Evt.i8R (Evt.p6d f.subs.length (fun k s=>s=([⟨f.kind,f.name,f.words,f.words.map fun x=>decide (x∈ar),0⟩]++p4T (f.subs.take k) ar' 1,(k:Int))) (fun t=>t=[⟨f.kind,f.name,f.words,f.words.map fun x=>decide (x∈ar),0⟩]++p4T f.subs ar' 1) (fun _=>False) (by simp[p4T]) (fun k s hk hs=>?_) (fun s hs=>?_)) (fun t ht=>?_) (fun _ h=>h.elim)
   ·subst hs
    unfold p1p
    have ht:=p5Y hk
    have hrl:=p8r (f.subs.take k) ar' 1
    refine Evt.cond (fun _=>Evt.chk (by simp;omega) (Evt.bind (r6j _ _ (Nat.le_refl _) (p6B hwf (by simpa using hk)) ar' _ ?_ ?_) fun v hv=>Evt.pure ?_)) (fun e=>by replace e:=bx e;omega)
    ·simp only[List.length_append,List.length_cons,List.length_nil,hrl,Int.toNat_natCast];omega
    ·simp only[Int.toNat_natCast];omega
    ·subst hv
     show(_,_)=(_,_)
     rw[p0D (by omega) (by omega),i9n hk,r1H,Int.toNat_natCast,List.append_assoc]
     simp only[List.length_append,List.length_cons,List.length_nil,hrl]
     rfl
   ·subst hs
    unfold p1p
    refine Evt.cond (fun e=>by replace e:=bx e;omega) (fun _=>Evt.pure ?_)
    show _++p4T (f.subs.take f.subs.length) ar' _=_
    rw[List.take_length]
   ·have ht:t=_:=ht
    subst ht
    unfold p2N
    refine Evt.chk (by simp only[List.length_append,List.length_cons,List.length_nil];omega) (Evt.p1m (Evt.pure ?_))
    obtain⟨h1,h2⟩:=u1q [] (⟨f.kind,f.name,f.words,f.words.map fun x=>decide (x∈ar),0⟩:IT) ⟨f.kind,f.name,f.words,f.words.map fun x=>decide (x∈ar),((0+ndF f:Nat):Int)⟩ (p4T f.subs ar' 1)
    simp only[List.nil_append,List.length_nil]at h1 h2
    rw[h2,r7v, ←har, ←h1]
    congr 2
    simp only[List.length_append,List.length_cons,List.length_nil,p8r]
    omega
  refine Evt.cond (fun e=>?_) (fun e=>key ar ?_)
  ·have hq:QK f.kind:=by
    unfold QK
    by_cases h8:f.kind=8
    ·exact .inl h8
    ·simpa[h8]using e
   refine Evt.i8R (r6i ar (p2O ar) (fun s=>rfl) [f.name] (by simp;omega)) (fun t ht=>?_) (fun _ h=>h.elim)
   have ht:t=_:=ht
   subst ht
   exact key _ (by rw[if_pos hq];rfl)
  ·rw[if_neg]
   unfold QK
   by_cases h8:f.kind=8
   ·simp[h8]at e
   ·simpa[h8]using e
end Go.Proofs.YtdjnbjnlnjhllaaGreatDoor
