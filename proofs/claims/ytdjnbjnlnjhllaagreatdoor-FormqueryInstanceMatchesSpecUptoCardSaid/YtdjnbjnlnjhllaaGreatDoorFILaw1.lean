import Derived.Test.YtdjnbjnlnjhllaaGreatDoorFILaw0
set_option linter.unusedVariables false
set_option linter.unusedSimpArgs false
namespace Go.Am
open Go
section
variable {σ ρ τ:Type} {body:Nat→σ→Option (Ctl ρ σ τ)} {s s' s'':σ} {e:Ex ρ τ}
def x1N(body:Nat→σ→Option (Ctl ρ σ τ))(s s':σ):Prop:=∃k N,∀n,N≤n→∀f,w4K (body n) (f+k) s=w4K (body n) f s'
def x6b(body:Nat→σ→Option (Ctl ρ σ τ))(s:σ)(e:Ex ρ τ):Prop:=∃k N,∀n,N≤n→∀f,w4K (body n) (f+k) s=some e
theorem x1N.refl:x1N body s s:=⟨0,0,fun _ _ _=>rfl⟩
theorem x1N.trans(h:x1N body s s')(k:x1N body s' s''):x1N body s s'':=by
 obtain⟨a,N,h⟩:=h
 obtain⟨b,M,k⟩:=k
 exact⟨b+a,max N M,fun n hn f=>by rw[←Nat.add_assoc,h n (by omega),k n (by omega)]⟩
theorem x1N.ends(h:x1N body s s')(k:x6b body s' e):x6b body s e:=by
 obtain⟨a,N,h⟩:=h
 obtain⟨b,M,k⟩:=k
 exact⟨b+a,max N M,fun n hn f=>by rw[←Nat.add_assoc,h n (by omega),k n (by omega)]⟩
theorem x1N.one(h:Evt (fun n=>body n s) (fun c=>c= .nxt s')):x1N body s s':=by
 obtain⟨c,rfl,N,h⟩:=h
 exact⟨1,N,fun n hn f=>by show w4K (body n) (f+1) s=_;simp only[w4K,h n hn]⟩
theorem x6b.brk{t:τ}(h:Evt (fun n=>body n s) (fun c=>c= .brk t)):x6b body s (.nxt t):=by
 obtain⟨c,rfl,N,h⟩:=h
 exact⟨1,N,fun n hn f=>by show w4K (body n) (f+1) s=_;simp only[w4K,h n hn]⟩
theorem x6b.ret{r:ρ}(h:Evt (fun n=>body n s) (fun c=>c= .ret r)):x6b body s (.ret r):=by
 obtain⟨c,rfl,N,h⟩:=h
 exact⟨1,N,fun n hn f=>by show w4K (body n) (f+1) s=_;simp only[w4K,h n hn]⟩
theorem x6b.evt(h:x6b body s e):Evt (fun n=>w4K (body n) n s) (fun x=>x=e):=by
 obtain⟨k,N,h⟩:=h
 exact⟨e,rfl,max N k,fun n hn=>by
  have:=h n (by omega) (n-k)
  rwa[show n-k+k=n by omega]at this⟩
end
end Go.Am
namespace Go.Proofs.YtdjnbjnlnjhllaaGreatDoor
open Go Go.Am
theorem get_mem{α:Type}[Inhabited α]{l:List α}{k:Nat}(h:k<l.length):Am.get l k∈l:=by
 unfold Am.get
 rw[List.getD_eq_getElem?_getD,List.getElem?_eq_getElem h]
 exact List.getElem_mem h
theorem y1e{α:Type}[Inhabited α]{l:List α}{k:Nat}(h:k<l.length):l.drop k=Am.get l k::l.drop (k+1):=by
 rw[List.drop_eq_getElem_cons h]
 unfold Am.get
 rw[List.getD_eq_getElem?_getD,List.getElem?_eq_getElem h];rfl
def Live{α:Type}(st:List α×Int×Nat)(l:List α)(c:Int):Prop:=st.1.take st.2.2=l∧st.2.2=l.length∧st.2.1=c
section
variable {α:Type} {st:List α×Int×Nat} {rest:List α} {x:α} {c:Int}
theorem Live.le{l:List α}(h:Live st l c):st.2.2≤st.1.length:=by
 have h1:=congrArg List.length h.1
 rw[List.length_take]at h1
 have h2:=h.2.1
 omega
theorem Live.sp(h:Live st (rest++[x]) c):st.2.2=rest.length+1:=by rw[h.2.1];simp
theorem Live.top[Inhabited α](h:Live st (rest++[x]) c):Am.get st.1 rest.length=x:=by
 have h1:Am.get (st.1.take st.2.2) rest.length=Am.get st.1 rest.length:=y9w (by rw[h.sp];omega)
 rw[←h1,h.1]
 exact y3F
theorem Live.pop(h:Live st (rest++[x]) c):st.1.take rest.length=rest:=by
 have h1:=congrArg (List.take rest.length) h.1
 rw[List.take_take,List.take_left,h.sp,Nat.min_eq_left (by omega)]at h1
 exact h1
end
theorem x9B(s:Bs):Evt (fun n=>w6U n s) (fun b=>b=x7j s):=by
 unfold w6U
 refine Evt.cond (fun h=>Evt.pure (w9U fun hn=>?_).symm) (fun h=>?_)
 ·obtain⟨h1,h2,h3,_⟩:=hn
  replace h:=bx h
  omega
 replace h:=bx h
 refine Evt.w4h (P:=ExP (fun _=>x7j s=true) (fun b=>b=false∧x7j s=false)) (Evt.loop (fun i:Int=>(s.length-i).toNat) (fun i=>0≤i∧i≤s.length∧∀j:Nat,(j:Int)<i→OkC (w5e s (j:Int))∧(j=0→97≤w5e s 0∧w5e s 0≤122)) _ _ ⟨Int.le_refl _,by omega,fun j hj=>by omega⟩ (fun i hi=>?_)) (fun t ht=>Evt.pure ht.symm) (fun r hr=>by rw[hr.1,hr.2])
 obtain⟨h0,h1,h2⟩:=hi
 unfold w8L
 refine Evt.cond (fun e=>?_) (fun e=>Evt.pure ?_)
 ·replace e:=bx e
  have hw:wr .i64 (i+1)=i+1∨True:=.inr trivial
  refine Evt.chk ⟨h0,e⟩ (Evt.cond (fun e2=>Evt.pure ⟨rfl,w9U fun hn=>?_⟩) (fun e2=>Evt.pure ?_))
  ·replace e2:=bx e2
   have h3:=hn.2.2.2 i.toNat (by omega)
   rw[show((i.toNat:Nat):Int)=i by omega]at h3
   unfold OkC at h3
   have h4:=hn.2.2.1
   by_cases hi0:i=0
   ·subst hi0;omega
   ·omega
  ·replace e2:=bx e2
   have hl:s.length≤30:=by omega
   rw[w5h (by omega) (by omega)]
   refine⟨⟨by omega,by omega,fun j hj=>?_⟩,by omega⟩
   by_cases ej:(j:Int)=i
   ·rw[ej]
    unfold OkC
    by_cases hi0:i=0
    ·subst hi0
     by_cases hc:97≤w5e s 0∧w5e s 0≤122
     ·exact⟨.inl hc,fun _=>hc⟩
     ·exact absurd rfl (e2 (by omega)).1
    ·exact⟨by omega,fun h=>by omega⟩
   ·exact h2 j (by omega)
 ·replace e:=bx e
  exact x4C ⟨by omega,by omega,(h2 0 (by omega)).2 rfl,fun k hk=>(h2 k (by omega)).1⟩
end Go.Proofs.YtdjnbjnlnjhllaaGreatDoor
namespace Go.Am
open Go
theorem Evt.x1P{σ ρ τ:Type}{body:Nat→σ→Option (Ctl ρ σ τ)}{s0:σ}(N:Nat)(I:Nat→σ→Prop)(B:τ→Prop)(R:ρ→Prop)(h0:I 0 s0)
 (hs:∀k s,k<N→I k s→Evt (fun n=>body n s) (y3C (I (k+1)) B R)) (he:∀s,I N s→Evt (fun n=>body n s) (y3C (fun _=>False) B R)):
 Evt (fun n=>w4K (body n) n s0) (ExP B R):=by
 have key:∀j k s,k+j=N→I k s→∃e,ExP B R e∧∃M,∀n,M≤n→∀f,j<f→w4K (body n) f s=some e:=by
  intro j
  induction j with
  |zero=>
   intro k s hk hi
   obtain rfl:k=N:=by omega
   obtain⟨c,hc,M,hM⟩:=he s hi
   cases c with
   |nxt s'=>exact hc.elim
   |brk t=>refine⟨.nxt t,hc,M,fun n hn f hf=>?_⟩;obtain⟨g,rfl⟩:∃g,f=g+1:=⟨f-1,by omega⟩;simp only[w4K,hM n hn]
   |ret x=>refine⟨.ret x,hc,M,fun n hn f hf=>?_⟩;obtain⟨g,rfl⟩:∃g,f=g+1:=⟨f-1,by omega⟩;simp only[w4K,hM n hn]
  |succ j ih=>
   intro k s hk hi
   obtain⟨c,hc,M,hM⟩:=hs k s (by omega) hi
   cases c with
   |nxt s'=>
    obtain⟨e,he,L,hL⟩:=ih (k+1) s' (by omega) hc
    refine⟨e,he,max M L,fun n hn f hf=>?_⟩
    obtain⟨g,rfl⟩:∃g,f=g+1:=⟨f-1,by omega⟩
    simp only[w4K,hM n (by omega)]
    exact hL n (by omega) g (by omega)
   |brk t=>refine⟨.nxt t,hc,M,fun n hn f hf=>?_⟩;obtain⟨g,rfl⟩:∃g,f=g+1:=⟨f-1,by omega⟩;simp only[w4K,hM n hn]
   |ret x=>refine⟨.ret x,hc,M,fun n hn f hf=>?_⟩;obtain⟨g,rfl⟩:∃g,f=g+1:=⟨f-1,by omega⟩;simp only[w4K,hM n hn]
 obtain⟨e,he,M,hM⟩:=key N 0 s0 (by omega) h0
 exact⟨e,he,max M (N+1),fun n hn=>hM n (by omega) n (by omega)⟩
end Go.Am
namespace Go.Proofs.YtdjnbjnlnjhllaaGreatDoor
open Go Go.Am
def QK(k:Int):Prop:=k=8∨k=9
instance(k:Int):Decidable (QK k):=inferInstanceAs (Decidable (_∨_))
mutual
def ndF:w3T→Nat
 | .mk _ _ _ s=>1+w6H s
def w6H:List w3T→Nat
 | []=>0
 |x::l=>ndF x+w6H l
end
mutual
def dpF:w3T→Nat
 | .mk _ _ _ s=>1+x4Y s
def x4Y:List w3T→Nat
 | []=>0
 |x::l=>max (dpF x) (x4Y l)
end
mutual
def nq:w3T→Nat
 | .mk k _ _ s=>(if QK k then 1 else 0)+nqL s
def nqL:List w3T→Nat
 | []=>0
 |x::l=>nq x+nqL l
end
mutual
def qs:w3T→List Bs
 | .mk k n _ s=>(if QK k then [n]else [])++qsL s
def qsL:List w3T→List Bs
 | []=>[]
 |x::l=>qs x++qsL l
end
theorem x3y(f:w3T):ndF f=1+w6H f.subs:=by cases f;rw[ndF];rfl
theorem y4J(f:w3T):dpF f=1+x4Y f.subs:=by cases f;rw[dpF];rfl
theorem z3U(f:w3T):nq f=(if QK f.kind then 1 else 0)+nqL f.subs:=by cases f;rw[nq];rfl
theorem y3G(f:w3T):qs f=(if QK f.kind then [f.name]else [])++qsL f.subs:=by cases f;rw[qs];rfl
mutual
theorem x6q:∀f:w3T,(qs f).length=nq f
 | .mk k n w s=>by rw[qs,nq,List.length_append,y3H];split<;>rfl
theorem y3H:∀l:List w3T,(qsL l).length=nqL l
 | []=>by rw[qsL,nqL];rfl
 |x::l=>by rw[qsL,nqL,List.length_append,x6q,y3H]
end
mutual
theorem x7P:∀f:w3T,nq f≤ndF f
 | .mk k n w s=>by
   rw[nq,ndF]
   have:=y7s s
   split<;>omega
theorem y7s:∀l:List w3T,nqL l≤w6H l
 | []=>by rw[nqL];omega
 |x::l=>by
  rw[nqL,w6H]
  have h1:=x7P x
  have h2:=y7s l
  omega
end
theorem w6s{f:w3T}{k:Nat}(h:k<f.subs.length):SizeOf.sizeOf (Am.get f.subs k)<SizeOf.sizeOf f:=by
 cases f with
 |mk a b c s=>
  have h2:Am.get s k∈s:=by
   unfold Am.get
   have h3:k<s.length:=h
   rw[List.getD_eq_getElem?_getD,List.getElem?_eq_getElem h3]
   exact List.getElem_mem h3
  have:=List.sizeOf_lt_of_mem h2
  show SizeOf.sizeOf (Am.get s k)<_
  simp only[w3T.mk.sizeOf_spec]
  omega
def arF(k:Int):Int:=if k=1∨k=2∨k=3 then 0 else if k=4∨k=8∨k=9 then 1 else if k=5∨k=6∨k=7 then 2 else -1
def x2P(k:Int)(n:Nat):Prop:=if k=2 then n≤3 else if k=3 then n=2 else n=0
instance(k:Int)(n:Nat):Decidable (x2P k n):=by unfold x2P;infer_instance
open Classical in
noncomputable def w9L(f:w3T):Int:=
 if arF f.kind<0 then 4
 else if(f.subs.length:Int)≠arF f.kind∨¬x2P f.kind f.words.length then 9
 else if(f.kind=2∨QK f.kind)∧¬w4J f.name then 10
 else if ¬(f.kind=2∨QK f.kind)∧f.name≠ []then 5
 else if ∃w∈f.words,¬w4J w then 10
 else 0
mutual
noncomputable def x8k:w3T→Int→Int→Int×Int
 | .mk k n w s,d,b=>if 200<b+1∨40<d then(1,b)else if w9L (.mk k n w s)=0 then x3e s (d+1) (b+1)else(w9L (.mk k n w s),b)
noncomputable def x3e:List w3T→Int→Int→Int×Int
 | [],_,b=>(0,b)
 |x::l,d,b=>if(x8k x d b).1=0 then x3e l d (x8k x d b).2 else x8k x d b
end
theorem y7t(f:w3T)(d b:Int):x8k f d b=if 200<b+1∨40<d then(1,b)else if w9L f=0 then x3e f.subs (d+1) (b+1)else(w9L f,b):=by
 cases f;rw[x8k];rfl
mutual
def WfF:w3T→Prop
 | .mk k n w s=>w9L (.mk k n w s)=0∧x7k s
def x7k:List w3T→Prop
 | []=>True
 |x::l=>WfF x∧x7k l
end
theorem x1W(f:w3T):WfF f↔w9L f=0∧x7k f.subs:=by cases f;rw[WfF];rfl
theorem w6t:∀ {l:List w3T},x7k l↔ ∀x∈l,WfF x
 | []=>by simp[x7k]
 |x::l=>by rw[x7k,w6t];simp
mutual
theorem y3I:∀(f:w3T) (d b:Int),(x8k f d b).1=0→WfF f∧(x8k f d b).2=b+ndF f∧b+ndF f≤200∧d-1+dpF f≤40
 | .mk k n w s,d,b,h=>by
   rw[x8k]at h⊢
   split at h
   ·cases h
   ·rename_i h1
    rw[if_neg h1]
    split at h
    ·rename_i h2
     rw[if_pos h2]
     obtain⟨w1,w2,w3,w4⟩:=y4K s (d+1) (b+1) h (by omega) (by omega)
     rw[WfF,ndF,dpF]
     refine⟨⟨h2,w1⟩,?_,?_,?_⟩<;>omega
    ·exact absurd h (by assumption)
theorem y4K:∀(l:List w3T) (d b:Int),(x3e l d b).1=0→b≤200→d-1≤40→x7k l∧(x3e l d b).2=b+w6H l∧b+w6H l≤200∧d-1+x4Y l≤40
 | [],d,b,_,hb,hd=>by rw[x3e,x7k,w6H,x4Y];refine⟨trivial,?_,?_,?_⟩<;>first|omega|(show b=_;omega)
 |x::l,d,b,h,hb,hd=>by
  rw[x3e]at h⊢
  split at h
  ·rename_i h1
   rw[if_pos h1]
   obtain⟨w1,w2,w3,w4⟩:=y3I x d b h1
   rw[w2]at h⊢
   obtain⟨v1,v2,v3,v4⟩:=y4K l d (b+ndF x) h w3 hd
   rw[x7k,w6H,x4Y]
   refine⟨⟨w1,v1⟩,?_,?_,?_⟩<;>omega
  ·exact absurd h (by assumption)
end
mutual
theorem y7u:∀(f:w3T) (d b:Int),WfF f→b+ndF f≤200→d-1+dpF f≤40→x8k f d b=(0,b+ndF f)
 | .mk k n w s,d,b,h1,h2,h3=>by
   rw[WfF]at h1
   rw[ndF]at h2⊢
   rw[dpF]at h3
   rw[x8k,if_neg (by omega),if_pos h1.1,y4L s (d+1) (b+1) h1.2 (by omega) (by omega)]
   congr 1
   omega
theorem y4L:∀(l:List w3T) (d b:Int),x7k l→b+w6H l≤200→d-1+x4Y l≤40→x3e l d b=(0,b+w6H l)
 | [],d,b,_,_,_=>by rw[x3e,w6H];congr 1;omega
 |x::l,d,b,h1,h2,h3=>by
  rw[x7k]at h1
  rw[w6H]at h2⊢
  rw[x4Y]at h3
  rw[x3e,y7u x d b h1.1 (by omega) (by omega),if_pos rfl,y4L l d _ h1.2 (by omega) (by omega)]
  congr 1
  omega
end
def OkF(f:w3T):Prop:=WfF f∧ndF f≤200∧dpF f≤40
theorem y4M(f:w3T):(x8k f 1 0).1=0↔OkF f:=by
 refine⟨fun h=>?_,fun h=>?_⟩
 ·obtain⟨h1,h2,h3,h4⟩:=y3I f 1 0 h
  exact⟨h1,by omega,by omega⟩
 ·rw[y7u f 1 0 h.1 (by have:=h.2.1;omega) (by have:=h.2.2;omega)]
theorem x1r{f:w3T}(h:w9L f=0):(f.subs.length:Int)=arF f.kind∧x2P f.kind f.words.length∧(f.kind=2∨QK f.kind→w4J f.name)∧(¬(f.kind=2∨QK f.kind)→f.name=[])∧∀w∈f.words,w4J w:=by
 unfold w9L at h
 split at h
 ·cases h
 split at h
 ·cases h
 split at h
 ·cases h
 split at h
 ·cases h
 split at h
 ·cases h
 rename_i h1 h2 h3 h4 h5
 refine⟨Classical.byContradiction fun e=>h2 (.inl e),Classical.byContradiction fun e=>h2 (.inr e),fun h=>Classical.byContradiction fun e=>h3 ⟨h,e⟩,fun h=>Classical.byContradiction fun e=>h4 ⟨h,e⟩,fun w hw=>Classical.byContradiction fun e=>h5 ⟨w,hw,e⟩⟩
theorem y4N{f:w3T}(h0:0≤arF f.kind)(h1:(f.subs.length:Int)=arF f.kind)(h2:x2P f.kind f.words.length)(h3:f.kind=2∨QK f.kind→w4J f.name)(h4:¬(f.kind=2∨QK f.kind)→f.name=[])(h5:∀w∈f.words,w4J w):w9L f=0:=by
 unfold w9L
 rw[if_neg (by omega),if_neg (fun h=>h.elim (fun e=>e h1) (fun e=>e h2)),if_neg (fun h=>h.2 (h3 h.1)),if_neg (fun h=>h.2 (h4 h.1)),if_neg (fun⟨w,hw,e⟩=>e (h5 w hw))]
def sub(env:List (Bs×Bs))(w:Bs):Bs:=((env.find? (fun p=>p.1==w)).map (·.2)).getD w
theorem y3J(w:Bs):sub [] w=w:=rfl
theorem x2s(a b w:Bs)(env:List (Bs×Bs)):sub ((a,b)::env) w=if a=w then b else sub env w:=by
 unfold sub
 rw[List.find?_cons]
 by_cases h:a=w
 ·simp[h]
 ·have:(a==w)=false:=beq_false_of_ne h
  simp[this,h]
theorem y7v{env:List (Bs×Bs)}{w:Bs}(h:∀p∈env,p.1≠w):sub env w=w:=by
 induction env with
 |nil=>rfl
 |cons p env ih=>
  obtain⟨a,b⟩:=p
  rw[x2s,if_neg (h (a,b) (List.mem_cons_self ..)),ih fun q hq=>h q (List.mem_cons_of_mem _ hq)]
theorem y7w{env:List (Bs×Bs)}{w:Bs}(h:w∈env.map (·.1)):sub env w∈env.map (·.2):=by
 induction env with
 |nil=>cases h
 |cons p env ih=>
  obtain⟨a,b⟩:=p
  rw[x2s]
  split
  ·exact List.mem_cons_self ..
  ·rename_i hne
   rw[List.map_cons,List.mem_cons]at h
   exact List.mem_cons_of_mem _ (ih (h.resolve_left fun e=>hne e.symm))
mutual
def ren(N:Nat→Bs):w3T→List (Bs×Bs)→Nat→w3T
 | .mk k n w s,env,i=>.mk k (if QK k then N i else n) (w.map (sub env)) (x2K N s (if QK k then(n,N i)::env else env) (i+if QK k then 1 else 0))
def x2K(N:Nat→Bs):List w3T→List (Bs×Bs)→Nat→List w3T
 | [],_,_=>[]
 |x::l,env,i=>ren N x env i::x2K N l env (i+nq x)
end
theorem z0r(N:Nat→Bs)(f:w3T)(env:List (Bs×Bs))(i:Nat):ren N f env i= .mk f.kind (if QK f.kind then N i else f.name) (f.words.map (sub env)) (x2K N f.subs (if QK f.kind then(f.name,N i)::env else env) (i+if QK f.kind then 1 else 0)):=by
 cases f;rw[ren];rfl
theorem x7l(N:Nat→Bs):∀(l:List w3T) (env:List (Bs×Bs)) (i:Nat),(x2K N l env i).length=l.length
 | [],_,_=>by rw[x2K]
 |x::l,env,i=>by rw[x2K,List.length_cons,List.length_cons,x7l N l]
mutual
theorem z0s(N:Nat→Bs):∀(f:w3T) (env:List (Bs×Bs)) (i:Nat),nq (ren N f env i)=nq f
 | .mk k n w s,env,i=>by rw[ren,nq,nq,y7x N s]
theorem y7x(N:Nat→Bs):∀(l:List w3T) (env:List (Bs×Bs)) (i:Nat),nqL (x2K N l env i)=nqL l
 | [],env,i=>by rw[x2K]
 |x::l,env,i=>by rw[x2K,nqL,nqL,z0s N x,y7x N l]
end
mutual
theorem y7y(N:Nat→Bs):∀(f:w3T) (env:List (Bs×Bs)) (i:Nat),ndF (ren N f env i)=ndF f
 | .mk k n w s,env,i=>by rw[ren,ndF,ndF,y7z N s]
theorem y7z(N:Nat→Bs):∀(l:List w3T) (env:List (Bs×Bs)) (i:Nat),w6H (x2K N l env i)=w6H l
 | [],env,i=>by rw[x2K]
 |x::l,env,i=>by rw[x2K,w6H,w6H,y7y N x,y7z N l]
end
mutual
theorem z0t(N:Nat→Bs):∀(f:w3T) (env:List (Bs×Bs)) (i:Nat),dpF (ren N f env i)=dpF f
 | .mk k n w s,env,i=>by rw[ren,dpF,dpF,y7A N s]
theorem y7A(N:Nat→Bs):∀(l:List w3T) (env:List (Bs×Bs)) (i:Nat),x4Y (x2K N l env i)=x4Y l
 | [],env,i=>by rw[x2K]
 |x::l,env,i=>by rw[x2K,x4Y,x4Y,z0t N x,y7A N l]
end
def nms(N:Nat→Bs):Nat→Nat→List Bs
 | _,0=>[]
 |i,m+1=>N i::nms N (i+1) m
theorem y1f(N:Nat→Bs):∀(a b i:Nat),nms N i (a+b)=nms N i a++nms N (i+a) b
 |0,b,i=>by rw[Nat.zero_add];rfl
 |a+1,b,i=>by rw[show a+1+b=(a+b)+1 by omega,nms,nms,y1f N a b,List.cons_append,show i+1+a=i+(a+1)by omega]
mutual
theorem z3V(N:Nat→Bs):∀(f:w3T) (env:List (Bs×Bs)) (i:Nat),qs (ren N f env i)=nms N i (nq f)
 | .mk k n w s,env,i=>by
   rw[ren,qs,nq,y7B N s,y1f]
   by_cases h:QK k
   ·simp only[if_pos h];rfl
   ·simp only[if_neg h];rfl
theorem y7B(N:Nat→Bs):∀(l:List w3T) (env:List (Bs×Bs)) (i:Nat),qsL (x2K N l env i)=nms N i (nqL l)
 | [],env,i=>by rw[x2K,nqL];rfl
 |x::l,env,i=>by rw[x2K,qsL,nqL,z3V N x,y7B N l,y1f]
end
def Idn(env:List (Bs×Bs)):Prop:=∀p∈env,p.1=p.2
theorem z3W{env:List (Bs×Bs)}(h:Idn env)(w:Bs):sub env w=w:=by
 induction env with
 |nil=>rfl
 |cons p env ih=>
  obtain⟨a,b⟩:=p
  rw[x2s,ih fun q hq=>h q (List.mem_cons_of_mem _ hq)]
  split
  ·rename_i e;rw[←e];exact(h (a,b) (List.mem_cons_self ..)).symm
  ·rfl
mutual
theorem z1y(N:Nat→Bs):∀(f:w3T) (env env':List (Bs×Bs)) (i:Nat),Idn env'→ren N (ren N f env i) env' i=ren N f env i
 | .mk k n w s,env,env',i,h=>by
   have hw:(w.map (sub env)).map (sub env')=w.map (sub env):=by
    conv=>rhs;rw[←List.map_id (w.map (sub env))]
    exact List.map_congr_left fun x _=>z3W h x
   rw[ren,ren,hw]
   by_cases hq:QK k
   ·simp only[if_pos hq]
    rw[y1g N s _ _ _ (fun p hp=>by
     rcases List.mem_cons.1 hp with rfl|hp
     ·rfl
     ·exact h p hp)]
   ·simp only[if_neg hq]
    rw[y1g N s _ _ _ h]
theorem y1g(N:Nat→Bs):∀(l:List w3T) (env env':List (Bs×Bs)) (i:Nat),Idn env'→x2K N (x2K N l env i) env' i=x2K N l env i
 | [],env,env',i,h=>by rw[x2K,x2K]
 |x::l,env,env',i,h=>by
  rw[x2K,x2K,z1y N x _ _ _ h,z0s,y1g N l _ _ _ h]
end
mutual
def fre:w3T→List Bs→Bs→Prop
 | .mk k n w s,bd,x=>(x∈w∧x∉bd)∨x4D s (if QK k then n::bd else bd) x
def x4D:List w3T→List Bs→Bs→Prop
 | [],_,_=>False
 |f::l,bd,x=>fre f bd x∨x4D l bd x
end
theorem z0u(f:w3T)(bd:List Bs)(x:Bs):fre f bd x↔(x∈f.words∧x∉bd)∨x4D f.subs (if QK f.kind then f.name::bd else bd) x:=by cases f;rw[fre];rfl
theorem y1h:∀ {l:List w3T} {bd:List Bs} {x:Bs},x4D l bd x↔ ∃f∈l,fre f bd x
 | [],bd,x=>by simp[x4D]
 |f::l,bd,x=>by rw[x4D,y1h];simp
mutual
theorem z1z:∀(f:w3T) (bd:List Bs) (x:Bs),fre f bd x→x∉bd
 | .mk k n w s,bd,x,h=>by
   rw[fre]at h
   rcases h with h|h
   ·exact h.2
   ·have:=y4O s _ x h
    split at this
    ·exact fun e=>this (List.mem_cons_of_mem _ e)
    ·exact this
theorem y4O:∀(l:List w3T) (bd:List Bs) (x:Bs),x4D l bd x→x∉bd
 | [],bd,x,h=>by rw[x4D]at h;exact h.elim
 |f::l,bd,x,h=>by
  rw[x4D]at h
  exact h.elim (z1z f bd x) (y4O l bd x)
end
mutual
theorem y7C(N:Nat→Bs)(U:Bs→Prop)(hN:∀i,¬U (N i)):∀(f:w3T) (env:List (Bs×Bs)) (i:Nat),(∀x,fre f (env.map (·.1)) x→U x)→(∀p∈env,∃j,p.2=N j)→∀x,fre (ren N f env i) (env.map (·.2)) x↔fre f (env.map (·.1)) x
 | .mk k n w s,env,i,hU,he,x=>by
   have key:∀y∈w,(sub env y∉env.map (·.2)↔y∉env.map (·.1))∧(y∉env.map (·.1)→sub env y=y):=fun y hy=>by
    by_cases hb:y∈env.map (·.1)
    ·exact⟨⟨fun h=>absurd (y7w hb) h,fun h=>absurd hb h⟩,fun h=>absurd hb h⟩
    ·have e:sub env y=y:=y7v fun p hp e=>hb (List.mem_map.2 ⟨p,hp,e⟩)
     rw[e]
     refine⟨⟨fun _=>hb,fun _ h=>?_⟩,fun _=>rfl⟩
     obtain⟨p,hp,e2⟩:=List.mem_map.1 h
     obtain⟨j,hj⟩:=he p hp
     exact hN j (by rw[←hj,e2];exact hU y (by rw[fre];exact .inl ⟨hy,hb⟩))
   have hs:x4D (x2K N s (if QK k then(n,N i)::env else env) (i+if QK k then 1 else 0)) (if QK k then N i::env.map (·.2)else env.map (·.2)) x↔x4D s (if QK k then n::env.map (·.1)else env.map (·.1)) x:=by
    by_cases hq:QK k
    ·simp only[if_pos hq]
     exact y1i N U hN s ((n,N i)::env) (i+1) (fun y hy=>hU y (by rw[fre,if_pos hq];exact .inr hy)) (fun p hp=>by
      rcases List.mem_cons.1 hp with rfl|hp
      ·exact⟨i,rfl⟩
      ·exact he p hp) x
    ·simp only[if_neg hq]
     exact y1i N U hN s env _ (fun y hy=>hU y (by rw[fre,if_neg hq];exact .inr hy)) he x
   rw[ren,fre,fre]
   have hn:(if QK k then(if QK k then N i else n)::env.map (·.2)else env.map (·.2))=(if QK k then N i::env.map (·.2)else env.map (·.2)):=by
    by_cases hq:QK k<;>simp[hq]
   rw[hn,hs]
   refine or_congr_left ⟨fun h=>?_,fun h=>?_⟩
   ·obtain⟨h1,h2⟩:=h
    obtain⟨y,hy,rfl⟩:=List.mem_map.1 h1
    have hk:=key y hy
    have hb:=hk.1.1 h2
    rw[hk.2 hb]
    exact⟨hy,hb⟩
   ·have hk:=key x h.1
    have e:=hk.2 h.2
    exact⟨List.mem_map.2 ⟨x,h.1,e⟩,by rw[←e];exact hk.1.2 h.2⟩
theorem y1i(N:Nat→Bs)(U:Bs→Prop)(hN:∀i,¬U (N i)):∀(l:List w3T) (env:List (Bs×Bs)) (i:Nat),(∀x,x4D l (env.map (·.1)) x→U x)→(∀p∈env,∃j,p.2=N j)→∀x,x4D (x2K N l env i) (env.map (·.2)) x↔x4D l (env.map (·.1)) x
 | [],env,i,_,_,x=>by rw[x2K];simp[x4D]
 |f::l,env,i,hU,he,x=>by
  rw[x2K,x4D,x4D,y7C N U hN f env i (fun y hy=>hU y (by rw[x4D];exact .inl hy)) he x,y1i N U hN l env _ (fun y hy=>hU y (by rw[x4D];exact .inr hy)) he x]
end
theorem z1A(k:Int):x3z k=some (arF k):=by
 by_cases h1:k=1
 ·subst h1;rfl
 by_cases h2:k=2
 ·subst h2;rfl
 by_cases h3:k=3
 ·subst h3;rfl
 by_cases h4:k=4
 ·subst h4;rfl
 by_cases h5:k=5
 ·subst h5;rfl
 by_cases h6:k=6
 ·subst h6;rfl
 by_cases h7:k=7
 ·subst h7;rfl
 by_cases h8:k=8
 ·subst h8;rfl
 by_cases h9:k=9
 ·subst h9;rfl
 simp[x3z,x0l,x0m,x0n,arF,h1,h2,h3,h4,h5,h6,h7,h8,h9]
theorem x5U(f:w3T):w4V f=some (decide (QK f.kind)):=by
 unfold w4V QK
 by_cases h:f.kind=8<;>simp[h]
def y5Z(c:Int×Int)(b:Int)(r:w4b×Int):Prop:=r.1.code=c.1∧(c.1=0→r=(⟨0,0⟩,c.2)∧b≤c.2∧c.2≤200)∧(c.1≠0→r.1=⟨c.1,c.2⟩)
theorem y5Z.bad{c b x:Int}{r:w4b×Int}(hc:c≠0)(hr:r.1=⟨c,x⟩):y5Z (c,x) b r:=⟨by rw[hr],fun h=>absurd h hc,fun _=>hr⟩
theorem z0v(k:Int):arF k≤2:=by unfold arF;repeat' split<;>omega
theorem y7D{f:w3T}(h:arF f.kind<0):w9L f=4:=by unfold w9L;rw[if_pos h]
theorem y7E{f:w3T}(h0:¬arF f.kind<0)(h:(f.subs.length:Int)≠arF f.kind∨¬x2P f.kind f.words.length):w9L f=9:=by unfold w9L;rw[if_neg h0,if_pos h]
theorem y4P{f:w3T}(h0:¬arF f.kind<0)(h1:¬((f.subs.length:Int)≠arF f.kind∨¬x2P f.kind f.words.length))(h:(f.kind=2∨QK f.kind)∧¬w4J f.name):w9L f=10:=by unfold w9L;rw[if_neg h0,if_neg h1,if_pos h]
theorem y7F{f:w3T}(h0:¬arF f.kind<0)(h1:¬((f.subs.length:Int)≠arF f.kind∨¬x2P f.kind f.words.length))(h2:¬((f.kind=2∨QK f.kind)∧¬w4J f.name))(h:¬(f.kind=2∨QK f.kind)∧f.name≠ []):w9L f=5:=by unfold w9L;rw[if_neg h0,if_neg h1,if_neg h2,if_pos h]
open Classical in
theorem y7G{f:w3T}(h0:¬arF f.kind<0)(h1:¬((f.subs.length:Int)≠arF f.kind∨¬x2P f.kind f.words.length))(h2:¬((f.kind=2∨QK f.kind)∧¬w4J f.name))(h3:¬(¬(f.kind=2∨QK f.kind)∧f.name≠ [])):w9L f=if ∃w∈f.words,¬w4J w then 10 else 0:=by unfold w9L;rw[if_neg h0,if_neg h1,if_neg h2,if_neg h3]
theorem x1l{s:Bs}{b:Bool}(h:b=x7j s):b=true↔w4J s:=by
 rw[h];unfold x7j;simp
theorem y2s{l:List Bs}(h:∀j,j<l.length→w4J (Am.get l j)):¬ ∃w∈l,¬w4J w:=fun⟨w,hw,hn⟩=>by
 obtain⟨j,hj,rfl⟩:=w6G.1 hw
 exact hn (h j hj)
theorem y7H:∀(m:Nat) (f:w3T),SizeOf.sizeOf f≤m→∀d b:Int,0≤d→d≤41→0≤b→b≤200→Evt (fun n=>w5B n f d b false) (y5Z (x8k f d b) b):=by
 intro m
 induction m with
 |zero=>intro f h;cases f;simp only[w3T.mk.sizeOf_spec]at h;omega
 |succ m ih=>
  intro f hf d b hd0 hd hb0 hb
  have hw1:wr .i64 (d+1)=d+1:=w5h (by omega) (by omega)
  have hw2:wr .i64 (b+1)=b+1:=w5h (by omega) (by omega)
  refine Evt.succ ?_
  simp only[w5B,hw2,z1A,Option.bind_some]
  rw[y7t]
  refine Evt.cond (fun e=>?_) (fun e=>?_)
  ·replace e:=bx e
   rw[if_pos (by omega)]
   exact Evt.pure (y5Z.bad (by decide) rfl)
  replace e:=bx e
  rw[if_neg (by omega)]
  have key:Evt (fun n=>w8W (w5B n) b f d false (arF f.kind)) (y5Z (if w9L f=0 then x3e f.subs (d+1) (b+1)else(w9L f,b)) b):=by
   unfold w8W
   refine Evt.cond (fun e=>?_) (fun e=>?_)
   ·replace e:=bx e
    rw[y7D e,if_neg (by decide)]
    exact Evt.pure (y5Z.bad (by decide) rfl)
   replace e:=bx e
   have e0:¬arF f.kind<0:=by omega
   have k1:∀c:Bool,(c=true↔x2P f.kind f.words.length)→Evt (fun n=>w7M (w5B n) f (arF f.kind) b d false c) (y5Z (if w9L f=0 then x3e f.subs (d+1) (b+1)else(w9L f,b)) b):=by
    intro c hc
    unfold w7M
    refine Evt.cond (fun e=>?_) (fun e=>?_)
    ·replace e:=bx e
     rw[y7E e0 (by
      rcases e with e|e
      ·exact .inl e
      ·exact .inr fun h=>by rw[hc.2 h]at e;cases e),if_neg (by decide)]
     exact Evt.pure (y5Z.bad (by decide) (by simp only[hw2]))
    replace e:=bx e
    have e1:¬((f.subs.length:Int)≠arF f.kind∨¬x2P f.kind f.words.length):=fun h=>h.elim (fun h=>h e.1) (fun h=>h (hc.1 e.2))
    have h10:f.kind≠10:=fun h=>by
     rw[h]at e0;exact e0 (by decide)
    simp only[x5U]
    refine Evt.bind (P:=fun v=>v=(!(decide (f.kind=2))&&decide (QK f.kind))) (Evt.gd (fun g=>Evt.pure (by replace g:=bx g;simp[g])) (fun g=>by replace g:=bx g;simp[g])) fun v5 hv5=>?_
    have hn:(bif bif decide (f.kind=2)then true else v5 then true else decide (f.kind=10))=decide (f.kind=2∨QK f.kind):=by
     subst hv5
     by_cases h2:f.kind=2<;>simp[h2,h10]
    rw[hn]
    refine Evt.bind (P:=fun v=>(f.kind=2∨QK f.kind)→(v=true↔w4J f.name)) (Evt.gd (fun g=>(x4V f.name).mono fun v hv _=>x1l hv) (fun g h=>absurd h (by simpa using g))) fun v6 hv6=>?_
    refine Evt.cond (fun e=>?_) (fun e=>?_)
    ·replace e:=bx e
     rw[y4P e0 e1 ⟨e.1,fun h=>by rw[(hv6 e.1).2 h]at e;cases e.2⟩,if_neg (by decide)]
     exact Evt.pure (y5Z.bad (by decide) (by simp only[hw2]))
    have e2:¬((f.kind=2∨QK f.kind)∧¬w4J f.name):=fun⟨h1,h2⟩=>by
     cases v6 with
     |true=>exact h2 ((hv6 h1).1 rfl)
     |false=>simp[h1]at e
    refine Evt.cond (fun e=>?_) (fun e=>?_)
    ·replace e:=bx e
     rw[y7F e0 e1 e2 ⟨by simpa using e.1,e.2⟩,if_neg (by decide)]
     exact Evt.pure (y5Z.bad (by decide) (by simp only[hw2]))
    have e3:¬(¬(f.kind=2∨QK f.kind)∧f.name≠ []):=fun⟨h1,h2⟩=>by simp[h1,h2]at e
    have y7I:=y7G e0 e1 e2 e3
    refine Evt.w4h (Evt.scan (fun k _=>∀j,j<k→w4J (Am.get f.words j)) (fun k r=>r.1=⟨10,b⟩∧∃w∈f.words,¬w4J w) (fun j hj=>absurd hj (Nat.not_lt_zero _)) (fun k u hk hi=>?_)) (fun t ht=>?_) (fun r hr=>?_)
    ·unfold x1s
     refine Evt.bind (x4V _) fun v hv=>Evt.cond (fun e=>?_) (fun e=>Evt.pure ?_)
     ·replace e:=bx e
      exact Evt.pure ⟨rfl,_,get_mem hk,fun h=>by rw[(x1l hv).2 h]at e;cases e⟩
     ·replace e:=bx e
      intro j hj
      by_cases ej:j=k
      ·subst ej;exact(x1l hv).1 e
      ·exact hi j (by omega)
    ·have hall:=y2s ht
     rw[y7I,if_neg hall,if_pos rfl]
     unfold x1t
     rw[hw2]
     have hsl:f.subs.length≤2:=by
      have:=z0v f.kind
      have:(f.subs.length:Int)=arF f.kind:=Classical.byContradiction fun h=>e1 (.inl h)
      omega
     refine Evt.w4h (Evt.range (fun k c=>x3e (f.subs.drop k) (d+1) c=x3e f.subs (d+1) (b+1)∧b+1≤c∧c≤200) (fun _=>False) (fun r=>y5Z (x3e f.subs (d+1) (b+1)) b r) ⟨rfl,by omega,by omega⟩ (fun k c hk hj=>?_)) (fun t ht=>Evt.pure ?_) (fun r hr=>hr)
     ·obtain⟨h1,h2,h3⟩:=hj
      unfold x1u
      have hsz:=w6s hk
      rw[hw1]
      rw[y1e hk,x3e]at h1
      refine Evt.bind (ih _ (by omega) _ _ (by omega) (by omega) (by omega) h3) fun v hv=>Evt.cond (fun e=>Evt.pure ?_) (fun e=>Evt.pure ?_)
      ·replace e:=bx e
       rw[hv.1]at e
       rw[if_neg e]at h1
       rw[←h1]
       exact⟨hv.1,fun h=>absurd h e,hv.2.2⟩
      ·replace e:=bx e
       rw[hv.1]at e
       rw[if_pos e]at h1
       obtain⟨hv1,hv2,hv3⟩:=hv.2.1 e
       rw[hv1]
       exact⟨h1,by show b+1≤(x8k _ _ _).2;omega,hv3⟩
     ·obtain⟨h1,h2,h3⟩:=ht.elim id False.elim
      rw[List.drop_length,x3e]at h1
      unfold x1v at*
      rw[←h1]
      exact⟨rfl,fun _=>⟨rfl,by show b≤t;omega,h3⟩,fun h=>absurd rfl h⟩
    ·obtain⟨k,_,_,_,h1,h2⟩:=hr
     rw[y7I,if_pos h2,if_neg (by decide)]
     exact y5Z.bad (by decide) h1
   refine Evt.cond (fun e=>k1 _ ?_) (fun e=>Evt.cond (fun e2=>k1 _ ?_) (fun e2=>k1 _ ?_))
   ·replace e:=bx e
    unfold x2P;simp[e];omega
   ·replace e:=bx e;replace e2:=bx e2
    unfold x2P;simp[e2];omega
   ·replace e:=bx e;replace e2:=bx e2
    unfold x2P;simp[e,e2]
  refine Evt.cond (fun e=>?_) (fun e=>key)
  simp at e
noncomputable def x4E(f:w3T):w4b:=if(x8k f 1 0).1=0 then⟨0,0⟩else⟨(x8k f 1 0).1,(x8k f 1 0).2⟩
theorem x4Z(f:w3T):(x4E f).code=0↔OkF f:=by
 rw[←y4M]
 unfold x4E
 split
 ·simp[*]
 ·simp[*]
theorem y2t{f:w3T}(h:OkF f):x4E f=⟨0,0⟩:=by unfold x4E;rw[if_pos ((y4M f).2 h)]
theorem x4d(f:w3T):Evt (fun n=>w7r n f) (fun r=>r=x4E f):=by
 unfold w7r x4e
 simp only[Option.bind_assoc,Option.bind_some]
 refine Evt.bind (y7H _ f (Nat.le_refl _) 1 0 (by omega) (by omega) (by omega) (by omega)) fun v hv=>Evt.pure ?_
 unfold x4E
 split
 ·rename_i h;rw[(hv.2.1 h).1]
 ·rename_i h;exact hv.2.2 h
theorem y7J(k:Int):Evt (fun _=>w7s k) (fun r=>r=arF k):=by
 unfold w7s
 refine Evt.cond (fun e=>Evt.pure ?_) (fun e=>?_)
 ·replace e:=bx e
  unfold arF
  rw[if_neg (by omega),if_neg (by omega),if_neg (by omega)]
 ·replace e:=bx e
  refine Evt.chk (by omega) (Evt.pure ?_)
  have:k=1∨k=2∨k=3∨k=4∨k=5∨k=6∨k=7∨k=8∨k=9:=by omega
  rcases this with rfl|rfl|rfl|rfl|rfl|rfl|rfl|rfl|rfl<;>rfl
abbrev FA:=w3Y
def fat(d:Int)(f:w3T):FA:=⟨f,d⟩
abbrev y1j:Nat→List FA×Int×Nat→Option (Ctl w4b (List FA×Int×Nat) Unit):=fun n=>w4W n false
theorem x9C(f:w3T):w9L f=0→f.subs.length≤2:=fun h=>by
 have h1:=(x1r h).1
 have:=z0v f.kind
 omega
section
variable {rest:List FA} {f:w3T} {d c:Int} {st:List FA×Int×Nat}
theorem z1B(x5y:Live st (rest++[⟨f,d⟩]) c)(hd0:0≤d)(hd:d≤41)(hc0:0≤c)(hc:c≤200)(hr:(rest.length:Int)≤2*c)(hs:f.subs.length≤2){Q:Ctl w4b (List FA×Int×Nat) Unit→Prop}
 (q:∀st',Live st' (rest++f.subs.reverse.map (fat (d+1))) (c+1)→Q (.nxt st')):Evt (fun n=>w4i n st 0) Q:=by
 have hsp:=x5y.sp
 have y9x:=x5y.top
 have z8h:=x5y.pop
 have z5d:=x5y.2.2
 have hw:wr .i64 ((st.2.2:Int)-1)=(rest.length:Int):=by rw[w5h (by omega) (by omega)];omega
 have hwd:wr .i64 (d+1)=d+1:=w5h (by omega) (by omega)
 have hwc:wr .i64 (st.2.1+1)=c+1:=by rw[z5d];exact w5h (by omega) (by omega)
 have hwl:wr .i64 ((f.subs.length:Int)-1)=(f.subs.length:Int)-1:=w5h (by omega) (by omega)
 unfold w4i
 refine Evt.cond (fun e=>by simp at e) (fun _=>?_)
 simp only[hw,Int.toNat_natCast,y9x,hwl]
 refine Evt.w4h (P:=ExP (fun t=>t.1.take t.2=rest++f.subs.reverse.map (fat (d+1))∧t.2=(rest++f.subs.reverse.map (fat (d+1))).length) (fun _=>False))
  (Evt.loop (fun s:List FA×Int×Nat=>(s.2.1+1).toNat) (fun s=> -1≤s.2.1∧s.2.1<f.subs.length∧s.1.take s.2.2=rest++(f.subs.drop (s.2.1+1).toNat).reverse.map (fat (d+1))∧s.2.2=(rest++(f.subs.drop (s.2.1+1).toNat).reverse.map (fat (d+1))).length) _ _ ?_ (fun s hi=>?_)) (fun t ht=>?_) (fun r hr=>hr.elim)
 ·refine⟨by show -1≤(f.subs.length:Int)-1;omega,by show(f.subs.length:Int)-1<_;omega,?_,?_⟩
  ·show st.1.take rest.length=rest++(f.subs.drop ((f.subs.length:Int)-1+1).toNat).reverse.map (fat (d+1))
   rw[z8h,show((f.subs.length:Int)-1+1).toNat=f.subs.length by omega,List.drop_length]
   simp
  ·show rest.length=(rest++(f.subs.drop ((f.subs.length:Int)-1+1).toNat).reverse.map (fat (d+1))).length
   rw[show((f.subs.length:Int)-1+1).toNat=f.subs.length by omega,List.drop_length]
   simp
 ·obtain⟨l,i,p⟩:=s
  obtain⟨h0,h1,h2,h3⟩:=hi
  simp only at h0 h1 h2 h3
  unfold w6n
  simp only[hw,Int.toNat_natCast,y9x,hwd]
  refine Evt.cond (fun e=>?_) (fun e=>?_)
  ·replace e:=bx e
   have hil:i.toNat<f.subs.length:=by omega
   have hp:p≤l.length:=by
    have:=congrArg List.length h2
    rw[List.length_take]at this
    omega
   refine Evt.chk ⟨e,h1⟩ (Evt.chk hp (Evt.w6m (Evt.chk ?_ (Evt.pure ?_))))
   ·rw[h2,w6d]
    simp only[List.length_append,List.length_map,List.length_reverse,List.length_drop,List.length_cons,List.length_nil]
    omega
   ·have hi1:wr .i64 (i-1)=i-1:=w5h (by omega) (by omega)
    rw[hi1,h2]
    have hd1:f.subs.drop (i-1+1).toNat=Am.get f.subs i.toNat::f.subs.drop (i+1).toNat:=by
     rw[show(i-1+1).toNat=i.toNat by omega,y1e hil,show(i+1).toNat=i.toNat+1 by omega]
    refine⟨⟨by show -1≤i-1;omega,by show i-1<_;omega,?_,?_⟩,by show(i-1+1).toNat<(i+1).toNat;omega⟩
    ·show List.take _ _=_
     rw[List.take_length,hd1,List.reverse_cons,List.map_append,List.append_assoc]
     rfl
    ·show List.length _=_
     rw[hd1,List.reverse_cons,List.map_append,List.append_assoc]
     rfl
  ·replace e:=bx e
   have hi:i= -1:=by omega
   subst hi
   refine Evt.pure ⟨?_,?_⟩
   ·simpa using h2
   ·simpa using h3
 ·obtain⟨h1,h2⟩:=ht
  unfold w6o
  rw[hwc]
  exact Evt.pure (q _ ⟨h1,h2,rfl⟩)
theorem y3K(x5y:Live st (rest++[⟨f,d⟩]) c)(hd0:0≤d)(hd:d≤41)(hc0:0≤c)(hc:c≤200)(hr:(rest.length:Int)≤2*c){Q:Ctl w4b (List FA×Int×Nat) Unit→Prop}
 (q1:200<c+1∨40<d→Q (.ret ⟨1,c⟩)) (q2:¬(200<c+1∨40<d)→w9L f≠0→Q (.ret ⟨w9L f,c⟩)) (q3:¬(200<c+1∨40<d)→w9L f=0→∀st',Live st' (rest++f.subs.reverse.map (fat (d+1))) (c+1)→Q (.nxt st')):
 Evt (fun n=>y1j n st) Q:=by
 have hsp:=x5y.sp
 have hle:=x5y.le
 have y9x:=x5y.top
 have z5d:=x5y.2.2
 have hw:wr .i64 ((st.2.2:Int)-1)=(rest.length:Int):=by rw[w5h (by omega) (by omega)];omega
 have z2z:∀x:Int,x≠0→Q (.ret ⟨x,c⟩)→Evt (fun n=>w4i n st x) Q:=fun x hx h=>by
  unfold w4i
  refine Evt.cond (fun e=>Evt.pure (by rw[z5d];exact h)) (fun e=>?_)
  simp[hx]at e
 unfold y1j w4W
 simp only[hw,Int.toNat_natCast,y9x]
 refine Evt.cond (fun _=>?_) (fun e=>by replace e:=bx e;omega)
 refine Evt.chk hle (Evt.chk (by omega) (Evt.chk (by omega) (Evt.bind (y7J _) fun v hv=>?_)))
 subst hv
 refine Evt.cond (fun e=>by simp at e) (fun _=>?_)
 have key:∀most least:Int,((f.words.length:Int)<least∨most<(f.words.length:Int)↔ ¬x2P f.kind f.words.length)→Evt (fun n=>w4X n st (arF f.kind) (most,least)) Q:=by
  intro most least hwd
  unfold w4X
  simp only[hw,Int.toNat_natCast,y9x,z5d]
  refine Evt.cond (fun e=>z2z 1 (by decide) (q1 (by replace e:=bx e;omega))) (fun e=>?_)
  replace e:=bx e
  have hn:¬(200<c+1∨40<d):=by omega
  refine Evt.cond (fun e=>?_) (fun e=>?_)
  ·replace e:=bx e
   have h:=y7D e
   exact z2z 4 (by decide) (by rw[←h];exact q2 hn (by rw[h];decide))
  have e0:¬arF f.kind<0:=by replace e:=bx e;omega
  refine Evt.cond (fun e=>?_) (fun e=>?_)
  ·replace e:=bx e
   have h:=y7E e0 (by
    rcases e with(e|e)|e
    ·exact .inl e
    ·exact .inr (hwd.1 (.inl e))
    ·exact .inr (hwd.1 (.inr e)))
   exact z2z 9 (by decide) (by rw[←h];exact q2 hn (by rw[h];decide))
  replace e:=bx e
  have e1:¬((f.subs.length:Int)≠arF f.kind∨¬x2P f.kind f.words.length):=fun h=>h.elim (fun h=>h e.1.1) (fun h=>by
   have:=hwd.2 h
   omega)
  have h10:f.kind≠10:=fun h=>by
   rw[h]at e0;exact e0 (by decide)
  have hnm:(bif bif bif decide (f.kind=2)then true else decide (f.kind=8)then true else decide (f.kind=9)then true else decide (f.kind=10))=decide (f.kind=2∨QK f.kind):=by
   unfold QK
   by_cases h2:f.kind=2
   ·simp[h2]
   ·by_cases h8:f.kind=8
    ·simp[h8]
    ·by_cases h9:f.kind=9
     ·simp[h9]
     ·simp[h2,h8,h9,h10]
  rw[hnm]
  refine Evt.bind (P:=fun v=>(f.kind=2∨QK f.kind)→(v=true↔w4J f.name)) (Evt.gd (fun g=>(x9B f.name).mono fun v hv _=>x1l hv) (fun g h=>absurd h (by simpa using g))) fun v6 hv6=>?_
  refine Evt.cond (fun e=>?_) (fun e=>?_)
  ·replace e:=bx e
   have h:=y4P e0 e1 ⟨e.1,fun h=>by rw[(hv6 e.1).2 h]at e;cases e.2⟩
   exact z2z 10 (by decide) (by rw[←h];exact q2 hn (by rw[h];decide))
  have e2:¬((f.kind=2∨QK f.kind)∧¬w4J f.name):=fun⟨h1,h2⟩=>by
   cases v6 with
   |true=>exact h2 ((hv6 h1).1 rfl)
   |false=>simp[h1]at e
  refine Evt.cond (fun e=>?_) (fun e=>?_)
  ·replace e:=bx e
   have h:=y7F e0 e1 e2 ⟨by simpa using e.1,e.2⟩
   exact z2z 5 (by decide) (by rw[←h];exact q2 hn (by rw[h];decide))
  have e3:¬(¬(f.kind=2∨QK f.kind)∧f.name≠ []):=fun⟨h1,h2⟩=>by simp[h1,h2]at e
  have y7I:=y7G e0 e1 e2 e3
  refine Evt.w4h (P:=ExP (fun t:Int=>t=w9L f) (fun _=>False)) ((Evt.range (fun k s=>(s=0∧∀j,j<k→w4J (Am.get f.words j))∨(s=10∧∃w∈f.words,¬w4J w)) (fun _=>False) (fun _=>False) (.inl ⟨rfl,fun j hj=>absurd hj (Nat.not_lt_zero _)⟩) (fun k s hk hi=>?_)).mono fun x hx=>?_) (fun t ht=>?_) (fun r hr=>hr.elim)
  ·unfold w6p
   simp only[hw,Int.toNat_natCast,y9x]
   refine Evt.bind (x9B _) fun v hv=>Evt.cond (fun e=>Evt.pure (.inr ⟨rfl,_,get_mem hk,fun h=>?_⟩)) (fun e=>Evt.pure ?_)
   ·replace e:=bx e
    rw[(x1l hv).2 h]at e;cases e
   ·replace e:=bx e
    rcases hi with⟨h1,h2⟩|h
    ·refine .inl ⟨h1,fun j hj=>?_⟩
     by_cases ej:j=k
     ·subst ej;exact(x1l hv).1 e
     ·exact h2 j (by omega)
    ·exact .inr h
  ·cases x with
   |ret r=>exact hx
   |nxt t=>
    rcases hx.elim id False.elim with⟨h1,h2⟩|⟨h1,h2⟩
    ·show t=w9L f
     rw[y7I,if_neg (y2s h2)];exact h1
    ·show t=w9L f
     rw[y7I,if_pos h2];exact h1
  ·have ht:t=w9L f:=ht
   subst ht
   unfold w6q
   by_cases h0:w9L f=0
   ·rw[h0]
    exact z1B x5y hd0 hd hc0 hc hr (x9C f h0) (q3 hn h0)
   ·exact z2z _ h0 (q2 hn h0)
 unfold w5x
 simp only[hw,Int.toNat_natCast,y9x]
 refine Evt.cond (fun e=>?_) (fun e=>?_)
 ·replace e:=bx e
  unfold w4Y
  simp only[hw,Int.toNat_natCast,y9x]
  refine Evt.cond (fun e2=>by replace e2:=bx e2;omega) (fun e2=>key _ _ ?_)
  have hw3:x2P f.kind f.words.length↔f.words.length≤3:=by unfold x2P;simp[e]
  rw[hw3];omega
 ·replace e:=bx e
  unfold w4Y
  simp only[hw,Int.toNat_natCast,y9x]
  refine Evt.cond (fun e2=>key _ _ ?_) (fun e2=>key _ _ ?_)
  ·replace e2:=bx e2
   have hw3:x2P f.kind f.words.length↔f.words.length=2:=by unfold x2P;simp[e2]
   rw[hw3];omega
  ·replace e2:=bx e2
   have hw3:x2P f.kind f.words.length↔f.words.length=0:=by unfold x2P;simp[e,e2]
   rw[hw3];omega
end
theorem z1C(f:w3T)(d b:Int)(h:(x8k f d b).1=0):b≤(x8k f d b).2∧(x8k f d b).2≤200:=by
 obtain⟨_,h2,h3,_⟩:=y3I f d b h
 omega
theorem y5J:∀(m:Nat) (f:w3T),SizeOf.sizeOf f≤m→∀(rest:List FA) (d c:Int) (st:List FA×Int×Nat),Live st (rest++[⟨f,d⟩]) c→0≤d→d≤41→(rest.length:Int)≤2*c→0≤c→c≤200→
 ((x8k f d c).1=0→∃st',Live st' rest (x8k f d c).2∧x1N y1j st st')∧((x8k f d c).1≠0→x6b y1j st (.ret ⟨(x8k f d c).1,(x8k f d c).2⟩)):=by
 intro m
 induction m with
 |zero=>intro f h;cases f;simp only[w3T.mk.sizeOf_spec]at h;omega
 |succ m ih=>
  intro f hf rest d c st x5y hd0 hd hr hc0 hc
  rw[y7t]
  by_cases h1:200<c+1∨40<d
  ·rw[if_pos h1]
   exact⟨fun h=>absurd (show(1:Int)=0 from h) (by decide),fun _=>x6b.ret (y3K x5y hd0 hd hc0 hc hr (fun _=>rfl) (fun h=>absurd h1 h) (fun h=>absurd h1 h))⟩
  rw[if_neg h1]
  by_cases h2:w9L f=0
  ·rw[if_pos h2]
   have parts:∀(l:List w3T),(∀x∈l,SizeOf.sizeOf x≤m)→∀(c:Int) (st:List FA×Int×Nat),Live st (rest++l.reverse.map (fat (d+1))) c→(rest.length:Int)+l.length≤2*c+1→0≤c→c≤200→
    ((x3e l (d+1) c).1=0→∃st',Live st' rest (x3e l (d+1) c).2∧x1N y1j st st')∧((x3e l (d+1) c).1≠0→x6b y1j st (.ret ⟨(x3e l (d+1) c).1,(x3e l (d+1) c).2⟩)):=by
    intro l
    induction l with
    |nil=>
     intro _ c st hl _ _ _
     rw[x3e]
     refine⟨fun _=>⟨st,by simpa using hl,x1N.refl⟩,fun h=>absurd rfl h⟩
    |cons x l ihl=>
     intro hx c st hl hr hc0 hc
     have hl2:Live st ((rest++l.reverse.map (fat (d+1)))++[⟨x,d+1⟩]) c:=by
      rw[List.reverse_cons,List.map_append, ←List.append_assoc]at hl
      exact hl
     simp only[List.length_cons]at hr
     have i0:=ih x (hx x (List.mem_cons_self ..)) _ (d+1) c st hl2 (by omega) (by omega) (by simp only[List.length_append,List.length_map,List.length_reverse];omega) hc0 hc
     rw[x3e]
     by_cases h0:(x8k x (d+1) c).1=0
     ·rw[if_pos h0]
      have hbd:=z1C x (d+1) c h0
      obtain⟨st',hl3,hst⟩:=i0.1 h0
      have i1:=ihl (fun y hy=>hx y (List.mem_cons_of_mem _ hy)) _ st' hl3 (by omega) (by omega) hbd.2
      refine⟨fun h=>?_,fun h=>hst.ends (i1.2 h)⟩
      obtain⟨y6a,hl4,z8i⟩:=i1.1 h
      exact⟨y6a,hl4,hst.trans z8i⟩
     ·rw[if_neg h0]
      exact⟨fun h=>absurd h h0,fun _=>i0.2 h0⟩
   have hsz:∀x∈f.subs,SizeOf.sizeOf x≤m:=fun x hx=>by
    obtain⟨j,hj,rfl⟩:=w6G.1 hx
    have:=w6s hj
    omega
   have hs2:=x9C f h2
   obtain⟨c1,⟨st',rfl,hl'⟩,hN⟩:=y3K (Q:=fun c'=>∃st',c'= .nxt st'∧Live st' (rest++f.subs.reverse.map (fat (d+1))) (c+1)) x5y hd0 hd hc0 hc hr (fun h=>absurd h h1) (fun _ h=>absurd h2 h) (fun _ _ st' h=>⟨st',rfl,h⟩)
   have hstep:x1N y1j st st':=x1N.one ⟨_,rfl,hN⟩
   have ip:=parts f.subs hsz (c+1) st' hl' (by omega) (by omega) (by omega)
   refine⟨fun h=>?_,fun h=>hstep.ends (ip.2 h)⟩
   obtain⟨y6a,h4,h5⟩:=ip.1 h
   exact⟨y6a,h4,hstep.trans h5⟩
  ·rw[if_neg h2]
   exact⟨fun h=>absurd h h2,fun _=>x6b.ret (y3K (Q:=fun c'=>c'= .ret ⟨w9L f,c⟩) x5y hd0 hd hc0 hc hr (fun h=>absurd h h1) (fun _ _=>rfl) (fun _ h=>absurd h h2))⟩
theorem x8l(f:w3T):Evt (fun n=>w5u n f) (fun r=>r=x4E f):=by
 unfold w5u
 refine Evt.bind (P:=fun r=>r=x4E f) ?_ fun v hv=>Evt.pure hv
 unfold w7x
 have h:=y5J _ f (Nat.le_refl _) [] 1 0 ([(w3Y.mk f 1)],0,1) ⟨rfl,rfl,rfl⟩ (by omega) (by omega) (by simp) (by omega) (by omega)
 unfold x4E
 by_cases h0:(x8k f 1 0).1=0
 ·rw[if_pos h0]
  obtain⟨st',hl,hst⟩:=h.1 h0
  have hend:x6b y1j st' (.nxt ()):=x6b.brk (by
   have:=hl.2.1
   unfold y1j w4W
   refine Evt.cond (fun e=>?_) (fun _=>Evt.pure rfl)
   replace e:=bx e
   have h2:st'.2.2=0:=this
   omega)
  exact Evt.w4h (hst.ends hend).evt (fun t ht=>Evt.pure rfl) (fun r hr=>by cases hr)
 ·rw[if_neg h0]
  exact Evt.w4h (h.2 h0).evt (fun t ht=>by cases ht) (fun r hr=>by cases hr;rfl)
theorem w4C{α:Type}[Inhabited α]{l:List α}{k:Nat}(h:k<l.length):l.take (k+1)=l.take k++[Am.get l k]:=by
 rw[List.take_add_one,List.getElem?_eq_getElem h]
 simp[Am.get,h]
theorem y2u{ρ:Type}(xs:List Bs)(body:List Bs×Int→Option (Ctl ρ (List Bs×Int) (List Bs)))
 (hb:∀s,body s=bif decide (s.2<(xs.length:Int))then chk (0≤s.2∧s.2<(xs.length:Int)) <| Am.w6m (s.1++[Am.get xs s.2.toNat]) fun c=>chk (c.length*16≤top∧c.length≤top) <| some (.nxt (c,wr .i64 (s.2+1)))else some (.brk s.1))
 (l0:List Bs) (h:l0.length+xs.length≤1000000):Evt (fun n=>w4K body n (l0,0)) (ExP (fun t=>t=l0++xs) (fun _:ρ=>False)):=by
 refine Evt.x1P xs.length (fun k s=>s=(l0++xs.take k,(k:Int))) _ _ (by simp) (fun k s hk hs=>?_) (fun s hs=>?_)
 ·subst hs
  rw[hb]
  refine Evt.cond (fun _=>Evt.chk (by omega) (Evt.w6m (Evt.chk ?_ (Evt.pure ?_)))) (fun e=>by replace e:=bx e;omega)
  ·rw[w6d]
   simp only[List.length_append,List.length_take,List.length_cons,List.length_nil]
   omega
  ·show(_,_)=(_,_)
   rw[w5h (by omega) (by omega),w4C hk,List.append_assoc]
   rfl
 ·subst hs
  rw[hb]
  refine Evt.cond (fun e=>by replace e:=bx e;omega) (fun _=>Evt.pure ?_)
  show l0++xs.take xs.length=_
  rw[List.take_length]
abbrev IT:=w3U
mutual
def w9x:w3T→List Bs→Nat→List IT
 | .mk k n w s,ar,b=>⟨k,n,w,w.map (fun x=>decide (x∈ar)),((b+(1+w6H s):Nat):Int)⟩::x0E s (if QK k then n::ar else ar) (b+1)
def x0E:List w3T→List Bs→Nat→List IT
 | [],_,_=>[]
 |x::l,ar,b=>w9x x ar b++x0E l ar (b+ndF x)
end
theorem y3L(f:w3T)(ar:List Bs)(b:Nat):w9x f ar b=⟨f.kind,f.name,f.words,f.words.map (fun x=>decide (x∈ar)),((b+ndF f:Nat):Int)⟩::x0E f.subs (if QK f.kind then f.name::ar else ar) (b+1):=by
 cases f;rw[w9x,ndF];rfl
mutual
theorem w9V:∀(f:w3T) (ar:List Bs) (b:Nat),(w9x f ar b).length=ndF f
 | .mk k n w s,ar,b=>by rw[w9x,ndF,List.length_cons,x4F s];omega
theorem x4F:∀(l:List w3T) (ar:List Bs) (b:Nat),(x0E l ar b).length=w6H l
 | [],_,_=>by rw[x0E,w6H];rfl
 |x::l,ar,b=>by rw[x0E,w6H,List.length_append,w9V x,x4F l]
end
theorem x1X:∀(l:List w3T) (x:w3T),w6H (l++[x])=w6H l+ndF x
 | [],x=>by simp[w6H]
 |a::l,x=>by rw[List.cons_append,w6H,w6H,x1X l x];omega
theorem y4Q:∀(l m:List w3T),w6H (l++m)=w6H l+w6H m
 | [],m=>by simp[w6H]
 |a::l,m=>by rw[List.cons_append,w6H,w6H,y4Q l m];omega
theorem x7Q:∀(l:List w3T) (x:w3T) (ar:List Bs) (b:Nat),x0E (l++[x]) ar b=x0E l ar b++w9x x ar (b+w6H l)
 | [],x,ar,b=>by simp[x0E,w6H]
 |a::l,x,ar,b=>by rw[List.cons_append,x0E,x0E,w6H,x7Q l x,List.append_assoc,Nat.add_assoc]
theorem x0F{l:List w3T}{k:Nat}(h:k<l.length):w6H (l.take k)+ndF (Am.get l k)≤w6H l:=by
 have e:l=(l.take k++[Am.get l k])++l.drop (k+1):=by
  rw[List.append_assoc,List.singleton_append, ←y1e h];exact(List.take_append_drop k l).symm
 have h2:w6H l=w6H (l.take k)+ndF (Am.get l k)+w6H (l.drop (k+1)):=by
  conv=>lhs;rw[e]
  rw[y4Q,x1X]
 omega
theorem x6r{f:w3T}(h:WfF f):f.words.length≤3:=by
 have h2:=(x1r ((x1W f).1 h).1).2.1
 unfold x2P at h2
 split at h2
 ·exact h2
 ·split at h2<;>omega
theorem x5j{f:w3T}(h:WfF f){k:Nat}(hk:k<f.subs.length):WfF (Am.get f.subs k):=w6t.1 ((x1W f).1 h).2 _ (get_mem hk)
theorem x5a{f:w3T}(h:WfF f):f.subs.length≤2:=x9C f ((x1W f).1 h).1
theorem y4R(ar:List Bs)(x:Bs)(body:Bool×Int→Option (Ctl (Ctl (List IT) (List Bool×Int) (List Bool)) (Bool×Int) Bool))(p q:Bool×Int→Prop)[∀s,Decidable (p s)][∀s,Decidable (q s)]
 (hb:∀s,body s=bif decide (s.2<(ar.length:Int))then chk (p s) <| chk (q s) <| some (.nxt (bif s.1 then true else decide (Am.get ar s.2.toNat=x),wr .i64 (s.2+1)))else some (.brk s.1))
 (hp:∀s,0≤s.2→s.2<(ar.length:Int)→p s) (hq:∀s,q s) (h:ar.length≤1000000):Evt (fun n=>w4K body n (false,0)) (ExP (fun t=>t=decide (x∈ar)) (fun _=>False)):=by
 refine Evt.x1P ar.length (fun k s=>s=(decide (x∈ar.take k),(k:Int))) _ _ (by simp) (fun k s hk hs=>?_) (fun s hs=>?_)
 ·subst hs
  rw[hb]
  refine Evt.cond (fun _=>Evt.chk (hp _ (by simp) (by simpa using hk)) (Evt.chk (hq _) (Evt.pure ?_))) (fun e=>by replace e:=bx e;omega)
  show(_,_)=(_,_)
  rw[w5h (by omega) (by omega),w4C hk,Int.toNat_natCast]
  congr 1
  by_cases h1:x∈ar.take k
  ·simp[h1]
  ·by_cases h2:Am.get ar k=x
   ·simp[h2]
   ·simp only[h1,h2,List.mem_append,List.mem_singleton,false_or,decide_false,cond_false]
    exact(decide_eq_false fun e=>h2 e.symm).symm
 ·subst hs
  rw[hb]
  refine Evt.cond (fun e=>by replace e:=bx e;omega) (fun _=>Evt.pure ?_)
  show decide (x∈ar.take ar.length)=_
  rw[List.take_length]
theorem y4S(f:w3T)(ar:List Bs)(hw:f.words.length≤3)(ha:ar.length≤1000000)(body:Nat→List Bool×Int→Option (Ctl (List IT) (List Bool×Int) (List Bool)))(b2:List Bool×Int→Bool×Int→Option (Ctl (Ctl (List IT) (List Bool×Int) (List Bool)) (Bool×Int) Bool))
 (hb:∀n s,body n s=bif decide (s.2<(f.words.length:Int))then w4h (w4K (b2 s) n (false,0)) (fun t=>Am.w6m (s.1++[t]) fun c=>chk (c.length*1≤top∧c.length≤top) <| some (.nxt (c,wr .i64 (s.2+1))))else some (.brk s.1))
 (h2:∀(s:List Bool×Int),0≤s.2→s.2<(f.words.length:Int)→Evt (fun n=>w4K (b2 s) n (false,0)) (ExP (fun t=>t=decide (Am.get f.words s.2.toNat∈ar)) (fun _=>False))):
 Evt (fun n=>w4K (body n) n ([],0)) (ExP (fun t=>t=f.words.map fun x=>decide (x∈ar)) (fun _=>False)):=by
 refine Evt.x1P f.words.length (fun k s=>s=((f.words.take k).map (fun x=>decide (x∈ar)),(k:Int))) _ _ (by simp) (fun k s hk hs=>?_) (fun s hs=>?_)
 ·subst hs
  simp only[hb]
  refine Evt.cond (fun _=>Evt.w4h (h2 _ (by simp) (by simpa using hk)) (fun t ht=>Evt.w6m (Evt.chk ?_ (Evt.pure ?_))) (fun _ h=>h.elim)) (fun e=>by replace e:=bx e;omega)
  ·rw[w6d]
   simp only[List.length_append,List.length_map,List.length_take,List.length_cons,List.length_nil]
   omega
  ·have ht:t=decide (Am.get f.words k∈ar):=ht
   show(_,_)=(_,_)
   rw[w5h (by omega) (by omega),w4C hk,List.map_append,ht]
   rfl
 ·subst hs
  simp only[hb]
  refine Evt.cond (fun e=>by replace e:=bx e;omega) (fun _=>Evt.pure ?_)
  show(f.words.take f.words.length).map _=_
  rw[List.take_length]
theorem y7K{α:Type}[Inhabited α](l:List α)(x y:α)(m:List α):((l++[x])++m).set l.length y=l++y::m∧Am.get ((l++[x])++m) l.length=x:=by
 rw[List.append_assoc]
 refine⟨?_,?_⟩
 ·rw[List.set_append_right _ _ (Nat.le_refl _),Nat.sub_self]
  rfl
 ·unfold Am.get
  rw[List.getD_eq_getElem?_getD,List.getElem?_append_right (Nat.le_refl _)]
  simp
theorem y2v:∀(m:Nat) (f:w3T),SizeOf.sizeOf f≤m→WfF f→∀(ar:List Bs) (l:List IT),l.length+ndF f≤100000→ar.length+ndF f≤100000→
 Evt (fun n=>w4p n f ar l) (fun r=>r=l++w9x f ar l.length):=by
 intro m
 induction m with
 |zero=>intro f h;cases f;simp only[w3T.mk.sizeOf_spec]at h;omega
 |succ m ih=>
  intro f hf hwf ar l hl ha
  have hnd:=x3y f
  have hws:=x6r hwf
  refine Evt.succ ?_
  simp only[w4p]
  refine Evt.w4h (P:=ExP (fun t=>t=f.words.map fun x=>decide (x∈ar)) (fun _=>False)) ?_ (fun t ht=>?_) (fun _ h=>h.elim)
  ·refine y4S f ar hws (by omega) (fun n=>w6Y n f ar) (fun s=>w6Z ar s f) (fun n s=>rfl) (fun s hs0 hs1=>?_)
   refine y4R ar (Am.get f.words s.2.toNat) _ (fun s2=>x2c (!s2.1) (0≤s2.2)∧x2c (!s2.1) (s2.2<(ar.length:Int))) (fun s2=>x2c (!s2.1) (0≤s.2)∧x2c (!s2.1) (s.2<(f.words.length:Int))) (fun s2=>rfl) (fun s2 h1 h2=>⟨fun _=>h1,fun _=>h2⟩) (fun _=>⟨fun _=>hs0,fun _=>hs1⟩) (by omega)
  ·have ht:t=_:=ht
   subst ht
   unfold w7a
   refine Evt.w6m (Evt.chk ?_ ?_)
   ·rw[w6d]
    simp only[List.length_append,List.length_cons,List.length_nil]
    omega
   have key:∀ar':List Bs,ar'=(if QK f.kind then f.name::ar else ar)→Evt (fun n=>w5o (w4p n) n f (l++[⟨f.kind,f.name,f.words,f.words.map fun x=>decide (x∈ar),0⟩]) l ar') (fun r=>r=l++w9x f ar l.length):=by
    intro ar' har
    have hal:ar'.length≤ar.length+1:=by rw[har];split<;>simp
    unfold w5o
    have hsl2:=x5a hwf
    refine Evt.w4h (Evt.x1P f.subs.length (fun k s=>s=((l++[⟨f.kind,f.name,f.words,f.words.map fun x=>decide (x∈ar),0⟩])++x0E (f.subs.take k) ar' (l.length+1),(k:Int))) (fun t=>t=(l++[⟨f.kind,f.name,f.words,f.words.map fun x=>decide (x∈ar),0⟩])++x0E f.subs ar' (l.length+1)) (fun _=>False) (by simp[x0E]) (fun k s hk hs=>?_) (fun s hs=>?_)) (fun t ht=>?_) (fun _ h=>h.elim)
    ·subst hs
     unfold w5Q
     have hsz:=w6s hk
     have ht:=x0F hk
     have hrl:=x4F (f.subs.take k) ar' (l.length+1)
     refine Evt.cond (fun _=>Evt.chk (by simp;omega) (Evt.bind (ih _ (by simp only[Int.toNat_natCast];omega) (x5j hwf (by simpa using hk)) ar' _ ?_ ?_) fun v hv=>Evt.pure ?_)) (fun e=>by replace e:=bx e;omega)
     ·simp only[List.length_append,List.length_cons,List.length_nil,hrl,Int.toNat_natCast];omega
     ·simp only[Int.toNat_natCast];omega
     ·subst hv
      show(_,_)=(_,_)
      rw[w5h (by omega) (by omega),w4C hk,x7Q,Int.toNat_natCast,List.append_assoc]
      simp only[List.length_append,List.length_cons,List.length_nil,hrl]
      rfl
    ·subst hs
     unfold w5Q
     refine Evt.cond (fun e=>by replace e:=bx e;omega) (fun _=>Evt.pure ?_)
     show _++x0E (f.subs.take f.subs.length) ar' _=_
     rw[List.take_length]
    ·have ht:t=_:=ht
     subst ht
     unfold w7b
     refine Evt.chk (by simp only[List.length_append,List.length_cons,List.length_nil];omega) (Evt.w6m (Evt.pure ?_))
     obtain⟨h1,h2⟩:=y7K l (⟨f.kind,f.name,f.words,f.words.map fun x=>decide (x∈ar),0⟩:IT) ⟨f.kind,f.name,f.words,f.words.map fun x=>decide (x∈ar),((l.length+ndF f:Nat):Int)⟩ (x0E f.subs ar' (l.length+1))
     rw[h2,y3L, ←har, ←h1]
     congr 2
     simp only[List.length_append,List.length_cons,List.length_nil,x4F]
     omega
   refine Evt.cond (fun e=>?_) (fun e=>key ar ?_)
   ·have hq:QK f.kind:=by
     unfold QK
     by_cases h8:f.kind=8
     ·exact .inl h8
     ·simpa[h8]using e
    refine Evt.w4h (y2u ar (w7c ar) (fun s=>rfl) [f.name] (by simp;omega)) (fun t ht=>?_) (fun _ h=>h.elim)
    have ht:t=_:=ht
    subst ht
    exact key _ (by rw[if_pos hq];rfl)
   ·rw[if_neg]
    unfold QK
    by_cases h8:f.kind=8
    ·simp[h8]at e
    ·simpa[h8]using e
theorem x8F{f:w3T}(hwf:WfF f)(ar:List Bs)(hl:ndF f≤50000)(ha:ar.length≤50000):Evt (fun n=>w5r n f ar) (fun r=>r=w9x f ar 0):=by
 have h:=(y2v _ f (Nat.le_refl _) hwf ar [] (by simp;omega) (by omega)).mono (P':=fun r=>r=w9x f ar 0) fun r hr=>by simpa using hr
 have hnd:=x3y f
 have hws:=x6r hwf
 unfold w5r
 refine Evt.w4h (P:=ExP (fun t=>t=f.words.map fun x=>decide (x∈ar)) (fun _=>False)) ?_ (fun t ht=>?_) (fun _ h=>h.elim)
 ·refine y4S f ar hws (by omega) (fun n=>w8b n f ar) (fun s=>w8c ar s f) (fun n s=>rfl) (fun s hs0 hs1=>?_)
  refine y4R ar (Am.get f.words s.2.toNat) _ (fun s2=>x2c (!s2.1) (0≤s2.2)∧x2c (!s2.1) (s2.2<(ar.length:Int))) (fun s2=>x2c (!s2.1) (0≤s.2)∧x2c (!s2.1) (s.2<(f.words.length:Int))) (fun s2=>rfl) (fun s2 h1 h2=>⟨fun _=>h1,fun _=>h2⟩) (fun _=>⟨fun _=>hs0,fun _=>hs1⟩) (by omega)
 ·have ht:t=_:=ht
  subst ht
  unfold w8d
  refine Evt.w6m (Evt.chk (by simp[w6d]) ?_)
  have key:∀ar':List Bs,ar'=(if QK f.kind then f.name::ar else ar)→Evt (fun n=>w5C n f [⟨f.kind,f.name,f.words,f.words.map fun x=>decide (x∈ar),0⟩] ar') (fun r=>r=w9x f ar 0):=by
   intro ar' har
   have hal:ar'.length≤ar.length+1:=by rw[har];split<;>simp
   unfold w5C
   have hsl2:=x5a hwf
   refine Evt.w4h (Evt.x1P f.subs.length (fun k s=>s=([⟨f.kind,f.name,f.words,f.words.map fun x=>decide (x∈ar),0⟩]++x0E (f.subs.take k) ar' 1,(k:Int))) (fun t=>t=[⟨f.kind,f.name,f.words,f.words.map fun x=>decide (x∈ar),0⟩]++x0E f.subs ar' 1) (fun _=>False) (by simp[x0E]) (fun k s hk hs=>?_) (fun s hs=>?_)) (fun t ht=>?_) (fun _ h=>h.elim)
   ·subst hs
    unfold w6u
    have ht:=x0F hk
    have hrl:=x4F (f.subs.take k) ar' 1
    refine Evt.cond (fun _=>Evt.chk (by simp;omega) (Evt.bind (y2v _ _ (Nat.le_refl _) (x5j hwf (by simpa using hk)) ar' _ ?_ ?_) fun v hv=>Evt.pure ?_)) (fun e=>by replace e:=bx e;omega)
    ·simp only[List.length_append,List.length_cons,List.length_nil,hrl,Int.toNat_natCast];omega
    ·simp only[Int.toNat_natCast];omega
    ·subst hv
     show(_,_)=(_,_)
     rw[w5h (by omega) (by omega),w4C hk,x7Q,Int.toNat_natCast,List.append_assoc]
     simp only[List.length_append,List.length_cons,List.length_nil,hrl]
     rfl
   ·subst hs
    unfold w6u
    refine Evt.cond (fun e=>by replace e:=bx e;omega) (fun _=>Evt.pure ?_)
    show _++x0E (f.subs.take f.subs.length) ar' _=_
    rw[List.take_length]
   ·have ht:t=_:=ht
    subst ht
    unfold w8e
    refine Evt.chk (by simp only[List.length_append,List.length_cons,List.length_nil];omega) (Evt.w6m (Evt.pure ?_))
    obtain⟨h1,h2⟩:=y7K [] (⟨f.kind,f.name,f.words,f.words.map fun x=>decide (x∈ar),0⟩:IT) ⟨f.kind,f.name,f.words,f.words.map fun x=>decide (x∈ar),((0+ndF f:Nat):Int)⟩ (x0E f.subs ar' 1)
    simp only[List.nil_append,List.length_nil]at h1 h2
    rw[h2,y3L, ←har, ←h1]
    congr 2
    simp only[List.length_append,List.length_cons,List.length_nil,x4F]
    omega
  refine Evt.cond (fun e=>?_) (fun e=>key ar ?_)
  ·have hq:QK f.kind:=by
    unfold QK
    by_cases h8:f.kind=8
    ·exact .inl h8
    ·simpa[h8]using e
   refine Evt.w4h (y2u ar (w8f ar) (fun s=>rfl) [f.name] (by simp;omega)) (fun t ht=>?_) (fun _ h=>h.elim)
   have ht:t=_:=ht
   subst ht
   exact key _ (by rw[if_pos hq];rfl)
  ·rw[if_neg]
   unfold QK
   by_cases h8:f.kind=8
   ·simp[h8]at e
   ·simpa[h8]using e
end Go.Proofs.YtdjnbjnlnjhllaaGreatDoor
