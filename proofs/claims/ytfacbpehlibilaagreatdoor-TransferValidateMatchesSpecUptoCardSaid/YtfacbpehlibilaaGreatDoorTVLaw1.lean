import Derived.Test.YtfacbpehlibilaaGreatDoorTVLaw0
set_option linter.unusedVariables false
set_option linter.unusedSimpArgs false
namespace Go.Am
open Go
section
variable {σ ρ τ:Type} {body:Nat→σ→Option (Ctl ρ σ τ)} {s s' s'':σ} {e:Ex ρ τ}
def u4f(body:Nat→σ→Option (Ctl ρ σ τ))(s s':σ):Prop:=∃k N,∀n,N≤n→∀f,r6G (body n) (f+k) s=r6G (body n) f s'
def u7S(body:Nat→σ→Option (Ctl ρ σ τ))(s:σ)(e:Ex ρ τ):Prop:=∃k N,∀n,N≤n→∀f,r6G (body n) (f+k) s=some e
theorem u4f.refl:u4f body s s:=⟨0,0,fun _ _ _=>rfl⟩
theorem u4f.trans(h:u4f body s s')(k:u4f body s' s''):u4f body s s'':=by
 obtain⟨a,N,h⟩:=h
 obtain⟨b,M,k⟩:=k
 exact⟨b+a,max N M,fun n hn f=>by rw[←Nat.add_assoc,h n (by omega),k n (by omega)]⟩
theorem u4f.ends(h:u4f body s s')(k:u7S body s' e):u7S body s e:=by
 obtain⟨a,N,h⟩:=h
 obtain⟨b,M,k⟩:=k
 exact⟨b+a,max N M,fun n hn f=>by rw[←Nat.add_assoc,h n (by omega),k n (by omega)]⟩
theorem u4f.one(h:Evt (fun n=>body n s) (fun c=>c= .nxt s')):u4f body s s':=by
 obtain⟨c,rfl,N,h⟩:=h
 exact⟨1,N,fun n hn f=>by show r6G (body n) (f+1) s=_;simp only[r6G,h n hn]⟩
theorem u7S.brk{t:τ}(h:Evt (fun n=>body n s) (fun c=>c= .brk t)):u7S body s (.nxt t):=by
 obtain⟨c,rfl,N,h⟩:=h
 exact⟨1,N,fun n hn f=>by show r6G (body n) (f+1) s=_;simp only[r6G,h n hn]⟩
theorem u7S.ret{r:ρ}(h:Evt (fun n=>body n s) (fun c=>c= .ret r)):u7S body s (.ret r):=by
 obtain⟨c,rfl,N,h⟩:=h
 exact⟨1,N,fun n hn f=>by show r6G (body n) (f+1) s=_;simp only[r6G,h n hn]⟩
theorem u7S.evt(h:u7S body s e):Evt (fun n=>r6G (body n) n s) (fun x=>x=e):=by
 obtain⟨k,N,h⟩:=h
 exact⟨e,rfl,max N k,fun n hn=>by
  have:=h n (by omega) (n-k)
  rwa[show n-k+k=n by omega]at this⟩
end
end Go.Am
namespace Go.Proofs.YtfacbpehlibilaaGreatDoor
open Go Go.Am
theorem get_mem{α:Type}[Inhabited α]{l:List α}{k:Nat}(h:k<l.length):Am.get l k∈l:=by
 unfold Am.get
 rw[List.getD_eq_getElem?_getD,List.getElem?_eq_getElem h]
 exact List.getElem_mem h
theorem w3f{α:Type}[Inhabited α]{l:List α}{k:Nat}(h:k<l.length):l.drop k=Am.get l k::l.drop (k+1):=by
 rw[List.drop_eq_getElem_cons h]
 unfold Am.get
 rw[List.getD_eq_getElem?_getD,List.getElem?_eq_getElem h];rfl
def Live{α:Type}(st:List α×Int×Nat)(l:List α)(c:Int):Prop:=st.1.take st.2.2=l∧st.2.2=l.length∧st.2.1=c
section
variable {α:Type} {st:List α×Int×Nat} {rest:List α} {x:α} {c:Int}
theorem Live.le{l:List α}(h:Live st l c):st.2.2≤st.1.length:=by
 have h1:=congrArg List.length h.1
 rw[List.length_take]at h1
 have h2:=h.2.1
 omega
theorem Live.sp(h:Live st (rest++[x]) c):st.2.2=rest.length+1:=by rw[h.2.1];simp
theorem Live.top[Inhabited α](h:Live st (rest++[x]) c):Am.get st.1 rest.length=x:=by
 have h1:Am.get (st.1.take st.2.2) rest.length=Am.get st.1 rest.length:=x2L (by rw[h.sp];omega)
 rw[←h1,h.1]
 exact w5Y
theorem Live.pop(h:Live st (rest++[x]) c):st.1.take rest.length=rest:=by
 have h1:=congrArg (List.take rest.length) h.1
 rw[List.take_take,List.take_left,h.sp,Nat.min_eq_left (by omega)]at h1
 exact h1
end
theorem w0M(s:Bs):Evt (fun n=>r7Q n s) (fun b=>b=u9q s):=by
 unfold r7Q
 refine Evt.cond (fun h=>Evt.pure (u1N fun hn=>?_).symm) (fun h=>?_)
 ·obtain⟨h1,h2,h3,_⟩:=hn
  replace h:=bx h
  omega
 replace h:=bx h
 refine Evt.r5r (P:=ExP (fun _=>u9q s=true) (fun b=>b=false∧u9q s=false)) (Evt.loop (fun i:Int=>(s.length-i).toNat) (fun i=>0≤i∧i≤s.length∧∀j:Nat,(j:Int)<i→OkC (r6p s (j:Int))∧(j=0→97≤r6p s 0∧r6p s 0≤122)) _ _ ⟨Int.le_refl _,by omega,fun j hj=>by omega⟩ (fun i hi=>?_)) (fun t ht=>Evt.pure ht.symm) (fun r hr=>by rw[hr.1,hr.2])
 obtain⟨h0,h1,h2⟩:=hi
 unfold r9c
 refine Evt.cond (fun e=>?_) (fun e=>Evt.pure ?_)
 ·replace e:=bx e
  have hw:wr .i64 (i+1)=i+1∨True:=.inr trivial
  refine Evt.chk ⟨h0,e⟩ (Evt.cond (fun e2=>Evt.pure ⟨rfl,u1N fun hn=>?_⟩) (fun e2=>Evt.pure ?_))
  ·replace e2:=bx e2
   have h3:=hn.2.2.2 i.toNat (by omega)
   rw[show((i.toNat:Nat):Int)=i by omega]at h3
   unfold OkC at h3
   have h4:=hn.2.2.1
   by_cases hi0:i=0
   ·subst hi0;omega
   ·omega
  ·replace e2:=bx e2
   have hl:s.length≤30:=by omega
   rw[u0Y (by omega) (by omega)]
   refine⟨⟨by omega,by omega,fun j hj=>?_⟩,by omega⟩
   by_cases ej:(j:Int)=i
   ·rw[ej]
    unfold OkC
    by_cases hi0:i=0
    ·subst hi0
     by_cases hc:97≤r6p s 0∧r6p s 0≤122
     ·exact⟨.inl hc,fun _=>hc⟩
     ·exact absurd rfl (e2 (by omega)).1
    ·exact⟨by omega,fun h=>by omega⟩
   ·exact h2 j (by omega)
 ·replace e:=bx e
  exact u8B ⟨by omega,by omega,(h2 0 (by omega)).2 rfl,fun k hk=>(h2 k (by omega)).1⟩
end Go.Proofs.YtfacbpehlibilaaGreatDoor
namespace Go.Am
open Go
theorem Evt.u6u{σ ρ τ:Type}{body:Nat→σ→Option (Ctl ρ σ τ)}{s0:σ}(N:Nat)(I:Nat→σ→Prop)(B:τ→Prop)(R:ρ→Prop)(h0:I 0 s0)
 (hs:∀k s,k<N→I k s→Evt (fun n=>body n s) (w4u (I (k+1)) B R)) (he:∀s,I N s→Evt (fun n=>body n s) (w4u (fun _=>False) B R)):
 Evt (fun n=>r6G (body n) n s0) (ExP B R):=by
 have key:∀j k s,k+j=N→I k s→∃e,ExP B R e∧∃M,∀n,M≤n→∀f,j<f→r6G (body n) f s=some e:=by
  intro j
  induction j with
  |zero=>
   intro k s hk hi
   obtain rfl:k=N:=by omega
   obtain⟨c,hc,M,hM⟩:=he s hi
   cases c with
   |nxt s'=>exact hc.elim
   |brk t=>refine⟨.nxt t,hc,M,fun n hn f hf=>?_⟩;obtain⟨g,rfl⟩:∃g,f=g+1:=⟨f-1,by omega⟩;simp only[r6G,hM n hn]
   |ret x=>refine⟨.ret x,hc,M,fun n hn f hf=>?_⟩;obtain⟨g,rfl⟩:∃g,f=g+1:=⟨f-1,by omega⟩;simp only[r6G,hM n hn]
  |succ j ih=>
   intro k s hk hi
   obtain⟨c,hc,M,hM⟩:=hs k s (by omega) hi
   cases c with
   |nxt s'=>
    obtain⟨e,he,L,hL⟩:=ih (k+1) s' (by omega) hc
    refine⟨e,he,max M L,fun n hn f hf=>?_⟩
    obtain⟨g,rfl⟩:∃g,f=g+1:=⟨f-1,by omega⟩
    simp only[r6G,hM n (by omega)]
    exact hL n (by omega) g (by omega)
   |brk t=>refine⟨.nxt t,hc,M,fun n hn f hf=>?_⟩;obtain⟨g,rfl⟩:∃g,f=g+1:=⟨f-1,by omega⟩;simp only[r6G,hM n hn]
   |ret x=>refine⟨.ret x,hc,M,fun n hn f hf=>?_⟩;obtain⟨g,rfl⟩:∃g,f=g+1:=⟨f-1,by omega⟩;simp only[r6G,hM n hn]
 obtain⟨e,he,M,hM⟩:=key N 0 s0 (by omega) h0
 exact⟨e,he,max M (N+1),fun n hn=>hM n (by omega) n (by omega)⟩
end Go.Am
namespace Go.Proofs.YtfacbpehlibilaaGreatDoor
open Go Go.Am
def QK(k:Int):Prop:=k=8∨k=9
instance(k:Int):Decidable (QK k):=inferInstanceAs (Decidable (_∨_))
mutual
def ndF:p6w→Nat
 | .mk _ _ _ s=>1+r9s s
def r9s:List p6w→Nat
 | []=>0
 |x::l=>ndF x+r9s l
end
mutual
def dpF:p6w→Nat
 | .mk _ _ _ s=>1+w0N s
def w0N:List p6w→Nat
 | []=>0
 |x::l=>max (dpF x) (w0N l)
end
mutual
def nq:p6w→Nat
 | .mk k _ _ s=>(if QK k then 1 else 0)+nqL s
def nqL:List p6w→Nat
 | []=>0
 |x::l=>nq x+nqL l
end
mutual
def qs:p6w→List Bs
 | .mk k n _ s=>(if QK k then [n]else [])++qsL s
def qsL:List p6w→List Bs
 | []=>[]
 |x::l=>qs x++qsL l
end
theorem w0O(f:p6w):ndF f=1+r9s f.subs:=by cases f;rw[ndF];rfl
theorem x2M(f:p6w):qs f=(if QK f.kind then [f.name]else [])++qsL f.subs:=by cases f;rw[qs];rfl
mutual
theorem w4E:∀f:p6w,(qs f).length=nq f
 | .mk k n w s=>by rw[qs,nq,List.length_append,w5Z];split<;>rfl
theorem w5Z:∀l:List p6w,(qsL l).length=nqL l
 | []=>by rw[qsL,nqL];rfl
 |x::l=>by rw[qsL,nqL,List.length_append,w4E,w5Z]
end
mutual
theorem x0w:∀f:p6w,nq f≤ndF f
 | .mk k n w s=>by
   rw[nq,ndF]
   have:=x0x s
   split<;>omega
theorem x0x:∀l:List p6w,nqL l≤r9s l
 | []=>by rw[nqL];omega
 |x::l=>by
  rw[nqL,r9s]
  have h1:=x0w x
  have h2:=x0x l
  omega
end
theorem u0r{f:p6w}{k:Nat}(h:k<f.subs.length):SizeOf.sizeOf (Am.get f.subs k)<SizeOf.sizeOf f:=by
 cases f with
 |mk a b c s=>
  have h2:Am.get s k∈s:=by
   unfold Am.get
   have h3:k<s.length:=h
   rw[List.getD_eq_getElem?_getD,List.getElem?_eq_getElem h3]
   exact List.getElem_mem h3
  have:=List.sizeOf_lt_of_mem h2
  show SizeOf.sizeOf (Am.get s k)<_
  simp only[p6w.mk.sizeOf_spec]
  omega
def arF(k:Int):Int:=if k=1∨k=2∨k=3 then 0 else if k=4∨k=8∨k=9 then 1 else if k=5∨k=6∨k=7 then 2 else -1
def u3z(k:Int)(n:Nat):Prop:=if k=2 then n≤3 else if k=3 then n=2 else n=0
instance(k:Int)(n:Nat):Decidable (u3z k n):=by unfold u3z;infer_instance
open Classical in
noncomputable def r9Z(f:p6w):Int:=
 if arF f.kind<0 then 4
 else if(f.subs.length:Int)≠arF f.kind∨¬u3z f.kind f.words.length then 9
 else if(f.kind=2∨QK f.kind)∧¬r5Q f.name then 10
 else if ¬(f.kind=2∨QK f.kind)∧f.name≠ []then 5
 else if ∃w∈f.words,¬r5Q w then 10
 else 0
mutual
noncomputable def u9b:p6w→Int→Int→Int×Int
 | .mk k n w s,d,b=>if 200<b+1∨40<d then(1,b)else if r9Z (.mk k n w s)=0 then u3O s (d+1) (b+1)else(r9Z (.mk k n w s),b)
noncomputable def u3O:List p6w→Int→Int→Int×Int
 | [],_,b=>(0,b)
 |x::l,d,b=>if(u9b x d b).1=0 then u3O l d (u9b x d b).2 else u9b x d b
end
theorem x0y(f:p6w)(d b:Int):u9b f d b=if 200<b+1∨40<d then(1,b)else if r9Z f=0 then u3O f.subs (d+1) (b+1)else(r9Z f,b):=by
 cases f;rw[u9b];rfl
mutual
def WfF:p6w→Prop
 | .mk k n w s=>r9Z (.mk k n w s)=0∧u6L s
def u6L:List p6w→Prop
 | []=>True
 |x::l=>WfF x∧u6L l
end
theorem u1l(f:p6w):WfF f↔r9Z f=0∧u6L f.subs:=by cases f;rw[WfF];rfl
theorem r7s:∀ {l:List p6w},u6L l↔ ∀x∈l,WfF x
 | []=>by simp[u6L]
 |x::l=>by rw[u6L,r7s];simp
mutual
theorem w6a:∀(f:p6w) (d b:Int),(u9b f d b).1=0→WfF f∧(u9b f d b).2=b+ndF f∧b+ndF f≤200∧d-1+dpF f≤40
 | .mk k n w s,d,b,h=>by
   rw[u9b]at h⊢
   split at h
   ·cases h
   ·rename_i h1
    rw[if_neg h1]
    split at h
    ·rename_i h2
     rw[if_pos h2]
     obtain⟨w1,w2,w3,w4⟩:=w7d s (d+1) (b+1) h (by omega) (by omega)
     rw[WfF,ndF,dpF]
     refine⟨⟨h2,w1⟩,?_,?_,?_⟩<;>omega
    ·exact absurd h (by assumption)
theorem w7d:∀(l:List p6w) (d b:Int),(u3O l d b).1=0→b≤200→d-1≤40→u6L l∧(u3O l d b).2=b+r9s l∧b+r9s l≤200∧d-1+w0N l≤40
 | [],d,b,_,hb,hd=>by rw[u3O,u6L,r9s,w0N];refine⟨trivial,?_,?_,?_⟩<;>first|omega|(show b=_;omega)
 |x::l,d,b,h,hb,hd=>by
  rw[u3O]at h⊢
  split at h
  ·rename_i h1
   rw[if_pos h1]
   obtain⟨w1,w2,w3,w4⟩:=w6a x d b h1
   rw[w2]at h⊢
   obtain⟨v1,v2,v3,v4⟩:=w7d l d (b+ndF x) h w3 hd
   rw[u6L,r9s,w0N]
   refine⟨⟨w1,v1⟩,?_,?_,?_⟩<;>omega
  ·exact absurd h (by assumption)
end
mutual
theorem x0z:∀(f:p6w) (d b:Int),WfF f→b+ndF f≤200→d-1+dpF f≤40→u9b f d b=(0,b+ndF f)
 | .mk k n w s,d,b,h1,h2,h3=>by
   rw[WfF]at h1
   rw[ndF]at h2⊢
   rw[dpF]at h3
   rw[u9b,if_neg (by omega),if_pos h1.1,w7e s (d+1) (b+1) h1.2 (by omega) (by omega)]
   congr 1
   omega
theorem w7e:∀(l:List p6w) (d b:Int),u6L l→b+r9s l≤200→d-1+w0N l≤40→u3O l d b=(0,b+r9s l)
 | [],d,b,_,_,_=>by rw[u3O,r9s];congr 1;omega
 |x::l,d,b,h1,h2,h3=>by
  rw[u6L]at h1
  rw[r9s]at h2⊢
  rw[w0N]at h3
  rw[u3O,x0z x d b h1.1 (by omega) (by omega),if_pos rfl,w7e l d _ h1.2 (by omega) (by omega)]
  congr 1
  omega
end
def OkF(f:p6w):Prop:=WfF f∧ndF f≤200∧dpF f≤40
theorem w7f(f:p6w):(u9b f 1 0).1=0↔OkF f:=by
 refine⟨fun h=>?_,fun h=>?_⟩
 ·obtain⟨h1,h2,h3,h4⟩:=w6a f 1 0 h
  exact⟨h1,by omega,by omega⟩
 ·rw[x0z f 1 0 h.1 (by have:=h.2.1;omega) (by have:=h.2.2;omega)]
theorem u1b{f:p6w}(h:r9Z f=0):(f.subs.length:Int)=arF f.kind∧u3z f.kind f.words.length∧(f.kind=2∨QK f.kind→r5Q f.name)∧(¬(f.kind=2∨QK f.kind)→f.name=[])∧∀w∈f.words,r5Q w:=by
 unfold r9Z at h
 split at h
 ·cases h
 split at h
 ·cases h
 split at h
 ·cases h
 split at h
 ·cases h
 split at h
 ·cases h
 rename_i h1 h2 h3 h4 h5
 refine⟨Classical.byContradiction fun e=>h2 (.inl e),Classical.byContradiction fun e=>h2 (.inr e),fun h=>Classical.byContradiction fun e=>h3 ⟨h,e⟩,fun h=>Classical.byContradiction fun e=>h4 ⟨h,e⟩,fun w hw=>Classical.byContradiction fun e=>h5 ⟨w,hw,e⟩⟩
theorem x2N{f:p6w}(h0:0≤arF f.kind)(h1:(f.subs.length:Int)=arF f.kind)(h2:u3z f.kind f.words.length)(h3:f.kind=2∨QK f.kind→r5Q f.name)(h4:¬(f.kind=2∨QK f.kind)→f.name=[])(h5:∀w∈f.words,r5Q w):r9Z f=0:=by
 unfold r9Z
 rw[if_neg (by omega),if_neg (fun h=>h.elim (fun e=>e h1) (fun e=>e h2)),if_neg (fun h=>h.2 (h3 h.1)),if_neg (fun h=>h.2 (h4 h.1)),if_neg (fun⟨w,hw,e⟩=>e (h5 w hw))]
def sub(env:List (Bs×Bs))(w:Bs):Bs:=((env.find? (fun p=>p.1==w)).map (·.2)).getD w
theorem w6b(w:Bs):sub [] w=w:=rfl
theorem r7H(a b w:Bs)(env:List (Bs×Bs)):sub ((a,b)::env) w=if a=w then b else sub env w:=by
 unfold sub
 rw[List.find?_cons]
 by_cases h:a=w
 ·simp[h]
 ·have:(a==w)=false:=beq_false_of_ne h
  simp[this,h]
theorem u7o{env:List (Bs×Bs)}{w:Bs}(h:∀p∈env,p.1≠w):sub env w=w:=by
 induction env with
 |nil=>rfl
 |cons p env ih=>
  obtain⟨a,b⟩:=p
  rw[r7H,if_neg (h (a,b) (List.mem_cons_self ..)),ih fun q hq=>h q (List.mem_cons_of_mem _ hq)]
theorem w3g{env:List (Bs×Bs)}{w:Bs}(h:w∈env.map (·.1)):sub env w∈env.map (·.2):=by
 induction env with
 |nil=>cases h
 |cons p env ih=>
  obtain⟨a,b⟩:=p
  rw[r7H]
  split
  ·exact List.mem_cons_self ..
  ·rename_i hne
   rw[List.map_cons,List.mem_cons]at h
   exact List.mem_cons_of_mem _ (ih (h.resolve_left fun e=>hne e.symm))
mutual
def ren(N:Nat→Bs):p6w→List (Bs×Bs)→Nat→p6w
 | .mk k n w s,env,i=>.mk k (if QK k then N i else n) (w.map (sub env)) (r9f N s (if QK k then(n,N i)::env else env) (i+if QK k then 1 else 0))
def r9f(N:Nat→Bs):List p6w→List (Bs×Bs)→Nat→List p6w
 | [],_,_=>[]
 |x::l,env,i=>ren N x env i::r9f N l env (i+nq x)
end
theorem u7T(N:Nat→Bs):∀(l:List p6w) (env:List (Bs×Bs)) (i:Nat),(r9f N l env i).length=l.length
 | [],_,_=>by rw[r9f]
 |x::l,env,i=>by rw[r9f,List.length_cons,List.length_cons,u7T N l]
mutual
theorem w7g(N:Nat→Bs):∀(f:p6w) (env:List (Bs×Bs)) (i:Nat),nq (ren N f env i)=nq f
 | .mk k n w s,env,i=>by rw[ren,nq,nq,x0B N s]
theorem x0B(N:Nat→Bs):∀(l:List p6w) (env:List (Bs×Bs)) (i:Nat),nqL (r9f N l env i)=nqL l
 | [],env,i=>by rw[r9f]
 |x::l,env,i=>by rw[r9f,nqL,nqL,w7g N x,x0B N l]
end
mutual
theorem x7X(N:Nat→Bs):∀(f:p6w) (env:List (Bs×Bs)) (i:Nat),ndF (ren N f env i)=ndF f
 | .mk k n w s,env,i=>by rw[ren,ndF,ndF,x0C N s]
theorem x0C(N:Nat→Bs):∀(l:List p6w) (env:List (Bs×Bs)) (i:Nat),r9s (r9f N l env i)=r9s l
 | [],env,i=>by rw[r9f]
 |x::l,env,i=>by rw[r9f,r9s,r9s,x7X N x,x0C N l]
end
mutual
theorem x7Y(N:Nat→Bs):∀(f:p6w) (env:List (Bs×Bs)) (i:Nat),dpF (ren N f env i)=dpF f
 | .mk k n w s,env,i=>by rw[ren,dpF,dpF,x0D N s]
theorem x0D(N:Nat→Bs):∀(l:List p6w) (env:List (Bs×Bs)) (i:Nat),w0N (r9f N l env i)=w0N l
 | [],env,i=>by rw[r9f]
 |x::l,env,i=>by rw[r9f,w0N,w0N,x7Y N x,x0D N l]
end
def nms(N:Nat→Bs):Nat→Nat→List Bs
 | _,0=>[]
 |i,m+1=>N i::nms N (i+1) m
theorem w6c(N:Nat→Bs):∀(a b i:Nat),nms N i (a+b)=nms N i a++nms N (i+a) b
 |0,b,i=>by rw[Nat.zero_add];rfl
 |a+1,b,i=>by rw[show a+1+b=(a+b)+1 by omega,nms,nms,w6c N a b,List.cons_append,show i+1+a=i+(a+1)by omega]
mutual
theorem x7Z(N:Nat→Bs):∀(f:p6w) (env:List (Bs×Bs)) (i:Nat),qs (ren N f env i)=nms N i (nq f)
 | .mk k n w s,env,i=>by
   rw[ren,qs,nq,x0E N s,w6c]
   by_cases h:QK k
   ·simp only[if_pos h];rfl
   ·simp only[if_neg h];rfl
theorem x0E(N:Nat→Bs):∀(l:List p6w) (env:List (Bs×Bs)) (i:Nat),qsL (r9f N l env i)=nms N i (nqL l)
 | [],env,i=>by rw[r9f,nqL];rfl
 |x::l,env,i=>by rw[r9f,qsL,nqL,x7Z N x,x0E N l,w6c]
end
def Idn(env:List (Bs×Bs)):Prop:=∀p∈env,p.1=p.2
theorem x8a{env:List (Bs×Bs)}(h:Idn env)(w:Bs):sub env w=w:=by
 induction env with
 |nil=>rfl
 |cons p env ih=>
  obtain⟨a,b⟩:=p
  rw[r7H,ih fun q hq=>h q (List.mem_cons_of_mem _ hq)]
  split
  ·rename_i e;rw[←e];exact(h (a,b) (List.mem_cons_self ..)).symm
  ·rfl
mutual
theorem x4V(N:Nat→Bs):∀(f:p6w) (env env':List (Bs×Bs)) (i:Nat),Idn env'→ren N (ren N f env i) env' i=ren N f env i
 | .mk k n w s,env,env',i,h=>by
   have hw:(w.map (sub env)).map (sub env')=w.map (sub env):=by
    conv=>rhs;rw[←List.map_id (w.map (sub env))]
    exact List.map_congr_left fun x _=>x8a h x
   rw[ren,ren,hw]
   by_cases hq:QK k
   ·simp only[if_pos hq]
    rw[w3h N s _ _ _ (fun p hp=>by
     rcases List.mem_cons.1 hp with rfl|hp
     ·rfl
     ·exact h p hp)]
   ·simp only[if_neg hq]
    rw[w3h N s _ _ _ h]
theorem w3h(N:Nat→Bs):∀(l:List p6w) (env env':List (Bs×Bs)) (i:Nat),Idn env'→r9f N (r9f N l env i) env' i=r9f N l env i
 | [],env,env',i,h=>by rw[r9f,r9f]
 |x::l,env,env',i,h=>by
  rw[r9f,r9f,x4V N x _ _ _ h,w7g,w3h N l _ _ _ h]
end
mutual
def fre:p6w→List Bs→Bs→Prop
 | .mk k n w s,bd,x=>(x∈w∧x∉bd)∨u0x s (if QK k then n::bd else bd) x
def u0x:List p6w→List Bs→Bs→Prop
 | [],_,_=>False
 |f::l,bd,x=>fre f bd x∨u0x l bd x
end
theorem w7h(f:p6w)(bd:List Bs)(x:Bs):fre f bd x↔(x∈f.words∧x∉bd)∨u0x f.subs (if QK f.kind then f.name::bd else bd) x:=by cases f;rw[fre];rfl
theorem w3i:∀ {l:List p6w} {bd:List Bs} {x:Bs},u0x l bd x↔ ∃f∈l,fre f bd x
 | [],bd,x=>by simp[u0x]
 |f::l,bd,x=>by rw[u0x,w3i];simp
mutual
theorem x0F:∀(f:p6w) (bd:List Bs) (x:Bs),fre f bd x→x∉bd
 | .mk k n w s,bd,x,h=>by
   rw[fre]at h
   rcases h with h|h
   ·exact h.2
   ·have:=w7i s _ x h
    split at this
    ·exact fun e=>this (List.mem_cons_of_mem _ e)
    ·exact this
theorem w7i:∀(l:List p6w) (bd:List Bs) (x:Bs),u0x l bd x→x∉bd
 | [],bd,x,h=>by rw[u0x]at h;exact h.elim
 |f::l,bd,x,h=>by
  rw[u0x]at h
  exact h.elim (x0F f bd x) (w7i l bd x)
end
mutual
theorem x4W(N:Nat→Bs)(U:Bs→Prop)(hN:∀i,¬U (N i)):∀(f:p6w) (env:List (Bs×Bs)) (i:Nat),(∀x,fre f (env.map (·.1)) x→U x)→(∀p∈env,∃j,p.2=N j)→∀x,fre (ren N f env i) (env.map (·.2)) x↔fre f (env.map (·.1)) x
 | .mk k n w s,env,i,hU,he,x=>by
   have key:∀y∈w,(sub env y∉env.map (·.2)↔y∉env.map (·.1))∧(y∉env.map (·.1)→sub env y=y):=fun y hy=>by
    by_cases hb:y∈env.map (·.1)
    ·exact⟨⟨fun h=>absurd (w3g hb) h,fun h=>absurd hb h⟩,fun h=>absurd hb h⟩
    ·have e:sub env y=y:=u7o fun p hp e=>hb (List.mem_map.2 ⟨p,hp,e⟩)
     rw[e]
     refine⟨⟨fun _=>hb,fun _ h=>?_⟩,fun _=>rfl⟩
     obtain⟨p,hp,e2⟩:=List.mem_map.1 h
     obtain⟨j,hj⟩:=he p hp
     exact hN j (by rw[←hj,e2];exact hU y (by rw[fre];exact .inl ⟨hy,hb⟩))
   have hs:u0x (r9f N s (if QK k then(n,N i)::env else env) (i+if QK k then 1 else 0)) (if QK k then N i::env.map (·.2)else env.map (·.2)) x↔u0x s (if QK k then n::env.map (·.1)else env.map (·.1)) x:=by
    by_cases hq:QK k
    ·simp only[if_pos hq]
     exact w3j N U hN s ((n,N i)::env) (i+1) (fun y hy=>hU y (by rw[fre,if_pos hq];exact .inr hy)) (fun p hp=>by
      rcases List.mem_cons.1 hp with rfl|hp
      ·exact⟨i,rfl⟩
      ·exact he p hp) x
    ·simp only[if_neg hq]
     exact w3j N U hN s env _ (fun y hy=>hU y (by rw[fre,if_neg hq];exact .inr hy)) he x
   rw[ren,fre,fre]
   have hn:(if QK k then(if QK k then N i else n)::env.map (·.2)else env.map (·.2))=(if QK k then N i::env.map (·.2)else env.map (·.2)):=by
    by_cases hq:QK k<;>simp[hq]
   rw[hn,hs]
   refine or_congr_left ⟨fun h=>?_,fun h=>?_⟩
   ·obtain⟨h1,h2⟩:=h
    obtain⟨y,hy,rfl⟩:=List.mem_map.1 h1
    have hk:=key y hy
    have hb:=hk.1.1 h2
    rw[hk.2 hb]
    exact⟨hy,hb⟩
   ·have hk:=key x h.1
    have e:=hk.2 h.2
    exact⟨List.mem_map.2 ⟨x,h.1,e⟩,by rw[←e];exact hk.1.2 h.2⟩
theorem w3j(N:Nat→Bs)(U:Bs→Prop)(hN:∀i,¬U (N i)):∀(l:List p6w) (env:List (Bs×Bs)) (i:Nat),(∀x,u0x l (env.map (·.1)) x→U x)→(∀p∈env,∃j,p.2=N j)→∀x,u0x (r9f N l env i) (env.map (·.2)) x↔u0x l (env.map (·.1)) x
 | [],env,i,_,_,x=>by rw[r9f];simp[u0x]
 |f::l,env,i,hU,he,x=>by
  rw[r9f,u0x,u0x,x4W N U hN f env i (fun y hy=>hU y (by rw[u0x];exact .inl hy)) he x,w3j N U hN l env _ (fun y hy=>hU y (by rw[u0x];exact .inr hy)) he x]
end
theorem x4X(k:Int):u4g k=some (arF k):=by
 by_cases h1:k=1
 ·subst h1;rfl
 by_cases h2:k=2
 ·subst h2;rfl
 by_cases h3:k=3
 ·subst h3;rfl
 by_cases h4:k=4
 ·subst h4;rfl
 by_cases h5:k=5
 ·subst h5;rfl
 by_cases h6:k=6
 ·subst h6;rfl
 by_cases h7:k=7
 ·subst h7;rfl
 by_cases h8:k=8
 ·subst h8;rfl
 by_cases h9:k=9
 ·subst h9;rfl
 simp[u4g,u0y,u0z,u0A,arF,h1,h2,h3,h4,h5,h6,h7,h8,h9]
theorem u5H(f:p6w):r5A f=some (decide (QK f.kind)):=by
 unfold r5A QK
 by_cases h:f.kind=8<;>simp[h]
def w8N(c:Int×Int)(b:Int)(r:r5d×Int):Prop:=r.1.code=c.1∧(c.1=0→r=(⟨0,0⟩,c.2)∧b≤c.2∧c.2≤200)∧(c.1≠0→r.1=⟨c.1,c.2⟩)
theorem w8N.bad{c b x:Int}{r:r5d×Int}(hc:c≠0)(hr:r.1=⟨c,x⟩):w8N (c,x) b r:=⟨by rw[hr],fun h=>absurd h hc,fun _=>hr⟩
theorem x3L(k:Int):arF k≤2:=by unfold arF;repeat' split<;>omega
theorem x0G{f:p6w}(h:arF f.kind<0):r9Z f=4:=by unfold r9Z;rw[if_pos h]
theorem x0H{f:p6w}(h0:¬arF f.kind<0)(h:(f.subs.length:Int)≠arF f.kind∨¬u3z f.kind f.words.length):r9Z f=9:=by unfold r9Z;rw[if_neg h0,if_pos h]
theorem w7j{f:p6w}(h0:¬arF f.kind<0)(h1:¬((f.subs.length:Int)≠arF f.kind∨¬u3z f.kind f.words.length))(h:(f.kind=2∨QK f.kind)∧¬r5Q f.name):r9Z f=10:=by unfold r9Z;rw[if_neg h0,if_neg h1,if_pos h]
theorem x0I{f:p6w}(h0:¬arF f.kind<0)(h1:¬((f.subs.length:Int)≠arF f.kind∨¬u3z f.kind f.words.length))(h2:¬((f.kind=2∨QK f.kind)∧¬r5Q f.name))(h:¬(f.kind=2∨QK f.kind)∧f.name≠ []):r9Z f=5:=by unfold r9Z;rw[if_neg h0,if_neg h1,if_neg h2,if_pos h]
open Classical in
theorem x0J{f:p6w}(h0:¬arF f.kind<0)(h1:¬((f.subs.length:Int)≠arF f.kind∨¬u3z f.kind f.words.length))(h2:¬((f.kind=2∨QK f.kind)∧¬r5Q f.name))(h3:¬(¬(f.kind=2∨QK f.kind)∧f.name≠ [])):r9Z f=if ∃w∈f.words,¬r5Q w then 10 else 0:=by unfold r9Z;rw[if_neg h0,if_neg h1,if_neg h2,if_neg h3]
theorem u1z{s:Bs}{b:Bool}(h:b=u9q s):b=true↔r5Q s:=by
 rw[h];unfold u9q;simp
theorem w4F{l:List Bs}(h:∀j,j<l.length→r5Q (Am.get l j)):¬ ∃w∈l,¬r5Q w:=fun⟨w,hw,hn⟩=>by
 obtain⟨j,hj,rfl⟩:=r9P.1 hw
 exact hn (h j hj)
theorem x0K:∀(m:Nat) (f:p6w),SizeOf.sizeOf f≤m→∀d b:Int,0≤d→d≤41→0≤b→b≤200→Evt (fun n=>r6H n f d b false) (w8N (u9b f d b) b):=by
 intro m
 induction m with
 |zero=>intro f h;cases f;simp only[p6w.mk.sizeOf_spec]at h;omega
 |succ m ih=>
  intro f hf d b hd0 hd hb0 hb
  have hw1:wr .i64 (d+1)=d+1:=u0Y (by omega) (by omega)
  have hw2:wr .i64 (b+1)=b+1:=u0Y (by omega) (by omega)
  refine Evt.succ ?_
  simp only[r6H,hw2,x4X,Option.bind_some]
  rw[x0y]
  refine Evt.cond (fun e=>?_) (fun e=>?_)
  ·replace e:=bx e
   rw[if_pos (by omega)]
   exact Evt.pure (w8N.bad (by decide) rfl)
  replace e:=bx e
  rw[if_neg (by omega)]
  have key:Evt (fun n=>r9j (r6H n) b f d false (arF f.kind)) (w8N (if r9Z f=0 then u3O f.subs (d+1) (b+1)else(r9Z f,b)) b):=by
   unfold r9j
   refine Evt.cond (fun e=>?_) (fun e=>?_)
   ·replace e:=bx e
    rw[x0G e,if_neg (by decide)]
    exact Evt.pure (w8N.bad (by decide) rfl)
   replace e:=bx e
   have e0:¬arF f.kind<0:=by omega
   have k1:∀c:Bool,(c=true↔u3z f.kind f.words.length)→Evt (fun n=>r8o (r6H n) f (arF f.kind) b d false c) (w8N (if r9Z f=0 then u3O f.subs (d+1) (b+1)else(r9Z f,b)) b):=by
    intro c hc
    unfold r8o
    refine Evt.cond (fun e=>?_) (fun e=>?_)
    ·replace e:=bx e
     rw[x0H e0 (by
      rcases e with e|e
      ·exact .inl e
      ·exact .inr fun h=>by rw[hc.2 h]at e;cases e),if_neg (by decide)]
     exact Evt.pure (w8N.bad (by decide) (by simp only[hw2]))
    replace e:=bx e
    have e1:¬((f.subs.length:Int)≠arF f.kind∨¬u3z f.kind f.words.length):=fun h=>h.elim (fun h=>h e.1) (fun h=>h (hc.1 e.2))
    have h10:f.kind≠10:=fun h=>by
     rw[h]at e0;exact e0 (by decide)
    simp only[u5H]
    refine Evt.bind (P:=fun v=>v=(!(decide (f.kind=2))&&decide (QK f.kind))) (Evt.gd (fun g=>Evt.pure (by replace g:=bx g;simp[g])) (fun g=>by replace g:=bx g;simp[g])) fun v5 hv5=>?_
    have hn:(bif bif decide (f.kind=2)then true else v5 then true else decide (f.kind=10))=decide (f.kind=2∨QK f.kind):=by
     subst hv5
     by_cases h2:f.kind=2<;>simp[h2,h10]
    rw[hn]
    refine Evt.bind (P:=fun v=>(f.kind=2∨QK f.kind)→(v=true↔r5Q f.name)) (Evt.gd (fun g=>(u7n f.name).mono fun v hv _=>u1z hv) (fun g h=>absurd h (by simpa using g))) fun v6 hv6=>?_
    refine Evt.cond (fun e=>?_) (fun e=>?_)
    ·replace e:=bx e
     rw[w7j e0 e1 ⟨e.1,fun h=>by rw[(hv6 e.1).2 h]at e;cases e.2⟩,if_neg (by decide)]
     exact Evt.pure (w8N.bad (by decide) (by simp only[hw2]))
    have e2:¬((f.kind=2∨QK f.kind)∧¬r5Q f.name):=fun⟨h1,h2⟩=>by
     cases v6 with
     |true=>exact h2 ((hv6 h1).1 rfl)
     |false=>simp[h1]at e
    refine Evt.cond (fun e=>?_) (fun e=>?_)
    ·replace e:=bx e
     rw[x0I e0 e1 e2 ⟨by simpa using e.1,e.2⟩,if_neg (by decide)]
     exact Evt.pure (w8N.bad (by decide) (by simp only[hw2]))
    have e3:¬(¬(f.kind=2∨QK f.kind)∧f.name≠ []):=fun⟨h1,h2⟩=>by simp[h1,h2]at e
    have x0L:=x0J e0 e1 e2 e3
    refine Evt.r5r (Evt.scan (fun k _=>∀j,j<k→r5Q (Am.get f.words j)) (fun k r=>r.1=⟨10,b⟩∧∃w∈f.words,¬r5Q w) (fun j hj=>absurd hj (Nat.not_lt_zero _)) (fun k u hk hi=>?_)) (fun t ht=>?_) (fun r hr=>?_)
    ·unfold u1F
     refine Evt.bind (u7n _) fun v hv=>Evt.cond (fun e=>?_) (fun e=>Evt.pure ?_)
     ·replace e:=bx e
      exact Evt.pure ⟨rfl,_,get_mem hk,fun h=>by rw[(u1z hv).2 h]at e;cases e⟩
     ·replace e:=bx e
      intro j hj
      by_cases ej:j=k
      ·subst ej;exact(u1z hv).1 e
      ·exact hi j (by omega)
    ·have hall:=w4F ht
     rw[x0L,if_neg hall,if_pos rfl]
     unfold u1G
     rw[hw2]
     have hsl:f.subs.length≤2:=by
      have:=x3L f.kind
      have:(f.subs.length:Int)=arF f.kind:=Classical.byContradiction fun h=>e1 (.inl h)
      omega
     refine Evt.r5r (Evt.range (fun k c=>u3O (f.subs.drop k) (d+1) c=u3O f.subs (d+1) (b+1)∧b+1≤c∧c≤200) (fun _=>False) (fun r=>w8N (u3O f.subs (d+1) (b+1)) b r) ⟨rfl,by omega,by omega⟩ (fun k c hk hj=>?_)) (fun t ht=>Evt.pure ?_) (fun r hr=>hr)
     ·obtain⟨h1,h2,h3⟩:=hj
      unfold u1H
      have hsz:=u0r hk
      rw[hw1]
      rw[w3f hk,u3O]at h1
      refine Evt.bind (ih _ (by omega) _ _ (by omega) (by omega) (by omega) h3) fun v hv=>Evt.cond (fun e=>Evt.pure ?_) (fun e=>Evt.pure ?_)
      ·replace e:=bx e
       rw[hv.1]at e
       rw[if_neg e]at h1
       rw[←h1]
       exact⟨hv.1,fun h=>absurd h e,hv.2.2⟩
      ·replace e:=bx e
       rw[hv.1]at e
       rw[if_pos e]at h1
       obtain⟨hv1,hv2,hv3⟩:=hv.2.1 e
       rw[hv1]
       exact⟨h1,by show b+1≤(u9b _ _ _).2;omega,hv3⟩
     ·obtain⟨h1,h2,h3⟩:=ht.elim id False.elim
      rw[List.drop_length,u3O]at h1
      unfold u1I at*
      rw[←h1]
      exact⟨rfl,fun _=>⟨rfl,by show b≤t;omega,h3⟩,fun h=>absurd rfl h⟩
    ·obtain⟨k,_,_,_,h1,h2⟩:=hr
     rw[x0L,if_pos h2,if_neg (by decide)]
     exact w8N.bad (by decide) h1
   refine Evt.cond (fun e=>k1 _ ?_) (fun e=>Evt.cond (fun e2=>k1 _ ?_) (fun e2=>k1 _ ?_))
   ·replace e:=bx e
    unfold u3z;simp[e];omega
   ·replace e:=bx e;replace e2:=bx e2
    unfold u3z;simp[e2];omega
   ·replace e:=bx e;replace e2:=bx e2
    unfold u3z;simp[e,e2]
  refine Evt.cond (fun e=>?_) (fun e=>key)
  simp at e
noncomputable def u4h(f:p6w):r5d:=if(u9b f 1 0).1=0 then⟨0,0⟩else⟨(u9b f 1 0).1,(u9b f 1 0).2⟩
theorem u4i(f:p6w):(u4h f).code=0↔OkF f:=by
 rw[←w7f]
 unfold u4h
 split
 ·simp[*]
 ·simp[*]
theorem w4G{f:p6w}(h:OkF f):u4h f=⟨0,0⟩:=by unfold u4h;rw[if_pos ((w7f f).2 h)]
theorem u4L(f:p6w):Evt (fun n=>r8V n f) (fun r=>r=u4h f):=by
 unfold r8V u4M
 simp only[Option.bind_assoc,Option.bind_some]
 refine Evt.bind (x0K _ f (Nat.le_refl _) 1 0 (by omega) (by omega) (by omega) (by omega)) fun v hv=>Evt.pure ?_
 unfold u4h
 split
 ·rename_i h;rw[(hv.2.1 h).1]
 ·rename_i h;exact hv.2.2 h
theorem x0M(k:Int):Evt (fun _=>r8i k) (fun r=>r=arF k):=by
 unfold r8i
 refine Evt.cond (fun e=>Evt.pure ?_) (fun e=>?_)
 ·replace e:=bx e
  unfold arF
  rw[if_neg (by omega),if_neg (by omega),if_neg (by omega)]
 ·replace e:=bx e
  refine Evt.chk (by omega) (Evt.pure ?_)
  have:k=1∨k=2∨k=3∨k=4∨k=5∨k=6∨k=7∨k=8∨k=9:=by omega
  rcases this with rfl|rfl|rfl|rfl|rfl|rfl|rfl|rfl|rfl<;>rfl
abbrev FA:=r5a
def fat(d:Int)(f:p6w):FA:=⟨f,d⟩
abbrev w3k:Nat→List FA×Int×Nat→Option (Ctl r5d (List FA×Int×Nat) Unit):=fun n=>r6b n false
theorem w0P(f:p6w):r9Z f=0→f.subs.length≤2:=fun h=>by
 have h1:=(u1b h).1
 have:=x3L f.kind
 omega
section
variable {rest:List FA} {f:p6w} {d c:Int} {st:List FA×Int×Nat}
theorem x4Y(u6n:Live st (rest++[⟨f,d⟩]) c)(hd0:0≤d)(hd:d≤41)(hc0:0≤c)(hc:c≤200)(hr:(rest.length:Int)≤2*c)(hs:f.subs.length≤2){Q:Ctl r5d (List FA×Int×Nat) Unit→Prop}
 (q:∀st',Live st' (rest++f.subs.reverse.map (fat (d+1))) (c+1)→Q (.nxt st')):Evt (fun n=>r5n n st 0) Q:=by
 have hsp:=u6n.sp
 have x2O:=u6n.top
 have y2y:=u6n.pop
 have x9l:=u6n.2.2
 have hw:wr .i64 ((st.2.2:Int)-1)=(rest.length:Int):=by rw[u0Y (by omega) (by omega)];omega
 have hwd:wr .i64 (d+1)=d+1:=u0Y (by omega) (by omega)
 have hwc:wr .i64 (st.2.1+1)=c+1:=by rw[x9l];exact u0Y (by omega) (by omega)
 have hwl:wr .i64 ((f.subs.length:Int)-1)=(f.subs.length:Int)-1:=u0Y (by omega) (by omega)
 unfold r5n
 refine Evt.cond (fun e=>by simp at e) (fun _=>?_)
 simp only[hw,Int.toNat_natCast,x2O,hwl]
 refine Evt.r5r (P:=ExP (fun t=>t.1.take t.2=rest++f.subs.reverse.map (fat (d+1))∧t.2=(rest++f.subs.reverse.map (fat (d+1))).length) (fun _=>False))
  (Evt.loop (fun s:List FA×Int×Nat=>(s.2.1+1).toNat) (fun s=> -1≤s.2.1∧s.2.1<f.subs.length∧s.1.take s.2.2=rest++(f.subs.drop (s.2.1+1).toNat).reverse.map (fat (d+1))∧s.2.2=(rest++(f.subs.drop (s.2.1+1).toNat).reverse.map (fat (d+1))).length) _ _ ?_ (fun s hi=>?_)) (fun t ht=>?_) (fun r hr=>hr.elim)
 ·refine⟨by show -1≤(f.subs.length:Int)-1;omega,by show(f.subs.length:Int)-1<_;omega,?_,?_⟩
  ·show st.1.take rest.length=rest++(f.subs.drop ((f.subs.length:Int)-1+1).toNat).reverse.map (fat (d+1))
   rw[y2y,show((f.subs.length:Int)-1+1).toNat=f.subs.length by omega,List.drop_length]
   simp
  ·show rest.length=(rest++(f.subs.drop ((f.subs.length:Int)-1+1).toNat).reverse.map (fat (d+1))).length
   rw[show((f.subs.length:Int)-1+1).toNat=f.subs.length by omega,List.drop_length]
   simp
 ·obtain⟨l,i,p⟩:=s
  obtain⟨h0,h1,h2,h3⟩:=hi
  simp only at h0 h1 h2 h3
  unfold r7n
  simp only[hw,Int.toNat_natCast,x2O,hwd]
  refine Evt.cond (fun e=>?_) (fun e=>?_)
  ·replace e:=bx e
   have hil:i.toNat<f.subs.length:=by omega
   have hp:p≤l.length:=by
    have:=congrArg List.length h2
    rw[List.length_take]at this
    omega
   refine Evt.chk ⟨e,h1⟩ (Evt.chk hp (Evt.r9F (Evt.chk ?_ (Evt.pure ?_))))
   ·rw[h2,u4e]
    simp only[List.length_append,List.length_map,List.length_reverse,List.length_drop,List.length_cons,List.length_nil]
    omega
   ·have hi1:wr .i64 (i-1)=i-1:=u0Y (by omega) (by omega)
    rw[hi1,h2]
    have hd1:f.subs.drop (i-1+1).toNat=Am.get f.subs i.toNat::f.subs.drop (i+1).toNat:=by
     rw[show(i-1+1).toNat=i.toNat by omega,w3f hil,show(i+1).toNat=i.toNat+1 by omega]
    refine⟨⟨by show -1≤i-1;omega,by show i-1<_;omega,?_,?_⟩,by show(i-1+1).toNat<(i+1).toNat;omega⟩
    ·show List.take _ _=_
     rw[List.take_length,hd1,List.reverse_cons,List.map_append,List.append_assoc]
     rfl
    ·show List.length _=_
     rw[hd1,List.reverse_cons,List.map_append,List.append_assoc]
     rfl
  ·replace e:=bx e
   have hi:i= -1:=by omega
   subst hi
   refine Evt.pure ⟨?_,?_⟩
   ·simpa using h2
   ·simpa using h3
 ·obtain⟨h1,h2⟩:=ht
  unfold r7o
  rw[hwc]
  exact Evt.pure (q _ ⟨h1,h2,rfl⟩)
theorem w6d(u6n:Live st (rest++[⟨f,d⟩]) c)(hd0:0≤d)(hd:d≤41)(hc0:0≤c)(hc:c≤200)(hr:(rest.length:Int)≤2*c){Q:Ctl r5d (List FA×Int×Nat) Unit→Prop}
 (q1:200<c+1∨40<d→Q (.ret ⟨1,c⟩)) (q2:¬(200<c+1∨40<d)→r9Z f≠0→Q (.ret ⟨r9Z f,c⟩)) (q3:¬(200<c+1∨40<d)→r9Z f=0→∀st',Live st' (rest++f.subs.reverse.map (fat (d+1))) (c+1)→Q (.nxt st')):
 Evt (fun n=>w3k n st) Q:=by
 have hsp:=u6n.sp
 have hle:=u6n.le
 have x2O:=u6n.top
 have x9l:=u6n.2.2
 have hw:wr .i64 ((st.2.2:Int)-1)=(rest.length:Int):=by rw[u0Y (by omega) (by omega)];omega
 have x6w:∀x:Int,x≠0→Q (.ret ⟨x,c⟩)→Evt (fun n=>r5n n st x) Q:=fun x hx h=>by
  unfold r5n
  refine Evt.cond (fun e=>Evt.pure (by rw[x9l];exact h)) (fun e=>?_)
  simp[hx]at e
 unfold w3k r6b
 simp only[hw,Int.toNat_natCast,x2O]
 refine Evt.cond (fun _=>?_) (fun e=>by replace e:=bx e;omega)
 refine Evt.chk hle (Evt.chk (by omega) (Evt.chk (by omega) (Evt.bind (x0M _) fun v hv=>?_)))
 subst hv
 refine Evt.cond (fun e=>by simp at e) (fun _=>?_)
 have key:∀most least:Int,((f.words.length:Int)<least∨most<(f.words.length:Int)↔ ¬u3z f.kind f.words.length)→Evt (fun n=>r6c n st (arF f.kind) (most,least)) Q:=by
  intro most least hwd
  unfold r6c
  simp only[hw,Int.toNat_natCast,x2O,x9l]
  refine Evt.cond (fun e=>x6w 1 (by decide) (q1 (by replace e:=bx e;omega))) (fun e=>?_)
  replace e:=bx e
  have hn:¬(200<c+1∨40<d):=by omega
  refine Evt.cond (fun e=>?_) (fun e=>?_)
  ·replace e:=bx e
   have h:=x0G e
   exact x6w 4 (by decide) (by rw[←h];exact q2 hn (by rw[h];decide))
  have e0:¬arF f.kind<0:=by replace e:=bx e;omega
  refine Evt.cond (fun e=>?_) (fun e=>?_)
  ·replace e:=bx e
   have h:=x0H e0 (by
    rcases e with(e|e)|e
    ·exact .inl e
    ·exact .inr (hwd.1 (.inl e))
    ·exact .inr (hwd.1 (.inr e)))
   exact x6w 9 (by decide) (by rw[←h];exact q2 hn (by rw[h];decide))
  replace e:=bx e
  have e1:¬((f.subs.length:Int)≠arF f.kind∨¬u3z f.kind f.words.length):=fun h=>h.elim (fun h=>h e.1.1) (fun h=>by
   have:=hwd.2 h
   omega)
  have h10:f.kind≠10:=fun h=>by
   rw[h]at e0;exact e0 (by decide)
  have hnm:(bif bif bif decide (f.kind=2)then true else decide (f.kind=8)then true else decide (f.kind=9)then true else decide (f.kind=10))=decide (f.kind=2∨QK f.kind):=by
   unfold QK
   by_cases h2:f.kind=2
   ·simp[h2]
   ·by_cases h8:f.kind=8
    ·simp[h8]
    ·by_cases h9:f.kind=9
     ·simp[h9]
     ·simp[h2,h8,h9,h10]
  rw[hnm]
  refine Evt.bind (P:=fun v=>(f.kind=2∨QK f.kind)→(v=true↔r5Q f.name)) (Evt.gd (fun g=>(w0M f.name).mono fun v hv _=>u1z hv) (fun g h=>absurd h (by simpa using g))) fun v6 hv6=>?_
  refine Evt.cond (fun e=>?_) (fun e=>?_)
  ·replace e:=bx e
   have h:=w7j e0 e1 ⟨e.1,fun h=>by rw[(hv6 e.1).2 h]at e;cases e.2⟩
   exact x6w 10 (by decide) (by rw[←h];exact q2 hn (by rw[h];decide))
  have e2:¬((f.kind=2∨QK f.kind)∧¬r5Q f.name):=fun⟨h1,h2⟩=>by
   cases v6 with
   |true=>exact h2 ((hv6 h1).1 rfl)
   |false=>simp[h1]at e
  refine Evt.cond (fun e=>?_) (fun e=>?_)
  ·replace e:=bx e
   have h:=x0I e0 e1 e2 ⟨by simpa using e.1,e.2⟩
   exact x6w 5 (by decide) (by rw[←h];exact q2 hn (by rw[h];decide))
  have e3:¬(¬(f.kind=2∨QK f.kind)∧f.name≠ []):=fun⟨h1,h2⟩=>by simp[h1,h2]at e
  have x0L:=x0J e0 e1 e2 e3
  refine Evt.r5r (P:=ExP (fun t:Int=>t=r9Z f) (fun _=>False)) ((Evt.range (fun k s=>(s=0∧∀j,j<k→r5Q (Am.get f.words j))∨(s=10∧∃w∈f.words,¬r5Q w)) (fun _=>False) (fun _=>False) (.inl ⟨rfl,fun j hj=>absurd hj (Nat.not_lt_zero _)⟩) (fun k s hk hi=>?_)).mono fun x hx=>?_) (fun t ht=>?_) (fun r hr=>hr.elim)
  ·unfold r7p
   simp only[hw,Int.toNat_natCast,x2O]
   refine Evt.bind (w0M _) fun v hv=>Evt.cond (fun e=>Evt.pure (.inr ⟨rfl,_,get_mem hk,fun h=>?_⟩)) (fun e=>Evt.pure ?_)
   ·replace e:=bx e
    rw[(u1z hv).2 h]at e;cases e
   ·replace e:=bx e
    rcases hi with⟨h1,h2⟩|h
    ·refine .inl ⟨h1,fun j hj=>?_⟩
     by_cases ej:j=k
     ·subst ej;exact(u1z hv).1 e
     ·exact h2 j (by omega)
    ·exact .inr h
  ·cases x with
   |ret r=>exact hx
   |nxt t=>
    rcases hx.elim id False.elim with⟨h1,h2⟩|⟨h1,h2⟩
    ·show t=r9Z f
     rw[x0L,if_neg (w4F h2)];exact h1
    ·show t=r9Z f
     rw[x0L,if_pos h2];exact h1
  ·have ht:t=r9Z f:=ht
   subst ht
   unfold r7q
   by_cases h0:r9Z f=0
   ·rw[h0]
    exact x4Y u6n hd0 hd hc0 hc hr (w0P f h0) (q3 hn h0)
   ·exact x6w _ h0 (q2 hn h0)
 unfold r6z
 simp only[hw,Int.toNat_natCast,x2O]
 refine Evt.cond (fun e=>?_) (fun e=>?_)
 ·replace e:=bx e
  unfold r6d
  simp only[hw,Int.toNat_natCast,x2O]
  refine Evt.cond (fun e2=>by replace e2:=bx e2;omega) (fun e2=>key _ _ ?_)
  have hw3:u3z f.kind f.words.length↔f.words.length≤3:=by unfold u3z;simp[e]
  rw[hw3];omega
 ·replace e:=bx e
  unfold r6d
  simp only[hw,Int.toNat_natCast,x2O]
  refine Evt.cond (fun e2=>key _ _ ?_) (fun e2=>key _ _ ?_)
  ·replace e2:=bx e2
   have hw3:u3z f.kind f.words.length↔f.words.length=2:=by unfold u3z;simp[e2]
   rw[hw3];omega
  ·replace e2:=bx e2
   have hw3:u3z f.kind f.words.length↔f.words.length=0:=by unfold u3z;simp[e,e2]
   rw[hw3];omega
end
theorem x4Z(f:p6w)(d b:Int)(h:(u9b f d b).1=0):b≤(u9b f d b).2∧(u9b f d b).2≤200:=by
 obtain⟨_,h2,h3,_⟩:=w6a f d b h
 omega
theorem w8B:∀(m:Nat) (f:p6w),SizeOf.sizeOf f≤m→∀(rest:List FA) (d c:Int) (st:List FA×Int×Nat),Live st (rest++[⟨f,d⟩]) c→0≤d→d≤41→(rest.length:Int)≤2*c→0≤c→c≤200→
 ((u9b f d c).1=0→∃st',Live st' rest (u9b f d c).2∧u4f w3k st st')∧((u9b f d c).1≠0→u7S w3k st (.ret ⟨(u9b f d c).1,(u9b f d c).2⟩)):=by
 intro m
 induction m with
 |zero=>intro f h;cases f;simp only[p6w.mk.sizeOf_spec]at h;omega
 |succ m ih=>
  intro f hf rest d c st u6n hd0 hd hr hc0 hc
  rw[x0y]
  by_cases h1:200<c+1∨40<d
  ·rw[if_pos h1]
   exact⟨fun h=>absurd (show(1:Int)=0 from h) (by decide),fun _=>u7S.ret (w6d u6n hd0 hd hc0 hc hr (fun _=>rfl) (fun h=>absurd h1 h) (fun h=>absurd h1 h))⟩
  rw[if_neg h1]
  by_cases h2:r9Z f=0
  ·rw[if_pos h2]
   have parts:∀(l:List p6w),(∀x∈l,SizeOf.sizeOf x≤m)→∀(c:Int) (st:List FA×Int×Nat),Live st (rest++l.reverse.map (fat (d+1))) c→(rest.length:Int)+l.length≤2*c+1→0≤c→c≤200→
    ((u3O l (d+1) c).1=0→∃st',Live st' rest (u3O l (d+1) c).2∧u4f w3k st st')∧((u3O l (d+1) c).1≠0→u7S w3k st (.ret ⟨(u3O l (d+1) c).1,(u3O l (d+1) c).2⟩)):=by
    intro l
    induction l with
    |nil=>
     intro _ c st hl _ _ _
     rw[u3O]
     refine⟨fun _=>⟨st,by simpa using hl,u4f.refl⟩,fun h=>absurd rfl h⟩
    |cons x l ihl=>
     intro hx c st hl hr hc0 hc
     have hl2:Live st ((rest++l.reverse.map (fat (d+1)))++[⟨x,d+1⟩]) c:=by
      rw[List.reverse_cons,List.map_append, ←List.append_assoc]at hl
      exact hl
     simp only[List.length_cons]at hr
     have i0:=ih x (hx x (List.mem_cons_self ..)) _ (d+1) c st hl2 (by omega) (by omega) (by simp only[List.length_append,List.length_map,List.length_reverse];omega) hc0 hc
     rw[u3O]
     by_cases h0:(u9b x (d+1) c).1=0
     ·rw[if_pos h0]
      have hbd:=x4Z x (d+1) c h0
      obtain⟨st',hl3,hst⟩:=i0.1 h0
      have i1:=ihl (fun y hy=>hx y (List.mem_cons_of_mem _ hy)) _ st' hl3 (by omega) (by omega) hbd.2
      refine⟨fun h=>?_,fun h=>hst.ends (i1.2 h)⟩
      obtain⟨w8P,hl4,y2z⟩:=i1.1 h
      exact⟨w8P,hl4,hst.trans y2z⟩
     ·rw[if_neg h0]
      exact⟨fun h=>absurd h h0,fun _=>i0.2 h0⟩
   have hsz:∀x∈f.subs,SizeOf.sizeOf x≤m:=fun x hx=>by
    obtain⟨j,hj,rfl⟩:=r9P.1 hx
    have:=u0r hj
    omega
   have hs2:=w0P f h2
   obtain⟨c1,⟨st',rfl,hl'⟩,hN⟩:=w6d (Q:=fun c'=>∃st',c'= .nxt st'∧Live st' (rest++f.subs.reverse.map (fat (d+1))) (c+1)) u6n hd0 hd hc0 hc hr (fun h=>absurd h h1) (fun _ h=>absurd h2 h) (fun _ _ st' h=>⟨st',rfl,h⟩)
   have hstep:u4f w3k st st':=u4f.one ⟨_,rfl,hN⟩
   have ip:=parts f.subs hsz (c+1) st' hl' (by omega) (by omega) (by omega)
   refine⟨fun h=>?_,fun h=>hstep.ends (ip.2 h)⟩
   obtain⟨w8P,h4,h5⟩:=ip.1 h
   exact⟨w8P,h4,hstep.trans h5⟩
  ·rw[if_neg h2]
   exact⟨fun h=>absurd h h2,fun _=>u7S.ret (w6d (Q:=fun c'=>c'= .ret ⟨r9Z f,c⟩) u6n hd0 hd hc0 hc hr (fun h=>absurd h h1) (fun _ _=>rfl) (fun _ h=>absurd h h2))⟩
theorem u9c(f:p6w):Evt (fun n=>r6v n f) (fun r=>r=u4h f):=by
 unfold r6v
 refine Evt.bind (P:=fun r=>r=u4h f) ?_ fun v hv=>Evt.pure hv
 unfold r8m
 have h:=w8B _ f (Nat.le_refl _) [] 1 0 ([(r5a.mk f 1)],0,1) ⟨rfl,rfl,rfl⟩ (by omega) (by omega) (by simp) (by omega) (by omega)
 unfold u4h
 by_cases h0:(u9b f 1 0).1=0
 ·rw[if_pos h0]
  obtain⟨st',hl,hst⟩:=h.1 h0
  have hend:u7S w3k st' (.nxt ()):=u7S.brk (by
   have:=hl.2.1
   unfold w3k r6b
   refine Evt.cond (fun e=>?_) (fun _=>Evt.pure rfl)
   replace e:=bx e
   have h2:st'.2.2=0:=this
   omega)
  exact Evt.r5r (hst.ends hend).evt (fun t ht=>Evt.pure rfl) (fun r hr=>by cases hr)
 ·rw[if_neg h0]
  exact Evt.r5r (h.2 h0).evt (fun t ht=>by cases ht) (fun r hr=>by cases hr;rfl)
theorem r8p{α:Type}[Inhabited α]{l:List α}{k:Nat}(h:k<l.length):l.take (k+1)=l.take k++[Am.get l k]:=by
 rw[List.take_add_one,List.getElem?_eq_getElem h]
 simp[Am.get,h]
theorem x0N{ρ:Type}(xs:List Bs)(body:List Bs×Int→Option (Ctl ρ (List Bs×Int) (List Bs)))
 (hb:∀s,body s=bif decide (s.2<(xs.length:Int))then chk (0≤s.2∧s.2<(xs.length:Int)) <| Am.r9F (s.1++[Am.get xs s.2.toNat]) fun c=>chk (c.length*16≤top∧c.length≤top) <| some (.nxt (c,wr .i64 (s.2+1)))else some (.brk s.1))
 (l0:List Bs) (h:l0.length+xs.length≤1000000):Evt (fun n=>r6G body n (l0,0)) (ExP (fun t=>t=l0++xs) (fun _:ρ=>False)):=by
 refine Evt.u6u xs.length (fun k s=>s=(l0++xs.take k,(k:Int))) _ _ (by simp) (fun k s hk hs=>?_) (fun s hs=>?_)
 ·subst hs
  rw[hb]
  refine Evt.cond (fun _=>Evt.chk (by omega) (Evt.r9F (Evt.chk ?_ (Evt.pure ?_)))) (fun e=>by replace e:=bx e;omega)
  ·rw[u4e]
   simp only[List.length_append,List.length_take,List.length_cons,List.length_nil]
   omega
  ·show(_,_)=(_,_)
   rw[u0Y (by omega) (by omega),r8p hk,List.append_assoc]
   rfl
 ·subst hs
  rw[hb]
  refine Evt.cond (fun e=>by replace e:=bx e;omega) (fun _=>Evt.pure ?_)
  show l0++xs.take xs.length=_
  rw[List.take_length]
abbrev IT:=r4U
mutual
def u0L:p6w→List Bs→Nat→List IT
 | .mk k n w s,ar,b=>⟨k,n,w,w.map (fun x=>decide (x∈ar)),((b+(1+r9s s):Nat):Int)⟩::u0M s (if QK k then n::ar else ar) (b+1)
def u0M:List p6w→List Bs→Nat→List IT
 | [],_,_=>[]
 |x::l,ar,b=>u0L x ar b++u0M l ar (b+ndF x)
end
theorem w6e(f:p6w)(ar:List Bs)(b:Nat):u0L f ar b=⟨f.kind,f.name,f.words,f.words.map (fun x=>decide (x∈ar)),((b+ndF f:Nat):Int)⟩::u0M f.subs (if QK f.kind then f.name::ar else ar) (b+1):=by
 cases f;rw[u0L,ndF];rfl
mutual
theorem u1c:∀(f:p6w) (ar:List Bs) (b:Nat),(u0L f ar b).length=ndF f
 | .mk k n w s,ar,b=>by rw[u0L,ndF,List.length_cons,u5n s];omega
theorem u5n:∀(l:List p6w) (ar:List Bs) (b:Nat),(u0M l ar b).length=r9s l
 | [],_,_=>by rw[u0M,r9s];rfl
 |x::l,ar,b=>by rw[u0M,r9s,List.length_append,u1c x,u5n l]
end
theorem w0Q:∀(l:List p6w) (x:p6w),r9s (l++[x])=r9s l+ndF x
 | [],x=>by simp[r9s]
 |a::l,x=>by rw[List.cons_append,r9s,r9s,w0Q l x];omega
theorem w7k:∀(l m:List p6w),r9s (l++m)=r9s l+r9s m
 | [],m=>by simp[r9s]
 |a::l,m=>by rw[List.cons_append,r9s,r9s,w7k l m];omega
theorem u8C:∀(l:List p6w) (x:p6w) (ar:List Bs) (b:Nat),u0M (l++[x]) ar b=u0M l ar b++u0L x ar (b+r9s l)
 | [],x,ar,b=>by simp[u0M,r9s]
 |a::l,x,ar,b=>by rw[List.cons_append,u0M,u0M,r9s,u8C l x,List.append_assoc,Nat.add_assoc]
theorem u5o{l:List p6w}{k:Nat}(h:k<l.length):r9s (l.take k)+ndF (Am.get l k)≤r9s l:=by
 have e:l=(l.take k++[Am.get l k])++l.drop (k+1):=by
  rw[List.append_assoc,List.singleton_append, ←w3f h];exact(List.take_append_drop k l).symm
 have h2:r9s l=r9s (l.take k)+ndF (Am.get l k)+r9s (l.drop (k+1)):=by
  conv=>lhs;rw[e]
  rw[w7k,w0Q]
 omega
theorem w2m{f:p6w}(h:WfF f):f.words.length≤3:=by
 have h2:=(u1b ((u1l f).1 h).1).2.1
 unfold u3z at h2
 split at h2
 ·exact h2
 ·split at h2<;>omega
theorem w0R{f:p6w}(h:WfF f){k:Nat}(hk:k<f.subs.length):WfF (Am.get f.subs k):=r7s.1 ((u1l f).1 h).2 _ (get_mem hk)
theorem w3l{f:p6w}(h:WfF f):f.subs.length≤2:=w0P f ((u1l f).1 h).1
theorem w7l(ar:List Bs)(x:Bs)(body:Bool×Int→Option (Ctl (Ctl (List IT) (List Bool×Int) (List Bool)) (Bool×Int) Bool))(p q:Bool×Int→Prop)[∀s,Decidable (p s)][∀s,Decidable (q s)]
 (hb:∀s,body s=bif decide (s.2<(ar.length:Int))then chk (p s) <| chk (q s) <| some (.nxt (bif s.1 then true else decide (Am.get ar s.2.toNat=x),wr .i64 (s.2+1)))else some (.brk s.1))
 (hp:∀s,0≤s.2→s.2<(ar.length:Int)→p s) (hq:∀s,q s) (h:ar.length≤1000000):Evt (fun n=>r6G body n (false,0)) (ExP (fun t=>t=decide (x∈ar)) (fun _=>False)):=by
 refine Evt.u6u ar.length (fun k s=>s=(decide (x∈ar.take k),(k:Int))) _ _ (by simp) (fun k s hk hs=>?_) (fun s hs=>?_)
 ·subst hs
  rw[hb]
  refine Evt.cond (fun _=>Evt.chk (hp _ (by simp) (by simpa using hk)) (Evt.chk (hq _) (Evt.pure ?_))) (fun e=>by replace e:=bx e;omega)
  show(_,_)=(_,_)
  rw[u0Y (by omega) (by omega),r8p hk,Int.toNat_natCast]
  congr 1
  by_cases h1:x∈ar.take k
  ·simp[h1]
  ·by_cases h2:Am.get ar k=x
   ·simp[h2]
   ·simp only[h1,h2,List.mem_append,List.mem_singleton,false_or,decide_false,cond_false]
    exact(decide_eq_false fun e=>h2 e.symm).symm
 ·subst hs
  rw[hb]
  refine Evt.cond (fun e=>by replace e:=bx e;omega) (fun _=>Evt.pure ?_)
  show decide (x∈ar.take ar.length)=_
  rw[List.take_length]
theorem w7m(f:p6w)(ar:List Bs)(hw:f.words.length≤3)(ha:ar.length≤1000000)(body:Nat→List Bool×Int→Option (Ctl (List IT) (List Bool×Int) (List Bool)))(b2:List Bool×Int→Bool×Int→Option (Ctl (Ctl (List IT) (List Bool×Int) (List Bool)) (Bool×Int) Bool))
 (hb:∀n s,body n s=bif decide (s.2<(f.words.length:Int))then r5r (r6G (b2 s) n (false,0)) (fun t=>Am.r9F (s.1++[t]) fun c=>chk (c.length*1≤top∧c.length≤top) <| some (.nxt (c,wr .i64 (s.2+1))))else some (.brk s.1))
 (h2:∀(s:List Bool×Int),0≤s.2→s.2<(f.words.length:Int)→Evt (fun n=>r6G (b2 s) n (false,0)) (ExP (fun t=>t=decide (Am.get f.words s.2.toNat∈ar)) (fun _=>False))):
 Evt (fun n=>r6G (body n) n ([],0)) (ExP (fun t=>t=f.words.map fun x=>decide (x∈ar)) (fun _=>False)):=by
 refine Evt.u6u f.words.length (fun k s=>s=((f.words.take k).map (fun x=>decide (x∈ar)),(k:Int))) _ _ (by simp) (fun k s hk hs=>?_) (fun s hs=>?_)
 ·subst hs
  simp only[hb]
  refine Evt.cond (fun _=>Evt.r5r (h2 _ (by simp) (by simpa using hk)) (fun t ht=>Evt.r9F (Evt.chk ?_ (Evt.pure ?_))) (fun _ h=>h.elim)) (fun e=>by replace e:=bx e;omega)
  ·rw[u4e]
   simp only[List.length_append,List.length_map,List.length_take,List.length_cons,List.length_nil]
   omega
  ·have ht:t=decide (Am.get f.words k∈ar):=ht
   show(_,_)=(_,_)
   rw[u0Y (by omega) (by omega),r8p hk,List.map_append,ht]
   rfl
 ·subst hs
  simp only[hb]
  refine Evt.cond (fun e=>by replace e:=bx e;omega) (fun _=>Evt.pure ?_)
  show(f.words.take f.words.length).map _=_
  rw[List.take_length]
theorem x0O{α:Type}[Inhabited α](l:List α)(x y:α)(m:List α):((l++[x])++m).set l.length y=l++y::m∧Am.get ((l++[x])++m) l.length=x:=by
 rw[List.append_assoc]
 refine⟨?_,?_⟩
 ·rw[List.set_append_right _ _ (Nat.le_refl _),Nat.sub_self]
  rfl
 ·unfold Am.get
  rw[List.getD_eq_getElem?_getD,List.getElem?_append_right (Nat.le_refl _)]
  simp
theorem w4H:∀(m:Nat) (f:p6w),SizeOf.sizeOf f≤m→WfF f→∀(ar:List Bs) (l:List IT),l.length+ndF f≤100000→ar.length+ndF f≤100000→
 Evt (fun n=>r5z n f ar l) (fun r=>r=l++u0L f ar l.length):=by
 intro m
 induction m with
 |zero=>intro f h;cases f;simp only[p6w.mk.sizeOf_spec]at h;omega
 |succ m ih=>
  intro f hf hwf ar l hl ha
  have hnd:=w0O f
  have hws:=w2m hwf
  refine Evt.succ ?_
  simp only[r5z]
  refine Evt.r5r (P:=ExP (fun t=>t=f.words.map fun x=>decide (x∈ar)) (fun _=>False)) ?_ (fun t ht=>?_) (fun _ h=>h.elim)
  ·refine w7m f ar hws (by omega) (fun n=>r7W n f ar) (fun s=>r7X ar s f) (fun n s=>rfl) (fun s hs0 hs1=>?_)
   refine w7l ar (Am.get f.words s.2.toNat) _ (fun s2=>u5Z (!s2.1) (0≤s2.2)∧u5Z (!s2.1) (s2.2<(ar.length:Int))) (fun s2=>u5Z (!s2.1) (0≤s.2)∧u5Z (!s2.1) (s.2<(f.words.length:Int))) (fun s2=>rfl) (fun s2 h1 h2=>⟨fun _=>h1,fun _=>h2⟩) (fun _=>⟨fun _=>hs0,fun _=>hs1⟩) (by omega)
  ·have ht:t=_:=ht
   subst ht
   unfold r7Y
   refine Evt.r9F (Evt.chk ?_ ?_)
   ·rw[u4e]
    simp only[List.length_append,List.length_cons,List.length_nil]
    omega
   have key:∀ar':List Bs,ar'=(if QK f.kind then f.name::ar else ar)→Evt (fun n=>r6l (r5z n) n f (l++[⟨f.kind,f.name,f.words,f.words.map fun x=>decide (x∈ar),0⟩]) l ar') (fun r=>r=l++u0L f ar l.length):=by
    intro ar' har
    have hal:ar'.length≤ar.length+1:=by rw[har];split<;>simp
    unfold r6l
    have hsl2:=w3l hwf
    refine Evt.r5r (Evt.u6u f.subs.length (fun k s=>s=((l++[⟨f.kind,f.name,f.words,f.words.map fun x=>decide (x∈ar),0⟩])++u0M (f.subs.take k) ar' (l.length+1),(k:Int))) (fun t=>t=(l++[⟨f.kind,f.name,f.words,f.words.map fun x=>decide (x∈ar),0⟩])++u0M f.subs ar' (l.length+1)) (fun _=>False) (by simp[u0M]) (fun k s hk hs=>?_) (fun s hs=>?_)) (fun t ht=>?_) (fun _ h=>h.elim)
    ·subst hs
     unfold r6W
     have hsz:=u0r hk
     have ht:=u5o hk
     have hrl:=u5n (f.subs.take k) ar' (l.length+1)
     refine Evt.cond (fun _=>Evt.chk (by simp;omega) (Evt.bind (ih _ (by simp only[Int.toNat_natCast];omega) (w0R hwf (by simpa using hk)) ar' _ ?_ ?_) fun v hv=>Evt.pure ?_)) (fun e=>by replace e:=bx e;omega)
     ·simp only[List.length_append,List.length_cons,List.length_nil,hrl,Int.toNat_natCast];omega
     ·simp only[Int.toNat_natCast];omega
     ·subst hv
      show(_,_)=(_,_)
      rw[u0Y (by omega) (by omega),r8p hk,u8C,Int.toNat_natCast,List.append_assoc]
      simp only[List.length_append,List.length_cons,List.length_nil,hrl]
      rfl
    ·subst hs
     unfold r6W
     refine Evt.cond (fun e=>by replace e:=bx e;omega) (fun _=>Evt.pure ?_)
     show _++u0M (f.subs.take f.subs.length) ar' _=_
     rw[List.take_length]
    ·have ht:t=_:=ht
     subst ht
     unfold r7Z
     refine Evt.chk (by simp only[List.length_append,List.length_cons,List.length_nil];omega) (Evt.r9F (Evt.pure ?_))
     obtain⟨h1,h2⟩:=x0O l (⟨f.kind,f.name,f.words,f.words.map fun x=>decide (x∈ar),0⟩:IT) ⟨f.kind,f.name,f.words,f.words.map fun x=>decide (x∈ar),((l.length+ndF f:Nat):Int)⟩ (u0M f.subs ar' (l.length+1))
     rw[h2,w6e, ←har, ←h1]
     congr 2
     simp only[List.length_append,List.length_cons,List.length_nil,u5n]
     omega
   refine Evt.cond (fun e=>?_) (fun e=>key ar ?_)
   ·have hq:QK f.kind:=by
     unfold QK
     by_cases h8:f.kind=8
     ·exact .inl h8
     ·simpa[h8]using e
    refine Evt.r5r (x0N ar (r8a ar) (fun s=>rfl) [f.name] (by simp;omega)) (fun t ht=>?_) (fun _ h=>h.elim)
    have ht:t=_:=ht
    subst ht
    exact key _ (by rw[if_pos hq];rfl)
   ·rw[if_neg]
    unfold QK
    by_cases h8:f.kind=8
    ·simp[h8]at e
    ·simpa[h8]using e
theorem u7U{f:p6w}(hwf:WfF f)(ar:List Bs)(hl:ndF f≤50000)(ha:ar.length≤50000):Evt (fun n=>r6a n f ar) (fun r=>r=u0L f ar 0):=by
 have h:=(w4H _ f (Nat.le_refl _) hwf ar [] (by simp;omega) (by omega)).mono (P':=fun r=>r=u0L f ar 0) fun r hr=>by simpa using hr
 have hnd:=w0O f
 have hws:=w2m hwf
 unfold r6a
 refine Evt.r5r (P:=ExP (fun t=>t=f.words.map fun x=>decide (x∈ar)) (fun _=>False)) ?_ (fun t ht=>?_) (fun _ h=>h.elim)
 ·refine w7m f ar hws (by omega) (fun n=>r8z n f ar) (fun s=>r8A ar s f) (fun n s=>rfl) (fun s hs0 hs1=>?_)
  refine w7l ar (Am.get f.words s.2.toNat) _ (fun s2=>u5Z (!s2.1) (0≤s2.2)∧u5Z (!s2.1) (s2.2<(ar.length:Int))) (fun s2=>u5Z (!s2.1) (0≤s.2)∧u5Z (!s2.1) (s.2<(f.words.length:Int))) (fun s2=>rfl) (fun s2 h1 h2=>⟨fun _=>h1,fun _=>h2⟩) (fun _=>⟨fun _=>hs0,fun _=>hs1⟩) (by omega)
 ·have ht:t=_:=ht
  subst ht
  unfold r8B
  refine Evt.r9F (Evt.chk (by simp[u4e]) ?_)
  have key:∀ar':List Bs,ar'=(if QK f.kind then f.name::ar else ar)→Evt (fun n=>r6I n f [⟨f.kind,f.name,f.words,f.words.map fun x=>decide (x∈ar),0⟩] ar') (fun r=>r=u0L f ar 0):=by
   intro ar' har
   have hal:ar'.length≤ar.length+1:=by rw[har];split<;>simp
   unfold r6I
   have hsl2:=w3l hwf
   refine Evt.r5r (Evt.u6u f.subs.length (fun k s=>s=([⟨f.kind,f.name,f.words,f.words.map fun x=>decide (x∈ar),0⟩]++u0M (f.subs.take k) ar' 1,(k:Int))) (fun t=>t=[⟨f.kind,f.name,f.words,f.words.map fun x=>decide (x∈ar),0⟩]++u0M f.subs ar' 1) (fun _=>False) (by simp[u0M]) (fun k s hk hs=>?_) (fun s hs=>?_)) (fun t ht=>?_) (fun _ h=>h.elim)
   ·subst hs
    unfold r7t
    have ht:=u5o hk
    have hrl:=u5n (f.subs.take k) ar' 1
    refine Evt.cond (fun _=>Evt.chk (by simp;omega) (Evt.bind (w4H _ _ (Nat.le_refl _) (w0R hwf (by simpa using hk)) ar' _ ?_ ?_) fun v hv=>Evt.pure ?_)) (fun e=>by replace e:=bx e;omega)
    ·simp only[List.length_append,List.length_cons,List.length_nil,hrl,Int.toNat_natCast];omega
    ·simp only[Int.toNat_natCast];omega
    ·subst hv
     show(_,_)=(_,_)
     rw[u0Y (by omega) (by omega),r8p hk,u8C,Int.toNat_natCast,List.append_assoc]
     simp only[List.length_append,List.length_cons,List.length_nil,hrl]
     rfl
   ·subst hs
    unfold r7t
    refine Evt.cond (fun e=>by replace e:=bx e;omega) (fun _=>Evt.pure ?_)
    show _++u0M (f.subs.take f.subs.length) ar' _=_
    rw[List.take_length]
   ·have ht:t=_:=ht
    subst ht
    unfold r8C
    refine Evt.chk (by simp only[List.length_append,List.length_cons,List.length_nil];omega) (Evt.r9F (Evt.pure ?_))
    obtain⟨h1,h2⟩:=x0O [] (⟨f.kind,f.name,f.words,f.words.map fun x=>decide (x∈ar),0⟩:IT) ⟨f.kind,f.name,f.words,f.words.map fun x=>decide (x∈ar),((0+ndF f:Nat):Int)⟩ (u0M f.subs ar' 1)
    simp only[List.nil_append,List.length_nil]at h1 h2
    rw[h2,w6e, ←har, ←h1]
    congr 2
    simp only[List.length_append,List.length_cons,List.length_nil,u5n]
    omega
  refine Evt.cond (fun e=>?_) (fun e=>key ar ?_)
  ·have hq:QK f.kind:=by
    unfold QK
    by_cases h8:f.kind=8
    ·exact .inl h8
    ·simpa[h8]using e
   refine Evt.r5r (x0N ar (r8D ar) (fun s=>rfl) [f.name] (by simp;omega)) (fun t ht=>?_) (fun _ h=>h.elim)
   have ht:t=_:=ht
   subst ht
   exact key _ (by rw[if_pos hq];rfl)
  ·rw[if_neg]
   unfold QK
   by_cases h8:f.kind=8
   ·simp[h8]at e
   ·simpa[h8]using e
end Go.Proofs.YtfacbpehlibilaaGreatDoor
