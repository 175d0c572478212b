import Derived.Test.YtdjnbjnlnjhllaaDoorFQLaw0
set_option linter.unusedVariables false
set_option linter.unusedSimpArgs false
namespace Go.Am
open Go
section
variable {σ ρ τ:Type} {body:Nat→σ→Option (Ctl ρ σ τ)} {s s' s'':σ} {e:Ex ρ τ}
def dI(body:Nat→σ→Option (Ctl ρ σ τ))(s s':σ):Prop:=∃k N,∀n,N≤n→∀f,E9 (body n) (f+k) s=E9 (body n) f s'
def jJ(body:Nat→σ→Option (Ctl ρ σ τ))(s:σ)(e:Ex ρ τ):Prop:=∃k N,∀n,N≤n→∀f,E9 (body n) (f+k) s=some e
theorem dI.refl:dI body s s:=⟨0,0,fun _ _ _=>rfl⟩
theorem dI.trans(h:dI body s s')(k:dI body s' s''):dI body s s'':=by
 obtain⟨a,N,h⟩:=h
 obtain⟨b,M,k⟩:=k
 exact⟨b+a,max N M,fun n hn f=>by rw[←Nat.add_assoc,h n (by omega),k n (by omega)]⟩
theorem dI.ends(h:dI body s s')(k:jJ body s' e):jJ body s e:=by
 obtain⟨a,N,h⟩:=h
 obtain⟨b,M,k⟩:=k
 exact⟨b+a,max N M,fun n hn f=>by rw[←Nat.add_assoc,h n (by omega),k n (by omega)]⟩
theorem dI.one(h:Evt (fun n=>body n s) (fun c=>c= .nxt s')):dI body s s':=by
 obtain⟨c,rfl,N,h⟩:=h
 exact⟨1,N,fun n hn f=>by show E9 (body n) (f+1) s=_;simp only[E9,h n hn]⟩
theorem jJ.brk{t:τ}(h:Evt (fun n=>body n s) (fun c=>c= .brk t)):jJ body s (.nxt t):=by
 obtain⟨c,rfl,N,h⟩:=h
 exact⟨1,N,fun n hn f=>by show E9 (body n) (f+1) s=_;simp only[E9,h n hn]⟩
theorem jJ.ret{r:ρ}(h:Evt (fun n=>body n s) (fun c=>c= .ret r)):jJ body s (.ret r):=by
 obtain⟨c,rfl,N,h⟩:=h
 exact⟨1,N,fun n hn f=>by show E9 (body n) (f+1) s=_;simp only[E9,h n hn]⟩
theorem jJ.evt(h:jJ body s e):Evt (fun n=>E9 (body n) n s) (fun x=>x=e):=by
 obtain⟨k,N,h⟩:=h
 exact⟨e,rfl,max N k,fun n hn=>by
  have:=h n (by omega) (n-k)
  rwa[show n-k+k=n by omega]at this⟩
end
end Go.Am
namespace Go.Proofs.YtdjnbjnlnjhllaaDoor
open Go Go.Am
theorem get_mem{α:Type}[Inhabited α]{l:List α}{k:Nat}(h:k<l.length):Am.get l k∈l:=by
 unfold Am.get
 rw[List.getD_eq_getElem?_getD,List.getElem?_eq_getElem h]
 exact List.getElem_mem h
theorem pK{α:Type}[Inhabited α]{l:List α}{k:Nat}(h:k<l.length):l.drop k=Am.get l k::l.drop (k+1):=by
 rw[List.drop_eq_getElem_cons h]
 unfold Am.get
 rw[List.getD_eq_getElem?_getD,List.getElem?_eq_getElem h];rfl
def Live{α:Type}(st:List α×Int×Nat)(l:List α)(c:Int):Prop:=st.1.take st.2.2=l∧st.2.2=l.length∧st.2.1=c
section
variable {α:Type} {st:List α×Int×Nat} {rest:List α} {x:α} {c:Int}
theorem Live.le{l:List α}(h:Live st l c):st.2.2≤st.1.length:=by
 have h1:=congrArg List.length h.1
 rw[List.length_take]at h1
 have h2:=h.2.1
 omega
theorem Live.sp(h:Live st (rest++[x]) c):st.2.2=rest.length+1:=by rw[h.2.1];simp
theorem Live.top[Inhabited α](h:Live st (rest++[x]) c):Am.get st.1 rest.length=x:=by
 have h1:Am.get (st.1.take st.2.2) rest.length=Am.get st.1 rest.length:=AH (by rw[h.sp];omega)
 rw[←h1,h.1]
 exact sV
theorem Live.pop(h:Live st (rest++[x]) c):st.1.take rest.length=rest:=by
 have h1:=congrArg (List.take rest.length) h.1
 rw[List.take_take,List.take_left,h.sp,Nat.min_eq_left (by omega)]at h1
 exact h1
end
theorem ny(s:Bs):Evt (fun n=>K8 n s) (fun b=>b=lx s):=by
 unfold K8
 refine Evt.cond (fun h=>Evt.pure (bg fun hn=>?_).symm) (fun h=>?_)
 ·obtain⟨h1,h2,h3,_⟩:=hn
  replace h:=bx h
  omega
 replace h:=bx h
 refine Evt.y4 (P:=ExP (fun _=>lx s=true) (fun b=>b=false∧lx s=false)) (Evt.loop (fun i:Int=>(s.length-i).toNat) (fun i=>0≤i∧i≤s.length∧∀j:Nat,(j:Int)<i→OkC (C8 s (j:Int))∧(j=0→97≤C8 s 0∧C8 s 0≤122)) _ _ ⟨Int.le_refl _,by omega,fun j hj=>by omega⟩ (fun i hi=>?_)) (fun t ht=>Evt.pure ht.symm) (fun r hr=>by rw[hr.1,hr.2])
 obtain⟨h0,h1,h2⟩:=hi
 unfold R5
 refine Evt.cond (fun e=>?_) (fun e=>Evt.pure ?_)
 ·replace e:=bx e
  have hw:wr .i64 (i+1)=i+1∨True:=.inr trivial
  refine Evt.chk ⟨h0,e⟩ (Evt.cond (fun e2=>Evt.pure ⟨rfl,bg fun hn=>?_⟩) (fun e2=>Evt.pure ?_))
  ·replace e2:=bx e2
   have h3:=hn.2.2.2 i.toNat (by omega)
   rw[show((i.toNat:Nat):Int)=i by omega]at h3
   unfold OkC at h3
   have h4:=hn.2.2.1
   by_cases hi0:i=0
   ·subst hi0;omega
   ·omega
  ·replace e2:=bx e2
   have hl:s.length≤30:=by omega
   rw[T8 (by omega) (by omega)]
   refine⟨⟨by omega,by omega,fun j hj=>?_⟩,by omega⟩
   by_cases ej:(j:Int)=i
   ·rw[ej]
    unfold OkC
    by_cases hi0:i=0
    ·subst hi0
     by_cases hc:97≤C8 s 0∧C8 s 0≤122
     ·exact⟨.inl hc,fun _=>hc⟩
     ·exact absurd rfl (e2 (by omega)).1
    ·exact⟨by omega,fun h=>by omega⟩
   ·exact h2 j (by omega)
 ·replace e:=bx e
  exact kD ⟨by omega,by omega,(h2 0 (by omega)).2 rfl,fun k hk=>(h2 k (by omega)).1⟩
end Go.Proofs.YtdjnbjnlnjhllaaDoor
namespace Go.Am
open Go
theorem Evt.fV{σ ρ τ:Type}{body:Nat→σ→Option (Ctl ρ σ τ)}{s0:σ}(N:Nat)(I:Nat→σ→Prop)(B:τ→Prop)(R:ρ→Prop)(h0:I 0 s0)
 (hs:∀k s,k<N→I k s→Evt (fun n=>body n s) (zC (I (k+1)) B R)) (he:∀s,I N s→Evt (fun n=>body n s) (zC (fun _=>False) B R)):
 Evt (fun n=>E9 (body n) n s0) (ExP B R):=by
 have key:∀j k s,k+j=N→I k s→∃e,ExP B R e∧∃M,∀n,M≤n→∀f,j<f→E9 (body n) f s=some e:=by
  intro j
  induction j with
  |zero=>
   intro k s hk hi
   obtain rfl:k=N:=by omega
   obtain⟨c,hc,M,hM⟩:=he s hi
   cases c with
   |nxt s'=>exact hc.elim
   |brk t=>refine⟨.nxt t,hc,M,fun n hn f hf=>?_⟩;obtain⟨g,rfl⟩:∃g,f=g+1:=⟨f-1,by omega⟩;simp only[E9,hM n hn]
   |ret x=>refine⟨.ret x,hc,M,fun n hn f hf=>?_⟩;obtain⟨g,rfl⟩:∃g,f=g+1:=⟨f-1,by omega⟩;simp only[E9,hM n hn]
  |succ j ih=>
   intro k s hk hi
   obtain⟨c,hc,M,hM⟩:=hs k s (by omega) hi
   cases c with
   |nxt s'=>
    obtain⟨e,he,L,hL⟩:=ih (k+1) s' (by omega) hc
    refine⟨e,he,max M L,fun n hn f hf=>?_⟩
    obtain⟨g,rfl⟩:∃g,f=g+1:=⟨f-1,by omega⟩
    simp only[E9,hM n (by omega)]
    exact hL n (by omega) g (by omega)
   |brk t=>refine⟨.nxt t,hc,M,fun n hn f hf=>?_⟩;obtain⟨g,rfl⟩:∃g,f=g+1:=⟨f-1,by omega⟩;simp only[E9,hM n hn]
   |ret x=>refine⟨.ret x,hc,M,fun n hn f hf=>?_⟩;obtain⟨g,rfl⟩:∃g,f=g+1:=⟨f-1,by omega⟩;simp only[E9,hM n hn]
 obtain⟨e,he,M,hM⟩:=key N 0 s0 (by omega) h0
 exact⟨e,he,max M (N+1),fun n hn=>hM n (by omega) n (by omega)⟩
end Go.Am
namespace Go.Proofs.YtdjnbjnlnjhllaaDoor
open Go Go.Am
def QK(k:Int):Prop:=k=8∨k=9
instance(k:Int):Decidable (QK k):=inferInstanceAs (Decidable (_∨_))
mutual
def ndF:u5→Nat
 | .mk _ _ _ s=>1+aJ s
def aJ:List u5→Nat
 | []=>0
 |x::l=>ndF x+aJ l
end
mutual
def dpF:u5→Nat
 | .mk _ _ _ s=>1+xY s
def xY:List u5→Nat
 | []=>0
 |x::l=>max (dpF x) (xY l)
end
mutual
def nq:u5→Nat
 | .mk k _ _ s=>(if QK k then 1 else 0)+nqL s
def nqL:List u5→Nat
 | []=>0
 |x::l=>nq x+nqL l
end
mutual
def qs:u5→List Bs
 | .mk k n _ s=>(if QK k then [n]else [])++qsL s
def qsL:List u5→List Bs
 | []=>[]
 |x::l=>qs x++qsL l
end
theorem nA(f:u5):ndF f=1+aJ f.subs:=by cases f;rw[ndF];rfl
theorem HY(f:u5):nq f=(if QK f.kind then 1 else 0)+nqL f.subs:=by cases f;rw[nq];rfl
theorem HZ(f:u5):qs f=(if QK f.kind then [f.name]else [])++qsL f.subs:=by cases f;rw[qs];rfl
mutual
theorem oH:∀f:u5,(qs f).length=nq f
 | .mk k n w s=>by rw[qs,nq,List.length_append,sW];split<;>rfl
theorem sW:∀l:List u5,(qsL l).length=nqL l
 | []=>by rw[qsL,nqL];rfl
 |x::l=>by rw[qsL,nqL,List.length_append,oH,sW]
end
mutual
theorem qU:∀f:u5,nq f≤ndF f
 | .mk k n w s=>by
   rw[nq,ndF]
   have:=xZ s
   split<;>omega
theorem xZ:∀l:List u5,nqL l≤aJ l
 | []=>by rw[nqL];omega
 |x::l=>by
  rw[nqL,aJ]
  have h1:=qU x
  have h2:=xZ l
  omega
end
theorem V0{f:u5}{k:Nat}(h:k<f.subs.length):SizeOf.sizeOf (Am.get f.subs k)<SizeOf.sizeOf f:=by
 cases f with
 |mk a b c s=>
  have h2:Am.get s k∈s:=by
   unfold Am.get
   have h3:k<s.length:=h
   rw[List.getD_eq_getElem?_getD,List.getElem?_eq_getElem h3]
   exact List.getElem_mem h3
  have:=List.sizeOf_lt_of_mem h2
  show SizeOf.sizeOf (Am.get s k)<_
  simp only[u5.mk.sizeOf_spec]
  omega
def arF(k:Int):Int:=if k=1∨k=2∨k=3 then 0 else if k=4∨k=8∨k=9 then 1 else if k=5∨k=6∨k=7 then 2 else -1
def cV(k:Int)(n:Nat):Prop:=if k=2 then n≤3 else if k=3 then n=2 else n=0
instance(k:Int)(n:Nat):Decidable (cV k n):=by unfold cV;infer_instance
open Classical in
noncomputable def W9(f:u5):Int:=
 if arF f.kind<0 then 4
 else if(f.subs.length:Int)≠arF f.kind∨¬cV f.kind f.words.length then 9
 else if(f.kind=2∨QK f.kind)∧¬D9 f.name then 10
 else if ¬(f.kind=2∨QK f.kind)∧f.name≠ []then 5
 else if ∃w∈f.words,¬D9 w then 10
 else 0
mutual
noncomputable def kX:u5→Int→Int→Int×Int
 | .mk k n w s,d,b=>if 200<b+1∨40<d then(1,b)else if W9 (.mk k n w s)=0 then cW s (d+1) (b+1)else(W9 (.mk k n w s),b)
noncomputable def cW:List u5→Int→Int→Int×Int
 | [],_,b=>(0,b)
 |x::l,d,b=>if(kX x d b).1=0 then cW l d (kX x d b).2 else kX x d b
end
theorem yc(f:u5)(d b:Int):kX f d b=if 200<b+1∨40<d then(1,b)else if W9 f=0 then cW f.subs (d+1) (b+1)else(W9 f,b):=by
 cases f;rw[kX];rfl
mutual
def WfF:u5→Prop
 | .mk k n w s=>W9 (.mk k n w s)=0∧lO s
def lO:List u5→Prop
 | []=>True
 |x::l=>WfF x∧lO l
end
theorem cR(f:u5):WfF f↔W9 f=0∧lO f.subs:=by cases f;rw[WfF];rfl
theorem N2:∀ {l:List u5},lO l↔ ∀x∈l,WfF x
 | []=>by simp[lO]
 |x::l=>by rw[lO,N2];simp
mutual
theorem sX:∀(f:u5) (d b:Int),(kX f d b).1=0→WfF f∧(kX f d b).2=b+ndF f∧b+ndF f≤200∧d-1+dpF f≤40
 | .mk k n w s,d,b,h=>by
   rw[kX]at h⊢
   split at h
   ·cases h
   ·rename_i h1
    rw[if_neg h1]
    split at h
    ·rename_i h2
     rw[if_pos h2]
     obtain⟨w1,w2,w3,w4⟩:=uj s (d+1) (b+1) h (by omega) (by omega)
     rw[WfF,ndF,dpF]
     refine⟨⟨h2,w1⟩,?_,?_,?_⟩<;>omega
    ·exact absurd h (by assumption)
theorem uj:∀(l:List u5) (d b:Int),(cW l d b).1=0→b≤200→d-1≤40→lO l∧(cW l d b).2=b+aJ l∧b+aJ l≤200∧d-1+xY l≤40
 | [],d,b,_,hb,hd=>by rw[cW,lO,aJ,xY];refine⟨trivial,?_,?_,?_⟩<;>first|omega|(show b=_;omega)
 |x::l,d,b,h,hb,hd=>by
  rw[cW]at h⊢
  split at h
  ·rename_i h1
   rw[if_pos h1]
   obtain⟨w1,w2,w3,w4⟩:=sX x d b h1
   rw[w2]at h⊢
   obtain⟨v1,v2,v3,v4⟩:=uj l d (b+ndF x) h w3 hd
   rw[lO,aJ,xY]
   refine⟨⟨w1,v1⟩,?_,?_,?_⟩<;>omega
  ·exact absurd h (by assumption)
end
mutual
theorem yd:∀(f:u5) (d b:Int),WfF f→b+ndF f≤200→d-1+dpF f≤40→kX f d b=(0,b+ndF f)
 | .mk k n w s,d,b,h1,h2,h3=>by
   rw[WfF]at h1
   rw[ndF]at h2⊢
   rw[dpF]at h3
   rw[kX,if_neg (by omega),if_pos h1.1,um s (d+1) (b+1) h1.2 (by omega) (by omega)]
   congr 1
   omega
theorem um:∀(l:List u5) (d b:Int),lO l→b+aJ l≤200→d-1+xY l≤40→cW l d b=(0,b+aJ l)
 | [],d,b,_,_,_=>by rw[cW,aJ];congr 1;omega
 |x::l,d,b,h1,h2,h3=>by
  rw[lO]at h1
  rw[aJ]at h2⊢
  rw[xY]at h3
  rw[cW,yd x d b h1.1 (by omega) (by omega),if_pos rfl,um l d _ h1.2 (by omega) (by omega)]
  congr 1
  omega
end
def OkF(f:u5):Prop:=WfF f∧ndF f≤200∧dpF f≤40
theorem uo(f:u5):(kX f 1 0).1=0↔OkF f:=by
 refine⟨fun h=>?_,fun h=>?_⟩
 ·obtain⟨h1,h2,h3,h4⟩:=sX f 1 0 h
  exact⟨h1,by omega,by omega⟩
 ·rw[yd f 1 0 h.1 (by have:=h.2.1;omega) (by have:=h.2.2;omega)]
theorem cX{f:u5}(h:W9 f=0):(f.subs.length:Int)=arF f.kind∧cV f.kind f.words.length∧(f.kind=2∨QK f.kind→D9 f.name)∧(¬(f.kind=2∨QK f.kind)→f.name=[])∧∀w∈f.words,D9 w:=by
 unfold W9 at h
 split at h
 ·cases h
 split at h
 ·cases h
 split at h
 ·cases h
 split at h
 ·cases h
 split at h
 ·cases h
 rename_i h1 h2 h3 h4 h5
 refine⟨Classical.byContradiction fun e=>h2 (.inl e),Classical.byContradiction fun e=>h2 (.inr e),fun h=>Classical.byContradiction fun e=>h3 ⟨h,e⟩,fun h=>Classical.byContradiction fun e=>h4 ⟨h,e⟩,fun w hw=>Classical.byContradiction fun e=>h5 ⟨w,hw,e⟩⟩
theorem AJ{f:u5}(h0:0≤arF f.kind)(h1:(f.subs.length:Int)=arF f.kind)(h2:cV f.kind f.words.length)(h3:f.kind=2∨QK f.kind→D9 f.name)(h4:¬(f.kind=2∨QK f.kind)→f.name=[])(h5:∀w∈f.words,D9 w):W9 f=0:=by
 unfold W9
 rw[if_neg (by omega),if_neg (fun h=>h.elim (fun e=>e h1) (fun e=>e h2)),if_neg (fun h=>h.2 (h3 h.1)),if_neg (fun h=>h.2 (h4 h.1)),if_neg (fun⟨w,hw,e⟩=>e (h5 w hw))]
def sub(env:List (Bs×Bs))(w:Bs):Bs:=((env.find? (fun p=>p.1==w)).map (·.2)).getD w
theorem yg(w:Bs):sub [] w=w:=rfl
theorem fW(a b w:Bs)(env:List (Bs×Bs)):sub ((a,b)::env) w=if a=w then b else sub env w:=by
 unfold sub
 rw[List.find?_cons]
 by_cases h:a=w
 ·simp[h]
 ·have:(a==w)=false:=beq_false_of_ne h
  simp[this,h]
theorem yh{env:List (Bs×Bs)}{w:Bs}(h:∀p∈env,p.1≠w):sub env w=w:=by
 induction env with
 |nil=>rfl
 |cons p env ih=>
  obtain⟨a,b⟩:=p
  rw[fW,if_neg (h (a,b) (List.mem_cons_self ..)),ih fun q hq=>h q (List.mem_cons_of_mem _ hq)]
theorem yj{env:List (Bs×Bs)}{w:Bs}(h:w∈env.map (·.1)):sub env w∈env.map (·.2):=by
 induction env with
 |nil=>cases h
 |cons p env ih=>
  obtain⟨a,b⟩:=p
  rw[fW]
  split
  ·exact List.mem_cons_self ..
  ·rename_i hne
   rw[List.map_cons,List.mem_cons]at h
   exact List.mem_cons_of_mem _ (ih (h.resolve_left fun e=>hne e.symm))
mutual
def ren(N:Nat→Bs):u5→List (Bs×Bs)→Nat→u5
 | .mk k n w s,env,i=>.mk k (if QK k then N i else n) (w.map (sub env)) (cM N s (if QK k then(n,N i)::env else env) (i+if QK k then 1 else 0))
def cM(N:Nat→Bs):List u5→List (Bs×Bs)→Nat→List u5
 | [],_,_=>[]
 |x::l,env,i=>ren N x env i::cM N l env (i+nq x)
end
theorem Fw(N:Nat→Bs)(f:u5)(env:List (Bs×Bs))(i:Nat):ren N f env i= .mk f.kind (if QK f.kind then N i else f.name) (f.words.map (sub env)) (cM N f.subs (if QK f.kind then(f.name,N i)::env else env) (i+if QK f.kind then 1 else 0)):=by
 cases f;rw[ren];rfl
theorem lP(N:Nat→Bs):∀(l:List u5) (env:List (Bs×Bs)) (i:Nat),(cM N l env i).length=l.length
 | [],_,_=>by rw[cM]
 |x::l,env,i=>by rw[cM,List.length_cons,List.length_cons,lP N l]
mutual
theorem BL(N:Nat→Bs):∀(f:u5) (env:List (Bs×Bs)) (i:Nat),nq (ren N f env i)=nq f
 | .mk k n w s,env,i=>by rw[ren,nq,nq,yp N s]
theorem yp(N:Nat→Bs):∀(l:List u5) (env:List (Bs×Bs)) (i:Nat),nqL (cM N l env i)=nqL l
 | [],env,i=>by rw[cM]
 |x::l,env,i=>by rw[cM,nqL,nqL,BL N x,yp N l]
end
mutual
theorem BM(N:Nat→Bs):∀(f:u5) (env:List (Bs×Bs)) (i:Nat),ndF (ren N f env i)=ndF f
 | .mk k n w s,env,i=>by rw[ren,ndF,ndF,yq N s]
theorem yq(N:Nat→Bs):∀(l:List u5) (env:List (Bs×Bs)) (i:Nat),aJ (cM N l env i)=aJ l
 | [],env,i=>by rw[cM]
 |x::l,env,i=>by rw[cM,aJ,aJ,BM N x,yq N l]
end
mutual
theorem BN(N:Nat→Bs):∀(f:u5) (env:List (Bs×Bs)) (i:Nat),dpF (ren N f env i)=dpF f
 | .mk k n w s,env,i=>by rw[ren,dpF,dpF,yr N s]
theorem yr(N:Nat→Bs):∀(l:List u5) (env:List (Bs×Bs)) (i:Nat),xY (cM N l env i)=xY l
 | [],env,i=>by rw[cM]
 |x::l,env,i=>by rw[cM,xY,xY,BN N x,yr N l]
end
def nms(N:Nat→Bs):Nat→Nat→List Bs
 | _,0=>[]
 |i,m+1=>N i::nms N (i+1) m
theorem sY(N:Nat→Bs):∀(a b i:Nat),nms N i (a+b)=nms N i a++nms N (i+a) b
 |0,b,i=>by rw[Nat.zero_add];rfl
 |a+1,b,i=>by rw[show a+1+b=(a+b)+1 by omega,nms,nms,sY N a b,List.cons_append,show i+1+a=i+(a+1)by omega]
mutual
theorem Fx(N:Nat→Bs):∀(f:u5) (env:List (Bs×Bs)) (i:Nat),qs (ren N f env i)=nms N i (nq f)
 | .mk k n w s,env,i=>by
   rw[ren,qs,nq,yt N s,sY]
   by_cases h:QK k
   ·simp only[if_pos h];rfl
   ·simp only[if_neg h];rfl
theorem yt(N:Nat→Bs):∀(l:List u5) (env:List (Bs×Bs)) (i:Nat),qsL (cM N l env i)=nms N i (nqL l)
 | [],env,i=>by rw[cM,nqL];rfl
 |x::l,env,i=>by rw[cM,qsL,nqL,Fx N x,yt N l,sY]
end
def Idn(env:List (Bs×Bs)):Prop:=∀p∈env,p.1=p.2
theorem Fy{env:List (Bs×Bs)}(h:Idn env)(w:Bs):sub env w=w:=by
 induction env with
 |nil=>rfl
 |cons p env ih=>
  obtain⟨a,b⟩:=p
  rw[fW,ih fun q hq=>h q (List.mem_cons_of_mem _ hq)]
  split
  ·rename_i e;rw[←e];exact(h (a,b) (List.mem_cons_self ..)).symm
  ·rfl
mutual
theorem yu(N:Nat→Bs):∀(f:u5) (env env':List (Bs×Bs)) (i:Nat),Idn env'→ren N (ren N f env i) env' i=ren N f env i
 | .mk k n w s,env,env',i,h=>by
   have hw:(w.map (sub env)).map (sub env')=w.map (sub env):=by
    conv=>rhs;rw[←List.map_id (w.map (sub env))]
    exact List.map_congr_left fun x _=>Fy h x
   rw[ren,ren,hw]
   by_cases hq:QK k
   ·simp only[if_pos hq]
    rw[pL N s _ _ _ (fun p hp=>by
     rcases List.mem_cons.1 hp with rfl|hp
     ·rfl
     ·exact h p hp)]
   ·simp only[if_neg hq]
    rw[pL N s _ _ _ h]
theorem pL(N:Nat→Bs):∀(l:List u5) (env env':List (Bs×Bs)) (i:Nat),Idn env'→cM N (cM N l env i) env' i=cM N l env i
 | [],env,env',i,h=>by rw[cM,cM]
 |x::l,env,env',i,h=>by
  rw[cM,cM,yu N x _ _ _ h,BL,pL N l _ _ _ h]
end
mutual
def fre:u5→List Bs→Bs→Prop
 | .mk k n w s,bd,x=>(x∈w∧x∉bd)∨gk s (if QK k then n::bd else bd) x
def gk:List u5→List Bs→Bs→Prop
 | [],_,_=>False
 |f::l,bd,x=>fre f bd x∨gk l bd x
end
theorem Fz(f:u5)(bd:List Bs)(x:Bs):fre f bd x↔(x∈f.words∧x∉bd)∨gk f.subs (if QK f.kind then f.name::bd else bd) x:=by cases f;rw[fre];rfl
theorem pN:∀ {l:List u5} {bd:List Bs} {x:Bs},gk l bd x↔ ∃f∈l,fre f bd x
 | [],bd,x=>by simp[gk]
 |f::l,bd,x=>by rw[gk,pN];simp
mutual
theorem CP:∀(f:u5) (bd:List Bs) (x:Bs),fre f bd x→x∉bd
 | .mk k n w s,bd,x,h=>by
   rw[fre]at h
   rcases h with h|h
   ·exact h.2
   ·have:=uq s _ x h
    split at this
    ·exact fun e=>this (List.mem_cons_of_mem _ e)
    ·exact this
theorem uq:∀(l:List u5) (bd:List Bs) (x:Bs),gk l bd x→x∉bd
 | [],bd,x,h=>by rw[gk]at h;exact h.elim
 |f::l,bd,x,h=>by
  rw[gk]at h
  exact h.elim (CP f bd x) (uq l bd x)
end
mutual
theorem yw(N:Nat→Bs)(U:Bs→Prop)(hN:∀i,¬U (N i)):∀(f:u5) (env:List (Bs×Bs)) (i:Nat),(∀x,fre f (env.map (·.1)) x→U x)→(∀p∈env,∃j,p.2=N j)→∀x,fre (ren N f env i) (env.map (·.2)) x↔fre f (env.map (·.1)) x
 | .mk k n w s,env,i,hU,he,x=>by
   have key:∀y∈w,(sub env y∉env.map (·.2)↔y∉env.map (·.1))∧(y∉env.map (·.1)→sub env y=y):=fun y hy=>by
    by_cases hb:y∈env.map (·.1)
    ·exact⟨⟨fun h=>absurd (yj hb) h,fun h=>absurd hb h⟩,fun h=>absurd hb h⟩
    ·have e:sub env y=y:=yh fun p hp e=>hb (List.mem_map.2 ⟨p,hp,e⟩)
     rw[e]
     refine⟨⟨fun _=>hb,fun _ h=>?_⟩,fun _=>rfl⟩
     obtain⟨p,hp,e2⟩:=List.mem_map.1 h
     obtain⟨j,hj⟩:=he p hp
     exact hN j (by rw[←hj,e2];exact hU y (by rw[fre];exact .inl ⟨hy,hb⟩))
   have hs:gk (cM N s (if QK k then(n,N i)::env else env) (i+if QK k then 1 else 0)) (if QK k then N i::env.map (·.2)else env.map (·.2)) x↔gk s (if QK k then n::env.map (·.1)else env.map (·.1)) x:=by
    by_cases hq:QK k
    ·simp only[if_pos hq]
     exact pO N U hN s ((n,N i)::env) (i+1) (fun y hy=>hU y (by rw[fre,if_pos hq];exact .inr hy)) (fun p hp=>by
      rcases List.mem_cons.1 hp with rfl|hp
      ·exact⟨i,rfl⟩
      ·exact he p hp) x
    ·simp only[if_neg hq]
     exact pO N U hN s env _ (fun y hy=>hU y (by rw[fre,if_neg hq];exact .inr hy)) he x
   rw[ren,fre,fre]
   have hn:(if QK k then(if QK k then N i else n)::env.map (·.2)else env.map (·.2))=(if QK k then N i::env.map (·.2)else env.map (·.2)):=by
    by_cases hq:QK k<;>simp[hq]
   rw[hn,hs]
   refine or_congr_left ⟨fun h=>?_,fun h=>?_⟩
   ·obtain⟨h1,h2⟩:=h
    obtain⟨y,hy,rfl⟩:=List.mem_map.1 h1
    have hk:=key y hy
    have hb:=hk.1.1 h2
    rw[hk.2 hb]
    exact⟨hy,hb⟩
   ·have hk:=key x h.1
    have e:=hk.2 h.2
    exact⟨List.mem_map.2 ⟨x,h.1,e⟩,by rw[←e];exact hk.1.2 h.2⟩
theorem pO(N:Nat→Bs)(U:Bs→Prop)(hN:∀i,¬U (N i)):∀(l:List u5) (env:List (Bs×Bs)) (i:Nat),(∀x,gk l (env.map (·.1)) x→U x)→(∀p∈env,∃j,p.2=N j)→∀x,gk (cM N l env i) (env.map (·.2)) x↔gk l (env.map (·.1)) x
 | [],env,i,_,_,x=>by rw[cM];simp[gk]
 |f::l,env,i,hU,he,x=>by
  rw[cM,gk,gk,yw N U hN f env i (fun y hy=>hU y (by rw[gk];exact .inl hy)) he x,pO N U hN l env _ (fun y hy=>hU y (by rw[gk];exact .inr hy)) he x]
end
theorem CQ(k:Int):dJ k=some (arF k):=by
 by_cases h1:k=1
 ·subst h1;rfl
 by_cases h2:k=2
 ·subst h2;rfl
 by_cases h3:k=3
 ·subst h3;rfl
 by_cases h4:k=4
 ·subst h4;rfl
 by_cases h5:k=5
 ·subst h5;rfl
 by_cases h6:k=6
 ·subst h6;rfl
 by_cases h7:k=7
 ·subst h7;rfl
 by_cases h8:k=8
 ·subst h8;rfl
 by_cases h9:k=9
 ·subst h9;rfl
 simp[dJ,X5,X6,X7,arF,h1,h2,h3,h4,h5,h6,h7,h8,h9]
theorem iw(f:u5):D3 f=some (decide (QK f.kind)):=by
 unfold D3 QK
 by_cases h:f.kind=8<;>simp[h]
def vQ(c:Int×Int)(b:Int)(r:w9×Int):Prop:=r.1.code=c.1∧(c.1=0→r=(⟨0,0⟩,c.2)∧b≤c.2∧c.2≤200)∧(c.1≠0→r.1=⟨c.1,c.2⟩)
theorem vQ.bad{c b x:Int}{r:w9×Int}(hc:c≠0)(hr:r.1=⟨c,x⟩):vQ (c,x) b r:=⟨by rw[hr],fun h=>absurd h hc,fun _=>hr⟩
theorem BO(k:Int):arF k≤2:=by unfold arF;repeat' split<;>omega
theorem yx{f:u5}(h:arF f.kind<0):W9 f=4:=by unfold W9;rw[if_pos h]
theorem yA{f:u5}(h0:¬arF f.kind<0)(h:(f.subs.length:Int)≠arF f.kind∨¬cV f.kind f.words.length):W9 f=9:=by unfold W9;rw[if_neg h0,if_pos h]
theorem ur{f:u5}(h0:¬arF f.kind<0)(h1:¬((f.subs.length:Int)≠arF f.kind∨¬cV f.kind f.words.length))(h:(f.kind=2∨QK f.kind)∧¬D9 f.name):W9 f=10:=by unfold W9;rw[if_neg h0,if_neg h1,if_pos h]
theorem yB{f:u5}(h0:¬arF f.kind<0)(h1:¬((f.subs.length:Int)≠arF f.kind∨¬cV f.kind f.words.length))(h2:¬((f.kind=2∨QK f.kind)∧¬D9 f.name))(h:¬(f.kind=2∨QK f.kind)∧f.name≠ []):W9 f=5:=by unfold W9;rw[if_neg h0,if_neg h1,if_neg h2,if_pos h]
open Classical in
theorem yC{f:u5}(h0:¬arF f.kind<0)(h1:¬((f.subs.length:Int)≠arF f.kind∨¬cV f.kind f.words.length))(h2:¬((f.kind=2∨QK f.kind)∧¬D9 f.name))(h3:¬(¬(f.kind=2∨QK f.kind)∧f.name≠ [])):W9 f=if ∃w∈f.words,¬D9 w then 10 else 0:=by unfold W9;rw[if_neg h0,if_neg h1,if_neg h2,if_neg h3]
theorem aK{s:Bs}{b:Bool}(h:b=lx s):b=true↔D9 s:=by
 rw[h];unfold lx;simp
theorem qV{l:List Bs}(h:∀j,j<l.length→D9 (Am.get l j)):¬ ∃w∈l,¬D9 w:=fun⟨w,hw,hn⟩=>by
 obtain⟨j,hj,rfl⟩:=aF.1 hw
 exact hn (h j hj)
theorem yD:∀(m:Nat) (f:u5),SizeOf.sizeOf f≤m→∀d b:Int,0≤d→d≤41→0≤b→b≤200→Evt (fun n=>E5 n f d b false) (vQ (kX f d b) b):=by
 intro m
 induction m with
 |zero=>intro f h;cases f;simp only[u5.mk.sizeOf_spec]at h;omega
 |succ m ih=>
  intro f hf d b hd0 hd hb0 hb
  have hw1:wr .i64 (d+1)=d+1:=T8 (by omega) (by omega)
  have hw2:wr .i64 (b+1)=b+1:=T8 (by omega) (by omega)
  refine Evt.succ ?_
  simp only[E5,hw2,CQ,Option.bind_some]
  rw[yc]
  refine Evt.cond (fun e=>?_) (fun e=>?_)
  ·replace e:=bx e
   rw[if_pos (by omega)]
   exact Evt.pure (vQ.bad (by decide) rfl)
  replace e:=bx e
  rw[if_neg (by omega)]
  have key:Evt (fun n=>S6 (E5 n) b f d false (arF f.kind)) (vQ (if W9 f=0 then cW f.subs (d+1) (b+1)else(W9 f,b)) b):=by
   unfold S6
   refine Evt.cond (fun e=>?_) (fun e=>?_)
   ·replace e:=bx e
    rw[yx e,if_neg (by decide)]
    exact Evt.pure (vQ.bad (by decide) rfl)
   replace e:=bx e
   have e0:¬arF f.kind<0:=by omega
   have k1:∀c:Bool,(c=true↔cV f.kind f.words.length)→Evt (fun n=>N6 (E5 n) f (arF f.kind) b d false c) (vQ (if W9 f=0 then cW f.subs (d+1) (b+1)else(W9 f,b)) b):=by
    intro c hc
    unfold N6
    refine Evt.cond (fun e=>?_) (fun e=>?_)
    ·replace e:=bx e
     rw[yA e0 (by
      rcases e with e|e
      ·exact .inl e
      ·exact .inr fun h=>by rw[hc.2 h]at e;cases e),if_neg (by decide)]
     exact Evt.pure (vQ.bad (by decide) (by simp only[hw2]))
    replace e:=bx e
    have e1:¬((f.subs.length:Int)≠arF f.kind∨¬cV f.kind f.words.length):=fun h=>h.elim (fun h=>h e.1) (fun h=>h (hc.1 e.2))
    have h10:f.kind≠10:=fun h=>by
     rw[h]at e0;exact e0 (by decide)
    simp only[iw]
    refine Evt.bind (P:=fun v=>v=(!(decide (f.kind=2))&&decide (QK f.kind))) (Evt.gd (fun g=>Evt.pure (by replace g:=bx g;simp[g])) (fun g=>by replace g:=bx g;simp[g])) fun v5 hv5=>?_
    have hn:(bif bif decide (f.kind=2)then true else v5 then true else decide (f.kind=10))=decide (f.kind=2∨QK f.kind):=by
     subst hv5
     by_cases h2:f.kind=2<;>simp[h2,h10]
    rw[hn]
    refine Evt.bind (P:=fun v=>(f.kind=2∨QK f.kind)→(v=true↔D9 f.name)) (Evt.gd (fun g=>(iY f.name).mono fun v hv _=>aK hv) (fun g h=>absurd h (by simpa using g))) fun v6 hv6=>?_
    refine Evt.cond (fun e=>?_) (fun e=>?_)
    ·replace e:=bx e
     rw[ur e0 e1 ⟨e.1,fun h=>by rw[(hv6 e.1).2 h]at e;cases e.2⟩,if_neg (by decide)]
     exact Evt.pure (vQ.bad (by decide) (by simp only[hw2]))
    have e2:¬((f.kind=2∨QK f.kind)∧¬D9 f.name):=fun⟨h1,h2⟩=>by
     cases v6 with
     |true=>exact h2 ((hv6 h1).1 rfl)
     |false=>simp[h1]at e
    refine Evt.cond (fun e=>?_) (fun e=>?_)
    ·replace e:=bx e
     rw[yB e0 e1 e2 ⟨by simpa using e.1,e.2⟩,if_neg (by decide)]
     exact Evt.pure (vQ.bad (by decide) (by simp only[hw2]))
    have e3:¬(¬(f.kind=2∨QK f.kind)∧f.name≠ []):=fun⟨h1,h2⟩=>by simp[h1,h2]at e
    have yE:=yC e0 e1 e2 e3
    refine Evt.y4 (Evt.scan (fun k _=>∀j,j<k→D9 (Am.get f.words j)) (fun k r=>r.1=⟨10,b⟩∧∃w∈f.words,¬D9 w) (fun j hj=>absurd hj (Nat.not_lt_zero _)) (fun k u hk hi=>?_)) (fun t ht=>?_) (fun r hr=>?_)
    ·unfold aP
     refine Evt.bind (iY _) fun v hv=>Evt.cond (fun e=>?_) (fun e=>Evt.pure ?_)
     ·replace e:=bx e
      exact Evt.pure ⟨rfl,_,get_mem hk,fun h=>by rw[(aK hv).2 h]at e;cases e⟩
     ·replace e:=bx e
      intro j hj
      by_cases ej:j=k
      ·subst ej;exact(aK hv).1 e
      ·exact hi j (by omega)
    ·have hall:=qV ht
     rw[yE,if_neg hall,if_pos rfl]
     unfold aQ
     rw[hw2]
     have hsl:f.subs.length≤2:=by
      have:=BO f.kind
      have:(f.subs.length:Int)=arF f.kind:=Classical.byContradiction fun h=>e1 (.inl h)
      omega
     refine Evt.y4 (Evt.range (fun k c=>cW (f.subs.drop k) (d+1) c=cW f.subs (d+1) (b+1)∧b+1≤c∧c≤200) (fun _=>False) (fun r=>vQ (cW f.subs (d+1) (b+1)) b r) ⟨rfl,by omega,by omega⟩ (fun k c hk hj=>?_)) (fun t ht=>Evt.pure ?_) (fun r hr=>hr)
     ·obtain⟨h1,h2,h3⟩:=hj
      unfold aR
      have hsz:=V0 hk
      rw[hw1]
      rw[pK hk,cW]at h1
      refine Evt.bind (ih _ (by omega) _ _ (by omega) (by omega) (by omega) h3) fun v hv=>Evt.cond (fun e=>Evt.pure ?_) (fun e=>Evt.pure ?_)
      ·replace e:=bx e
       rw[hv.1]at e
       rw[if_neg e]at h1
       rw[←h1]
       exact⟨hv.1,fun h=>absurd h e,hv.2.2⟩
      ·replace e:=bx e
       rw[hv.1]at e
       rw[if_pos e]at h1
       obtain⟨hv1,hv2,hv3⟩:=hv.2.1 e
       rw[hv1]
       exact⟨h1,by show b+1≤(kX _ _ _).2;omega,hv3⟩
     ·obtain⟨h1,h2,h3⟩:=ht.elim id False.elim
      rw[List.drop_length,cW]at h1
      unfold aS at*
      rw[←h1]
      exact⟨rfl,fun _=>⟨rfl,by show b≤t;omega,h3⟩,fun h=>absurd rfl h⟩
    ·obtain⟨k,_,_,_,h1,h2⟩:=hr
     rw[yE,if_pos h2,if_neg (by decide)]
     exact vQ.bad (by decide) h1
   refine Evt.cond (fun e=>k1 _ ?_) (fun e=>Evt.cond (fun e2=>k1 _ ?_) (fun e2=>k1 _ ?_))
   ·replace e:=bx e
    unfold cV;simp[e];omega
   ·replace e:=bx e;replace e2:=bx e2
    unfold cV;simp[e2];omega
   ·replace e:=bx e;replace e2:=bx e2
    unfold cV;simp[e,e2]
  refine Evt.cond (fun e=>?_) (fun e=>key)
  simp at e
noncomputable def gW(f:u5):w9:=if(kX f 1 0).1=0 then⟨0,0⟩else⟨(kX f 1 0).1,(kX f 1 0).2⟩
theorem bh(f:u5):(gW f).code=0↔OkF f:=by
 rw[←uo]
 unfold gW
 split
 ·simp[*]
 ·simp[*]
theorem jK{f:u5}(h:OkF f):gW f=⟨0,0⟩:=by unfold gW;rw[if_pos ((uo f).2 h)]
theorem bN(f:u5):Evt (fun n=>M7 n f) (fun r=>r=gW f):=by
 unfold M7 eB
 simp only[Option.bind_assoc,Option.bind_some]
 refine Evt.bind (yD _ f (Nat.le_refl _) 1 0 (by omega) (by omega) (by omega) (by omega)) fun v hv=>Evt.pure ?_
 unfold gW
 split
 ·rename_i h;rw[(hv.2.1 h).1]
 ·rename_i h;exact hv.2.2 h
theorem yF(k:Int):Evt (fun _=>M8 k) (fun r=>r=arF k):=by
 unfold M8
 refine Evt.cond (fun e=>Evt.pure ?_) (fun e=>?_)
 ·replace e:=bx e
  unfold arF
  rw[if_neg (by omega),if_neg (by omega),if_neg (by omega)]
 ·replace e:=bx e
  refine Evt.chk (by omega) (Evt.pure ?_)
  have:k=1∨k=2∨k=3∨k=4∨k=5∨k=6∨k=7∨k=8∨k=9:=by omega
  rcases this with rfl|rfl|rfl|rfl|rfl|rfl|rfl|rfl|rfl<;>rfl
abbrev FA:=w5
def fat(d:Int)(f:u5):FA:=⟨f,d⟩
abbrev pP:Nat→List FA×Int×Nat→Option (Ctl w9 (List FA×Int×Nat) Unit):=fun n=>C2 n false
theorem nB(f:u5):W9 f=0→f.subs.length≤2:=fun h=>by
 have h1:=(cX h).1
 have:=BO f.kind
 omega
section
variable {rest:List FA} {f:u5} {d c:Int} {st:List FA×Int×Nat}
theorem CS(gI:Live st (rest++[⟨f,d⟩]) c)(hd0:0≤d)(hd:d≤41)(hc0:0≤c)(hc:c≤200)(hr:(rest.length:Int)≤2*c)(hs:f.subs.length≤2){Q:Ctl w9 (List FA×Int×Nat) Unit→Prop}
 (q:∀st',Live st' (rest++f.subs.reverse.map (fat (d+1))) (c+1)→Q (.nxt st')):Evt (fun n=>y3 n st 0) Q:=by
 have hsp:=gI.sp
 have AK:=gI.top
 have Kc:=gI.pop
 have GA:=gI.2.2
 have hw:wr .i64 ((st.2.2:Int)-1)=(rest.length:Int):=by rw[T8 (by omega) (by omega)];omega
 have hwd:wr .i64 (d+1)=d+1:=T8 (by omega) (by omega)
 have hwc:wr .i64 (st.2.1+1)=c+1:=by rw[GA];exact T8 (by omega) (by omega)
 have hwl:wr .i64 ((f.subs.length:Int)-1)=(f.subs.length:Int)-1:=T8 (by omega) (by omega)
 unfold y3
 refine Evt.cond (fun e=>by simp at e) (fun _=>?_)
 simp only[hw,Int.toNat_natCast,AK,hwl]
 refine Evt.y4 (P:=ExP (fun t=>t.1.take t.2=rest++f.subs.reverse.map (fat (d+1))∧t.2=(rest++f.subs.reverse.map (fat (d+1))).length) (fun _=>False))
  (Evt.loop (fun s:List FA×Int×Nat=>(s.2.1+1).toNat) (fun s=> -1≤s.2.1∧s.2.1<f.subs.length∧s.1.take s.2.2=rest++(f.subs.drop (s.2.1+1).toNat).reverse.map (fat (d+1))∧s.2.2=(rest++(f.subs.drop (s.2.1+1).toNat).reverse.map (fat (d+1))).length) _ _ ?_ (fun s hi=>?_)) (fun t ht=>?_) (fun r hr=>hr.elim)
 ·refine⟨by show -1≤(f.subs.length:Int)-1;omega,by show(f.subs.length:Int)-1<_;omega,?_,?_⟩
  ·show st.1.take rest.length=rest++(f.subs.drop ((f.subs.length:Int)-1+1).toNat).reverse.map (fat (d+1))
   rw[Kc,show((f.subs.length:Int)-1+1).toNat=f.subs.length by omega,List.drop_length]
   simp
  ·show rest.length=(rest++(f.subs.drop ((f.subs.length:Int)-1+1).toNat).reverse.map (fat (d+1))).length
   rw[show((f.subs.length:Int)-1+1).toNat=f.subs.length by omega,List.drop_length]
   simp
 ·obtain⟨l,i,p⟩:=s
  obtain⟨h0,h1,h2,h3⟩:=hi
  simp only at h0 h1 h2 h3
  unfold H9
  simp only[hw,Int.toNat_natCast,AK,hwd]
  refine Evt.cond (fun e=>?_) (fun e=>?_)
  ·replace e:=bx e
   have hil:i.toNat<f.subs.length:=by omega
   have hp:p≤l.length:=by
    have:=congrArg List.length h2
    rw[List.length_take]at this
    omega
   refine Evt.chk ⟨e,h1⟩ (Evt.chk hp (Evt.aB (Evt.chk ?_ (Evt.pure ?_))))
   ·rw[h2,Y4]
    simp only[List.length_append,List.length_map,List.length_reverse,List.length_drop,List.length_cons,List.length_nil]
    omega
   ·have hi1:wr .i64 (i-1)=i-1:=T8 (by omega) (by omega)
    rw[hi1,h2]
    have hd1:f.subs.drop (i-1+1).toNat=Am.get f.subs i.toNat::f.subs.drop (i+1).toNat:=by
     rw[show(i-1+1).toNat=i.toNat by omega,pK hil,show(i+1).toNat=i.toNat+1 by omega]
    refine⟨⟨by show -1≤i-1;omega,by show i-1<_;omega,?_,?_⟩,by show(i-1+1).toNat<(i+1).toNat;omega⟩
    ·show List.take _ _=_
     rw[List.take_length,hd1,List.reverse_cons,List.map_append,List.append_assoc]
     rfl
    ·show List.length _=_
     rw[hd1,List.reverse_cons,List.map_append,List.append_assoc]
     rfl
  ·replace e:=bx e
   have hi:i= -1:=by omega
   subst hi
   refine Evt.pure ⟨?_,?_⟩
   ·simpa using h2
   ·simpa using h3
 ·obtain⟨h1,h2⟩:=ht
  unfold I0
  rw[hwc]
  exact Evt.pure (q _ ⟨h1,h2,rfl⟩)
theorem sZ(gI:Live st (rest++[⟨f,d⟩]) c)(hd0:0≤d)(hd:d≤41)(hc0:0≤c)(hc:c≤200)(hr:(rest.length:Int)≤2*c){Q:Ctl w9 (List FA×Int×Nat) Unit→Prop}
 (q1:200<c+1∨40<d→Q (.ret ⟨1,c⟩)) (q2:¬(200<c+1∨40<d)→W9 f≠0→Q (.ret ⟨W9 f,c⟩)) (q3:¬(200<c+1∨40<d)→W9 f=0→∀st',Live st' (rest++f.subs.reverse.map (fat (d+1))) (c+1)→Q (.nxt st')):
 Evt (fun n=>pP n st) Q:=by
 have hsp:=gI.sp
 have hle:=gI.le
 have AK:=gI.top
 have GA:=gI.2.2
 have hw:wr .i64 ((st.2.2:Int)-1)=(rest.length:Int):=by rw[T8 (by omega) (by omega)];omega
 have DM:∀x:Int,x≠0→Q (.ret ⟨x,c⟩)→Evt (fun n=>y3 n st x) Q:=fun x hx h=>by
  unfold y3
  refine Evt.cond (fun e=>Evt.pure (by rw[GA];exact h)) (fun e=>?_)
  simp[hx]at e
 unfold pP C2
 simp only[hw,Int.toNat_natCast,AK]
 refine Evt.cond (fun _=>?_) (fun e=>by replace e:=bx e;omega)
 refine Evt.chk hle (Evt.chk (by omega) (Evt.chk (by omega) (Evt.bind (yF _) fun v hv=>?_)))
 subst hv
 refine Evt.cond (fun e=>by simp at e) (fun _=>?_)
 have key:∀most least:Int,((f.words.length:Int)<least∨most<(f.words.length:Int)↔ ¬cV f.kind f.words.length)→Evt (fun n=>C4 n st (arF f.kind) (most,least)) Q:=by
  intro most least hwd
  unfold C4
  simp only[hw,Int.toNat_natCast,AK,GA]
  refine Evt.cond (fun e=>DM 1 (by decide) (q1 (by replace e:=bx e;omega))) (fun e=>?_)
  replace e:=bx e
  have hn:¬(200<c+1∨40<d):=by omega
  refine Evt.cond (fun e=>?_) (fun e=>?_)
  ·replace e:=bx e
   have h:=yx e
   exact DM 4 (by decide) (by rw[←h];exact q2 hn (by rw[h];decide))
  have e0:¬arF f.kind<0:=by replace e:=bx e;omega
  refine Evt.cond (fun e=>?_) (fun e=>?_)
  ·replace e:=bx e
   have h:=yA e0 (by
    rcases e with(e|e)|e
    ·exact .inl e
    ·exact .inr (hwd.1 (.inl e))
    ·exact .inr (hwd.1 (.inr e)))
   exact DM 9 (by decide) (by rw[←h];exact q2 hn (by rw[h];decide))
  replace e:=bx e
  have e1:¬((f.subs.length:Int)≠arF f.kind∨¬cV f.kind f.words.length):=fun h=>h.elim (fun h=>h e.1.1) (fun h=>by
   have:=hwd.2 h
   omega)
  have h10:f.kind≠10:=fun h=>by
   rw[h]at e0;exact e0 (by decide)
  have hnm:(bif bif bif decide (f.kind=2)then true else decide (f.kind=8)then true else decide (f.kind=9)then true else decide (f.kind=10))=decide (f.kind=2∨QK f.kind):=by
   unfold QK
   by_cases h2:f.kind=2
   ·simp[h2]
   ·by_cases h8:f.kind=8
    ·simp[h8]
    ·by_cases h9:f.kind=9
     ·simp[h9]
     ·simp[h2,h8,h9,h10]
  rw[hnm]
  refine Evt.bind (P:=fun v=>(f.kind=2∨QK f.kind)→(v=true↔D9 f.name)) (Evt.gd (fun g=>(ny f.name).mono fun v hv _=>aK hv) (fun g h=>absurd h (by simpa using g))) fun v6 hv6=>?_
  refine Evt.cond (fun e=>?_) (fun e=>?_)
  ·replace e:=bx e
   have h:=ur e0 e1 ⟨e.1,fun h=>by rw[(hv6 e.1).2 h]at e;cases e.2⟩
   exact DM 10 (by decide) (by rw[←h];exact q2 hn (by rw[h];decide))
  have e2:¬((f.kind=2∨QK f.kind)∧¬D9 f.name):=fun⟨h1,h2⟩=>by
   cases v6 with
   |true=>exact h2 ((hv6 h1).1 rfl)
   |false=>simp[h1]at e
  refine Evt.cond (fun e=>?_) (fun e=>?_)
  ·replace e:=bx e
   have h:=yB e0 e1 e2 ⟨by simpa using e.1,e.2⟩
   exact DM 5 (by decide) (by rw[←h];exact q2 hn (by rw[h];decide))
  have e3:¬(¬(f.kind=2∨QK f.kind)∧f.name≠ []):=fun⟨h1,h2⟩=>by simp[h1,h2]at e
  have yE:=yC e0 e1 e2 e3
  refine Evt.y4 (P:=ExP (fun t:Int=>t=W9 f) (fun _=>False)) ((Evt.range (fun k s=>(s=0∧∀j,j<k→D9 (Am.get f.words j))∨(s=10∧∃w∈f.words,¬D9 w)) (fun _=>False) (fun _=>False) (.inl ⟨rfl,fun j hj=>absurd hj (Nat.not_lt_zero _)⟩) (fun k s hk hi=>?_)).mono fun x hx=>?_) (fun t ht=>?_) (fun r hr=>hr.elim)
  ·unfold I3
   simp only[hw,Int.toNat_natCast,AK]
   refine Evt.bind (ny _) fun v hv=>Evt.cond (fun e=>Evt.pure (.inr ⟨rfl,_,get_mem hk,fun h=>?_⟩)) (fun e=>Evt.pure ?_)
   ·replace e:=bx e
    rw[(aK hv).2 h]at e;cases e
   ·replace e:=bx e
    rcases hi with⟨h1,h2⟩|h
    ·refine .inl ⟨h1,fun j hj=>?_⟩
     by_cases ej:j=k
     ·subst ej;exact(aK hv).1 e
     ·exact h2 j (by omega)
    ·exact .inr h
  ·cases x with
   |ret r=>exact hx
   |nxt t=>
    rcases hx.elim id False.elim with⟨h1,h2⟩|⟨h1,h2⟩
    ·show t=W9 f
     rw[yE,if_neg (qV h2)];exact h1
    ·show t=W9 f
     rw[yE,if_pos h2];exact h1
  ·have ht:t=W9 f:=ht
   subst ht
   unfold I4
   by_cases h0:W9 f=0
   ·rw[h0]
    exact CS gI hd0 hd hc0 hc hr (nB f h0) (q3 hn h0)
   ·exact DM _ h0 (q2 hn h0)
 unfold E0
 simp only[hw,Int.toNat_natCast,AK]
 refine Evt.cond (fun e=>?_) (fun e=>?_)
 ·replace e:=bx e
  unfold C5
  simp only[hw,Int.toNat_natCast,AK]
  refine Evt.cond (fun e2=>by replace e2:=bx e2;omega) (fun e2=>key _ _ ?_)
  have hw3:cV f.kind f.words.length↔f.words.length≤3:=by unfold cV;simp[e]
  rw[hw3];omega
 ·replace e:=bx e
  unfold C5
  simp only[hw,Int.toNat_natCast,AK]
  refine Evt.cond (fun e2=>key _ _ ?_) (fun e2=>key _ _ ?_)
  ·replace e2:=bx e2
   have hw3:cV f.kind f.words.length↔f.words.length=2:=by unfold cV;simp[e2]
   rw[hw3];omega
  ·replace e2:=bx e2
   have hw3:cV f.kind f.words.length↔f.words.length=0:=by unfold cV;simp[e,e2]
   rw[hw3];omega
end
theorem CT(f:u5)(d b:Int)(h:(kX f d b).1=0):b≤(kX f d b).2∧(kX f d b).2≤200:=by
 obtain⟨_,h2,h3,_⟩:=sX f d b h
 omega
theorem vG:∀(m:Nat) (f:u5),SizeOf.sizeOf f≤m→∀(rest:List FA) (d c:Int) (st:List FA×Int×Nat),Live st (rest++[⟨f,d⟩]) c→0≤d→d≤41→(rest.length:Int)≤2*c→0≤c→c≤200→
 ((kX f d c).1=0→∃st',Live st' rest (kX f d c).2∧dI pP st st')∧((kX f d c).1≠0→jJ pP st (.ret ⟨(kX f d c).1,(kX f d c).2⟩)):=by
 intro m
 induction m with
 |zero=>intro f h;cases f;simp only[u5.mk.sizeOf_spec]at h;omega
 |succ m ih=>
  intro f hf rest d c st gI hd0 hd hr hc0 hc
  rw[yc]
  by_cases h1:200<c+1∨40<d
  ·rw[if_pos h1]
   exact⟨fun h=>absurd (show(1:Int)=0 from h) (by decide),fun _=>jJ.ret (sZ gI hd0 hd hc0 hc hr (fun _=>rfl) (fun h=>absurd h1 h) (fun h=>absurd h1 h))⟩
  rw[if_neg h1]
  by_cases h2:W9 f=0
  ·rw[if_pos h2]
   have parts:∀(l:List u5),(∀x∈l,SizeOf.sizeOf x≤m)→∀(c:Int) (st:List FA×Int×Nat),Live st (rest++l.reverse.map (fat (d+1))) c→(rest.length:Int)+l.length≤2*c+1→0≤c→c≤200→
    ((cW l (d+1) c).1=0→∃st',Live st' rest (cW l (d+1) c).2∧dI pP st st')∧((cW l (d+1) c).1≠0→jJ pP st (.ret ⟨(cW l (d+1) c).1,(cW l (d+1) c).2⟩)):=by
    intro l
    induction l with
    |nil=>
     intro _ c st hl _ _ _
     rw[cW]
     refine⟨fun _=>⟨st,by simpa using hl,dI.refl⟩,fun h=>absurd rfl h⟩
    |cons x l ihl=>
     intro hx c st hl hr hc0 hc
     have hl2:Live st ((rest++l.reverse.map (fat (d+1)))++[⟨x,d+1⟩]) c:=by
      rw[List.reverse_cons,List.map_append, ←List.append_assoc]at hl
      exact hl
     simp only[List.length_cons]at hr
     have i0:=ih x (hx x (List.mem_cons_self ..)) _ (d+1) c st hl2 (by omega) (by omega) (by simp only[List.length_append,List.length_map,List.length_reverse];omega) hc0 hc
     rw[cW]
     by_cases h0:(kX x (d+1) c).1=0
     ·rw[if_pos h0]
      have hbd:=CT x (d+1) c h0
      obtain⟨st',hl3,hst⟩:=i0.1 h0
      have i1:=ihl (fun y hy=>hx y (List.mem_cons_of_mem _ hy)) _ st' hl3 (by omega) (by omega) hbd.2
      refine⟨fun h=>?_,fun h=>hst.ends (i1.2 h)⟩
      obtain⟨vR,hl4,Kd⟩:=i1.1 h
      exact⟨vR,hl4,hst.trans Kd⟩
     ·rw[if_neg h0]
      exact⟨fun h=>absurd h h0,fun _=>i0.2 h0⟩
   have hsz:∀x∈f.subs,SizeOf.sizeOf x≤m:=fun x hx=>by
    obtain⟨j,hj,rfl⟩:=aF.1 hx
    have:=V0 hj
    omega
   have hs2:=nB f h2
   obtain⟨c1,⟨st',rfl,hl'⟩,hN⟩:=sZ (Q:=fun c'=>∃st',c'= .nxt st'∧Live st' (rest++f.subs.reverse.map (fat (d+1))) (c+1)) gI hd0 hd hc0 hc hr (fun h=>absurd h h1) (fun _ h=>absurd h2 h) (fun _ _ st' h=>⟨st',rfl,h⟩)
   have hstep:dI pP st st':=dI.one ⟨_,rfl,hN⟩
   have ip:=parts f.subs hsz (c+1) st' hl' (by omega) (by omega) (by omega)
   refine⟨fun h=>?_,fun h=>hstep.ends (ip.2 h)⟩
   obtain⟨vR,h4,h5⟩:=ip.1 h
   exact⟨vR,h4,hstep.trans h5⟩
  ·rw[if_neg h2]
   exact⟨fun h=>absurd h h2,fun _=>jJ.ret (sZ (Q:=fun c'=>c'= .ret ⟨W9 f,c⟩) gI hd0 hd hc0 hc hr (fun h=>absurd h h1) (fun _ _=>rfl) (fun _ h=>absurd h h2))⟩
theorem qW(f:u5):Evt (fun n=>H6 n f) (fun r=>r=gW f):=by
 unfold H6
 refine Evt.bind (P:=fun r=>r=gW f) ?_ fun v hv=>Evt.pure hv
 unfold N3
 have h:=vG _ f (Nat.le_refl _) [] 1 0 ([(w5.mk f 1)],0,1) ⟨rfl,rfl,rfl⟩ (by omega) (by omega) (by simp) (by omega) (by omega)
 unfold gW
 by_cases h0:(kX f 1 0).1=0
 ·rw[if_pos h0]
  obtain⟨st',hl,hst⟩:=h.1 h0
  have hend:jJ pP st' (.nxt ()):=jJ.brk (by
   have:=hl.2.1
   unfold pP C2
   refine Evt.cond (fun e=>?_) (fun _=>Evt.pure rfl)
   replace e:=bx e
   have h2:st'.2.2=0:=this
   omega)
  exact Evt.y4 (hst.ends hend).evt (fun t ht=>Evt.pure rfl) (fun r hr=>by cases hr)
 ·rw[if_neg h0]
  exact Evt.y4 (h.2 h0).evt (fun t ht=>by cases ht) (fun r hr=>by cases hr;rfl)
theorem F3{α:Type}[Inhabited α]{l:List α}{k:Nat}(h:k<l.length):l.take (k+1)=l.take k++[Am.get l k]:=by
 rw[List.take_add_one,List.getElem?_eq_getElem h]
 simp[Am.get,h]
theorem yG{ρ:Type}(xs:List Bs)(body:List Bs×Int→Option (Ctl ρ (List Bs×Int) (List Bs)))
 (hb:∀s,body s=bif decide (s.2<(xs.length:Int))then chk (0≤s.2∧s.2<(xs.length:Int)) <| Am.aB (s.1++[Am.get xs s.2.toNat]) fun c=>chk (c.length*16≤top∧c.length≤top) <| some (.nxt (c,wr .i64 (s.2+1)))else some (.brk s.1))
 (l0:List Bs) (h:l0.length+xs.length≤1000000):Evt (fun n=>E9 body n (l0,0)) (ExP (fun t=>t=l0++xs) (fun _:ρ=>False)):=by
 refine Evt.fV xs.length (fun k s=>s=(l0++xs.take k,(k:Int))) _ _ (by simp) (fun k s hk hs=>?_) (fun s hs=>?_)
 ·subst hs
  rw[hb]
  refine Evt.cond (fun _=>Evt.chk (by omega) (Evt.aB (Evt.chk ?_ (Evt.pure ?_)))) (fun e=>by replace e:=bx e;omega)
  ·rw[Y4]
   simp only[List.length_append,List.length_take,List.length_cons,List.length_nil]
   omega
  ·show(_,_)=(_,_)
   rw[T8 (by omega) (by omega),F3 hk,List.append_assoc]
   rfl
 ·subst hs
  rw[hb]
  refine Evt.cond (fun e=>by replace e:=bx e;omega) (fun _=>Evt.pure ?_)
  show l0++xs.take xs.length=_
  rw[List.take_length]
abbrev IT:=u6
mutual
def cF:u5→List Bs→Nat→List IT
 | .mk k n w s,ar,b=>⟨k,n,w,w.map (fun x=>decide (x∈ar)),((b+(1+aJ s):Nat):Int)⟩::aL s (if QK k then n::ar else ar) (b+1)
def aL:List u5→List Bs→Nat→List IT
 | [],_,_=>[]
 |x::l,ar,b=>cF x ar b++aL l ar (b+ndF x)
end
theorem yH(f:u5)(ar:List Bs)(b:Nat):cF f ar b=⟨f.kind,f.name,f.words,f.words.map (fun x=>decide (x∈ar)),((b+ndF f:Nat):Int)⟩::aL f.subs (if QK f.kind then f.name::ar else ar) (b+1):=by
 cases f;rw[cF,ndF];rfl
mutual
theorem fX:∀(f:u5) (ar:List Bs) (b:Nat),(cF f ar b).length=ndF f
 | .mk k n w s,ar,b=>by rw[cF,ndF,List.length_cons,fz s];omega
theorem fz:∀(l:List u5) (ar:List Bs) (b:Nat),(aL l ar b).length=aJ l
 | [],_,_=>by rw[aL,aJ];rfl
 |x::l,ar,b=>by rw[aL,aJ,List.length_append,fX x,fz l]
end
theorem jL:∀(l:List u5) (x:u5),aJ (l++[x])=aJ l+ndF x
 | [],x=>by simp[aJ]
 |a::l,x=>by rw[List.cons_append,aJ,aJ,jL l x];omega
theorem uw:∀(l m:List u5),aJ (l++m)=aJ l+aJ m
 | [],m=>by simp[aJ]
 |a::l,m=>by rw[List.cons_append,aJ,aJ,uw l m];omega
theorem kE:∀(l:List u5) (x:u5) (ar:List Bs) (b:Nat),aL (l++[x]) ar b=aL l ar b++cF x ar (b+aJ l)
 | [],x,ar,b=>by simp[aL,aJ]
 |a::l,x,ar,b=>by rw[List.cons_append,aL,aL,aJ,kE l x,List.append_assoc,Nat.add_assoc]
theorem dK{l:List u5}{k:Nat}(h:k<l.length):aJ (l.take k)+ndF (Am.get l k)≤aJ l:=by
 have e:l=(l.take k++[Am.get l k])++l.drop (k+1):=by
  rw[List.append_assoc,List.singleton_append, ←pK h];exact(List.take_append_drop k l).symm
 have h2:aJ l=aJ (l.take k)+ndF (Am.get l k)+aJ (l.drop (k+1)):=by
  conv=>lhs;rw[e]
  rw[uw,jL]
 omega
theorem nC{f:u5}(h:WfF f):f.words.length≤3:=by
 have h2:=(cX ((cR f).1 h).1).2.1
 unfold cV at h2
 split at h2
 ·exact h2
 ·split at h2<;>omega
theorem jM{f:u5}(h:WfF f){k:Nat}(hk:k<f.subs.length):WfF (Am.get f.subs k):=N2.1 ((cR f).1 h).2 _ (get_mem hk)
theorem nD{f:u5}(h:WfF f):f.subs.length≤2:=nB f ((cR f).1 h).1
theorem ux(ar:List Bs)(x:Bs)(body:Bool×Int→Option (Ctl (Ctl (List IT) (List Bool×Int) (List Bool)) (Bool×Int) Bool))(p q:Bool×Int→Prop)[∀s,Decidable (p s)][∀s,Decidable (q s)]
 (hb:∀s,body s=bif decide (s.2<(ar.length:Int))then chk (p s) <| chk (q s) <| some (.nxt (bif s.1 then true else decide (Am.get ar s.2.toNat=x),wr .i64 (s.2+1)))else some (.brk s.1))
 (hp:∀s,0≤s.2→s.2<(ar.length:Int)→p s) (hq:∀s,q s) (h:ar.length≤1000000):Evt (fun n=>E9 body n (false,0)) (ExP (fun t=>t=decide (x∈ar)) (fun _=>False)):=by
 refine Evt.fV ar.length (fun k s=>s=(decide (x∈ar.take k),(k:Int))) _ _ (by simp) (fun k s hk hs=>?_) (fun s hs=>?_)
 ·subst hs
  rw[hb]
  refine Evt.cond (fun _=>Evt.chk (hp _ (by simp) (by simpa using hk)) (Evt.chk (hq _) (Evt.pure ?_))) (fun e=>by replace e:=bx e;omega)
  show(_,_)=(_,_)
  rw[T8 (by omega) (by omega),F3 hk,Int.toNat_natCast]
  congr 1
  by_cases h1:x∈ar.take k
  ·simp[h1]
  ·by_cases h2:Am.get ar k=x
   ·simp[h2]
   ·simp only[h1,h2,List.mem_append,List.mem_singleton,false_or,decide_false,cond_false]
    exact(decide_eq_false fun e=>h2 e.symm).symm
 ·subst hs
  rw[hb]
  refine Evt.cond (fun e=>by replace e:=bx e;omega) (fun _=>Evt.pure ?_)
  show decide (x∈ar.take ar.length)=_
  rw[List.take_length]
theorem uy(f:u5)(ar:List Bs)(hw:f.words.length≤3)(ha:ar.length≤1000000)(body:Nat→List Bool×Int→Option (Ctl (List IT) (List Bool×Int) (List Bool)))(b2:List Bool×Int→Bool×Int→Option (Ctl (Ctl (List IT) (List Bool×Int) (List Bool)) (Bool×Int) Bool))
 (hb:∀n s,body n s=bif decide (s.2<(f.words.length:Int))then y4 (E9 (b2 s) n (false,0)) (fun t=>Am.aB (s.1++[t]) fun c=>chk (c.length*1≤top∧c.length≤top) <| some (.nxt (c,wr .i64 (s.2+1))))else some (.brk s.1))
 (h2:∀(s:List Bool×Int),0≤s.2→s.2<(f.words.length:Int)→Evt (fun n=>E9 (b2 s) n (false,0)) (ExP (fun t=>t=decide (Am.get f.words s.2.toNat∈ar)) (fun _=>False))):
 Evt (fun n=>E9 (body n) n ([],0)) (ExP (fun t=>t=f.words.map fun x=>decide (x∈ar)) (fun _=>False)):=by
 refine Evt.fV f.words.length (fun k s=>s=((f.words.take k).map (fun x=>decide (x∈ar)),(k:Int))) _ _ (by simp) (fun k s hk hs=>?_) (fun s hs=>?_)
 ·subst hs
  simp only[hb]
  refine Evt.cond (fun _=>Evt.y4 (h2 _ (by simp) (by simpa using hk)) (fun t ht=>Evt.aB (Evt.chk ?_ (Evt.pure ?_))) (fun _ h=>h.elim)) (fun e=>by replace e:=bx e;omega)
  ·rw[Y4]
   simp only[List.length_append,List.length_map,List.length_take,List.length_cons,List.length_nil]
   omega
  ·have ht:t=decide (Am.get f.words k∈ar):=ht
   show(_,_)=(_,_)
   rw[T8 (by omega) (by omega),F3 hk,List.map_append,ht]
   rfl
 ·subst hs
  simp only[hb]
  refine Evt.cond (fun e=>by replace e:=bx e;omega) (fun _=>Evt.pure ?_)
  show(f.words.take f.words.length).map _=_
  rw[List.take_length]
theorem yI{α:Type}[Inhabited α](l:List α)(x y:α)(m:List α):((l++[x])++m).set l.length y=l++y::m∧Am.get ((l++[x])++m) l.length=x:=by
 rw[List.append_assoc]
 refine⟨?_,?_⟩
 ·rw[List.set_append_right _ _ (Nat.le_refl _),Nat.sub_self]
  rfl
 ·unfold Am.get
  rw[List.getD_eq_getElem?_getD,List.getElem?_append_right (Nat.le_refl _)]
  simp
theorem qX:∀(m:Nat) (f:u5),SizeOf.sizeOf f≤m→WfF f→∀(ar:List Bs) (l:List IT),l.length+ndF f≤100000→ar.length+ndF f≤100000→
 Evt (fun n=>y8 n f ar l) (fun r=>r=l++cF f ar l.length):=by
 intro m
 induction m with
 |zero=>intro f h;cases f;simp only[u5.mk.sizeOf_spec]at h;omega
 |succ m ih=>
  intro f hf hwf ar l hl ha
  have hnd:=nA f
  have hws:=nC hwf
  refine Evt.succ ?_
  simp only[y8]
  refine Evt.y4 (P:=ExP (fun t=>t=f.words.map fun x=>decide (x∈ar)) (fun _=>False)) ?_ (fun t ht=>?_) (fun _ h=>h.elim)
  ·refine uy f ar hws (by omega) (fun n=>L2 n f ar) (fun s=>L3 ar s f) (fun n s=>rfl) (fun s hs0 hs1=>?_)
   refine ux ar (Am.get f.words s.2.toNat) _ (fun s2=>fJ (!s2.1) (0≤s2.2)∧fJ (!s2.1) (s2.2<(ar.length:Int))) (fun s2=>fJ (!s2.1) (0≤s.2)∧fJ (!s2.1) (s.2<(f.words.length:Int))) (fun s2=>rfl) (fun s2 h1 h2=>⟨fun _=>h1,fun _=>h2⟩) (fun _=>⟨fun _=>hs0,fun _=>hs1⟩) (by omega)
  ·have ht:t=_:=ht
   subst ht
   unfold L4
   refine Evt.aB (Evt.chk ?_ ?_)
   ·rw[Y4]
    simp only[List.length_append,List.length_cons,List.length_nil]
    omega
   have key:∀ar':List Bs,ar'=(if QK f.kind then f.name::ar else ar)→Evt (fun n=>D4 (y8 n) n f (l++[⟨f.kind,f.name,f.words,f.words.map fun x=>decide (x∈ar),0⟩]) l ar') (fun r=>r=l++cF f ar l.length):=by
    intro ar' har
    have hal:ar'.length≤ar.length+1:=by rw[har];split<;>simp
    unfold D4
    have hsl2:=nD hwf
    refine Evt.y4 (Evt.fV f.subs.length (fun k s=>s=((l++[⟨f.kind,f.name,f.words,f.words.map fun x=>decide (x∈ar),0⟩])++aL (f.subs.take k) ar' (l.length+1),(k:Int))) (fun t=>t=(l++[⟨f.kind,f.name,f.words,f.words.map fun x=>decide (x∈ar),0⟩])++aL f.subs ar' (l.length+1)) (fun _=>False) (by simp[aL]) (fun k s hk hs=>?_) (fun s hs=>?_)) (fun t ht=>?_) (fun _ h=>h.elim)
    ·subst hs
     unfold F8
     have hsz:=V0 hk
     have ht:=dK hk
     have hrl:=fz (f.subs.take k) ar' (l.length+1)
     refine Evt.cond (fun _=>Evt.chk (by simp;omega) (Evt.bind (ih _ (by simp only[Int.toNat_natCast];omega) (jM hwf (by simpa using hk)) ar' _ ?_ ?_) fun v hv=>Evt.pure ?_)) (fun e=>by replace e:=bx e;omega)
     ·simp only[List.length_append,List.length_cons,List.length_nil,hrl,Int.toNat_natCast];omega
     ·simp only[Int.toNat_natCast];omega
     ·subst hv
      show(_,_)=(_,_)
      rw[T8 (by omega) (by omega),F3 hk,kE,Int.toNat_natCast,List.append_assoc]
      simp only[List.length_append,List.length_cons,List.length_nil,hrl]
      rfl
    ·subst hs
     unfold F8
     refine Evt.cond (fun e=>by replace e:=bx e;omega) (fun _=>Evt.pure ?_)
     show _++aL (f.subs.take f.subs.length) ar' _=_
     rw[List.take_length]
    ·have ht:t=_:=ht
     subst ht
     unfold L5
     refine Evt.chk (by simp only[List.length_append,List.length_cons,List.length_nil];omega) (Evt.aB (Evt.pure ?_))
     obtain⟨h1,h2⟩:=yI l (⟨f.kind,f.name,f.words,f.words.map fun x=>decide (x∈ar),0⟩:IT) ⟨f.kind,f.name,f.words,f.words.map fun x=>decide (x∈ar),((l.length+ndF f:Nat):Int)⟩ (aL f.subs ar' (l.length+1))
     rw[h2,yH, ←har, ←h1]
     congr 2
     simp only[List.length_append,List.length_cons,List.length_nil,fz]
     omega
   refine Evt.cond (fun e=>?_) (fun e=>key ar ?_)
   ·have hq:QK f.kind:=by
     unfold QK
     by_cases h8:f.kind=8
     ·exact .inl h8
     ·simpa[h8]using e
    refine Evt.y4 (yG ar (L6 ar) (fun s=>rfl) [f.name] (by simp;omega)) (fun t ht=>?_) (fun _ h=>h.elim)
    have ht:t=_:=ht
    subst ht
    exact key _ (by rw[if_pos hq];rfl)
   ·rw[if_neg]
    unfold QK
    by_cases h8:f.kind=8
    ·simp[h8]at e
    ·simpa[h8]using e
theorem AL{f:u5}(hwf:WfF f)(ar:List Bs)(hl:ndF f≤50000)(ha:ar.length≤50000):Evt (fun n=>O4 n f ar) (fun r=>r=cF f ar 0):=by
 have h:=(qX _ f (Nat.le_refl _) hwf ar [] (by simp;omega) (by omega)).mono (P':=fun r=>r=cF f ar 0) fun r hr=>by simpa using hr
 have hnd:=nA f
 have hws:=nC hwf
 unfold O4
 refine Evt.y4 (P:=ExP (fun t=>t=f.words.map fun x=>decide (x∈ar)) (fun _=>False)) ?_ (fun t ht=>?_) (fun _ h=>h.elim)
 ·refine uy f ar hws (by omega) (fun n=>O6 n f ar) (fun s=>O7 ar s f) (fun n s=>rfl) (fun s hs0 hs1=>?_)
  refine ux ar (Am.get f.words s.2.toNat) _ (fun s2=>fJ (!s2.1) (0≤s2.2)∧fJ (!s2.1) (s2.2<(ar.length:Int))) (fun s2=>fJ (!s2.1) (0≤s.2)∧fJ (!s2.1) (s.2<(f.words.length:Int))) (fun s2=>rfl) (fun s2 h1 h2=>⟨fun _=>h1,fun _=>h2⟩) (fun _=>⟨fun _=>hs0,fun _=>hs1⟩) (by omega)
 ·have ht:t=_:=ht
  subst ht
  unfold O8
  refine Evt.aB (Evt.chk (by simp[Y4]) ?_)
  have key:∀ar':List Bs,ar'=(if QK f.kind then f.name::ar else ar)→Evt (fun n=>E6 n f [⟨f.kind,f.name,f.words,f.words.map fun x=>decide (x∈ar),0⟩] ar') (fun r=>r=cF f ar 0):=by
   intro ar' har
   have hal:ar'.length≤ar.length+1:=by rw[har];split<;>simp
   unfold E6
   have hsl2:=nD hwf
   refine Evt.y4 (Evt.fV f.subs.length (fun k s=>s=([⟨f.kind,f.name,f.words,f.words.map fun x=>decide (x∈ar),0⟩]++aL (f.subs.take k) ar' 1,(k:Int))) (fun t=>t=[⟨f.kind,f.name,f.words,f.words.map fun x=>decide (x∈ar),0⟩]++aL f.subs ar' 1) (fun _=>False) (by simp[aL]) (fun k s hk hs=>?_) (fun s hs=>?_)) (fun t ht=>?_) (fun _ h=>h.elim)
   ·subst hs
    unfold J3
    have ht:=dK hk
    have hrl:=fz (f.subs.take k) ar' 1
    refine Evt.cond (fun _=>Evt.chk (by simp;omega) (Evt.bind (qX _ _ (Nat.le_refl _) (jM hwf (by simpa using hk)) ar' _ ?_ ?_) fun v hv=>Evt.pure ?_)) (fun e=>by replace e:=bx e;omega)
    ·simp only[List.length_append,List.length_cons,List.length_nil,hrl,Int.toNat_natCast];omega
    ·simp only[Int.toNat_natCast];omega
    ·subst hv
     show(_,_)=(_,_)
     rw[T8 (by omega) (by omega),F3 hk,kE,Int.toNat_natCast,List.append_assoc]
     simp only[List.length_append,List.length_cons,List.length_nil,hrl]
     rfl
   ·subst hs
    unfold J3
    refine Evt.cond (fun e=>by replace e:=bx e;omega) (fun _=>Evt.pure ?_)
    show _++aL (f.subs.take f.subs.length) ar' _=_
    rw[List.take_length]
   ·have ht:t=_:=ht
    subst ht
    unfold O9
    refine Evt.chk (by simp only[List.length_append,List.length_cons,List.length_nil];omega) (Evt.aB (Evt.pure ?_))
    obtain⟨h1,h2⟩:=yI [] (⟨f.kind,f.name,f.words,f.words.map fun x=>decide (x∈ar),0⟩:IT) ⟨f.kind,f.name,f.words,f.words.map fun x=>decide (x∈ar),((0+ndF f:Nat):Int)⟩ (aL f.subs ar' 1)
    simp only[List.nil_append,List.length_nil]at h1 h2
    rw[h2,yH, ←har, ←h1]
    congr 2
    simp only[List.length_append,List.length_cons,List.length_nil,fz]
    omega
  refine Evt.cond (fun e=>?_) (fun e=>key ar ?_)
  ·have hq:QK f.kind:=by
    unfold QK
    by_cases h8:f.kind=8
    ·exact .inl h8
    ·simpa[h8]using e
   refine Evt.y4 (yG ar (P0 ar) (fun s=>rfl) [f.name] (by simp;omega)) (fun t ht=>?_) (fun _ h=>h.elim)
   have ht:t=_:=ht
   subst ht
   exact key _ (by rw[if_pos hq];rfl)
  ·rw[if_neg]
   unfold QK
   by_cases h8:f.kind=8
   ·simp[h8]at e
   ·simpa[h8]using e
end Go.Proofs.YtdjnbjnlnjhllaaDoor
