import Derived.Test.YtahjhbkhcaphgaaGreatDoorFTLaw0
set_option linter.unusedVariables false
set_option linter.unusedSimpArgs false
namespace Go.Am
open Go
section
variable {σ ρ τ:Type} {body:Nat→σ→Option (Ctl ρ σ τ)} {s s' s'':σ} {e:Ex ρ τ}
def eN(body:Nat→σ→Option (Ctl ρ σ τ))(s s':σ):Prop:=∃k N,∀n,N≤n→∀f,G7 (body n) (f+k) s=G7 (body n) f s'
def kS(body:Nat→σ→Option (Ctl ρ σ τ))(s:σ)(e:Ex ρ τ):Prop:=∃k N,∀n,N≤n→∀f,G7 (body n) (f+k) s=some e
theorem eN.refl:eN body s s:=⟨0,0,fun _ _ _=>rfl⟩
theorem eN.trans(h:eN body s s')(k:eN body s' s''):eN body s s'':=by
 obtain⟨a,N,h⟩:=h
 obtain⟨b,M,k⟩:=k
 exact⟨b+a,max N M,fun n hn f=>by rw[←Nat.add_assoc,h n (by omega),k n (by omega)]⟩
theorem eN.ends(h:eN body s s')(k:kS body s' e):kS body s e:=by
 obtain⟨a,N,h⟩:=h
 obtain⟨b,M,k⟩:=k
 exact⟨b+a,max N M,fun n hn f=>by rw[←Nat.add_assoc,h n (by omega),k n (by omega)]⟩
theorem eN.one(h:Evt (fun n=>body n s) (fun c=>c= .nxt s')):eN body s s':=by
 obtain⟨c,rfl,N,h⟩:=h
 exact⟨1,N,fun n hn f=>by show G7 (body n) (f+1) s=_;simp only[G7,h n hn]⟩
theorem kS.brk{t:τ}(h:Evt (fun n=>body n s) (fun c=>c= .brk t)):kS body s (.nxt t):=by
 obtain⟨c,rfl,N,h⟩:=h
 exact⟨1,N,fun n hn f=>by show G7 (body n) (f+1) s=_;simp only[G7,h n hn]⟩
theorem kS.ret{r:ρ}(h:Evt (fun n=>body n s) (fun c=>c= .ret r)):kS body s (.ret r):=by
 obtain⟨c,rfl,N,h⟩:=h
 exact⟨1,N,fun n hn f=>by show G7 (body n) (f+1) s=_;simp only[G7,h n hn]⟩
theorem kS.evt(h:kS body s e):Evt (fun n=>G7 (body n) n s) (fun x=>x=e):=by
 obtain⟨k,N,h⟩:=h
 exact⟨e,rfl,max N k,fun n hn=>by
  have:=h n (by omega) (n-k)
  rwa[show n-k+k=n by omega]at this⟩
end
end Go.Am
namespace Go.Proofs.YtahjhbkhcaphgaaGreatDoor
open Go Go.Am
theorem get_mem{α:Type}[Inhabited α]{l:List α}{k:Nat}(h:k<l.length):Am.get l k∈l:=by
 unfold Am.get
 rw[List.getD_eq_getElem?_getD,List.getElem?_eq_getElem h]
 exact List.getElem_mem h
theorem qZ{α:Type}[Inhabited α]{l:List α}{k:Nat}(h:k<l.length):l.drop k=Am.get l k::l.drop (k+1):=by
 rw[List.drop_eq_getElem_cons h]
 unfold Am.get
 rw[List.getD_eq_getElem?_getD,List.getElem?_eq_getElem h];rfl
def Live{α:Type}(st:List α×Int×Nat)(l:List α)(c:Int):Prop:=st.1.take st.2.2=l∧st.2.2=l.length∧st.2.1=c
section
variable {α:Type} {st:List α×Int×Nat} {rest:List α} {x:α} {c:Int}
theorem Live.le{l:List α}(h:Live st l c):st.2.2≤st.1.length:=by
 have h1:=congrArg List.length h.1
 rw[List.length_take]at h1
 have h2:=h.2.1
 omega
theorem Live.sp(h:Live st (rest++[x]) c):st.2.2=rest.length+1:=by rw[h.2.1];simp
theorem Live.top[Inhabited α](h:Live st (rest++[x]) c):Am.get st.1 rest.length=x:=by
 have h1:Am.get (st.1.take st.2.2) rest.length=Am.get st.1 rest.length:=CB (by rw[h.sp];omega)
 rw[←h1,h.1]
 exact uM
theorem Live.pop(h:Live st (rest++[x]) c):st.1.take rest.length=rest:=by
 have h1:=congrArg (List.take rest.length) h.1
 rw[List.take_take,List.take_left,h.sp,Nat.min_eq_left (by omega)]at h1
 exact h1
end
theorem oH(s:Bs):Evt (fun n=>L6 n s) (fun b=>b=mI s):=by
 unfold L6
 refine Evt.cond (fun h=>Evt.pure (bq fun hn=>?_).symm) (fun h=>?_)
 ·obtain⟨h1,h2,h3,_⟩:=hn
  replace h:=bx h
  omega
 replace h:=bx h
 refine Evt.B2 (P:=ExP (fun _=>mI s=true) (fun b=>b=false∧mI s=false)) (Evt.loop (fun i:Int=>(s.length-i).toNat) (fun i=>0≤i∧i≤s.length∧∀j:Nat,(j:Int)<i→OkC (B3 s (j:Int))∧(j=0→97≤B3 s 0∧B3 s 0≤122)) _ _ ⟨Int.le_refl _,by omega,fun j hj=>by omega⟩ (fun i hi=>?_)) (fun t ht=>Evt.pure ht.symm) (fun r hr=>by rw[hr.1,hr.2])
 obtain⟨h0,h1,h2⟩:=hi
 unfold T5
 refine Evt.cond (fun e=>?_) (fun e=>Evt.pure ?_)
 ·replace e:=bx e
  have hw:wr .i64 (i+1)=i+1∨True:=.inr trivial
  refine Evt.chk ⟨h0,e⟩ (Evt.cond (fun e2=>Evt.pure ⟨rfl,bq fun hn=>?_⟩) (fun e2=>Evt.pure ?_))
  ·replace e2:=bx e2
   have h3:=hn.2.2.2 i.toNat (by omega)
   rw[show((i.toNat:Nat):Int)=i by omega]at h3
   unfold OkC at h3
   have h4:=hn.2.2.1
   by_cases hi0:i=0
   ·subst hi0;omega
   ·omega
  ·replace e2:=bx e2
   have hl:s.length≤30:=by omega
   rw[Z4 (by omega) (by omega)]
   refine⟨⟨by omega,by omega,fun j hj=>?_⟩,by omega⟩
   by_cases ej:(j:Int)=i
   ·rw[ej]
    unfold OkC
    by_cases hi0:i=0
    ·subst hi0
     by_cases hc:97≤B3 s 0∧B3 s 0≤122
     ·exact⟨.inl hc,fun _=>hc⟩
     ·exact absurd rfl (e2 (by omega)).1
    ·exact⟨by omega,fun h=>by omega⟩
   ·exact h2 j (by omega)
 ·replace e:=bx e
  exact jl ⟨by omega,by omega,(h2 0 (by omega)).2 rfl,fun k hk=>(h2 k (by omega)).1⟩
end Go.Proofs.YtahjhbkhcaphgaaGreatDoor
namespace Go.Am
open Go
theorem Evt.kT{σ ρ τ:Type}{body:Nat→σ→Option (Ctl ρ σ τ)}{s0:σ}(N:Nat)(I:Nat→σ→Prop)(B:τ→Prop)(R:ρ→Prop)(h0:I 0 s0)
 (hs:∀k s,k<N→I k s→Evt (fun n=>body n s) (zC (I (k+1)) B R)) (he:∀s,I N s→Evt (fun n=>body n s) (zC (fun _=>False) B R)):
 Evt (fun n=>G7 (body n) n s0) (ExP B R):=by
 have key:∀j k s,k+j=N→I k s→∃e,ExP B R e∧∃M,∀n,M≤n→∀f,j<f→G7 (body n) f s=some e:=by
  intro j
  induction j with
  |zero=>
   intro k s hk hi
   obtain rfl:k=N:=by omega
   obtain⟨c,hc,M,hM⟩:=he s hi
   cases c with
   |nxt s'=>exact hc.elim
   |brk t=>refine⟨.nxt t,hc,M,fun n hn f hf=>?_⟩;obtain⟨g,rfl⟩:∃g,f=g+1:=⟨f-1,by omega⟩;simp only[G7,hM n hn]
   |ret x=>refine⟨.ret x,hc,M,fun n hn f hf=>?_⟩;obtain⟨g,rfl⟩:∃g,f=g+1:=⟨f-1,by omega⟩;simp only[G7,hM n hn]
  |succ j ih=>
   intro k s hk hi
   obtain⟨c,hc,M,hM⟩:=hs k s (by omega) hi
   cases c with
   |nxt s'=>
    obtain⟨e,he,L,hL⟩:=ih (k+1) s' (by omega) hc
    refine⟨e,he,max M L,fun n hn f hf=>?_⟩
    obtain⟨g,rfl⟩:∃g,f=g+1:=⟨f-1,by omega⟩
    simp only[G7,hM n (by omega)]
    exact hL n (by omega) g (by omega)
   |brk t=>refine⟨.nxt t,hc,M,fun n hn f hf=>?_⟩;obtain⟨g,rfl⟩:∃g,f=g+1:=⟨f-1,by omega⟩;simp only[G7,hM n hn]
   |ret x=>refine⟨.ret x,hc,M,fun n hn f hf=>?_⟩;obtain⟨g,rfl⟩:∃g,f=g+1:=⟨f-1,by omega⟩;simp only[G7,hM n hn]
 obtain⟨e,he,M,hM⟩:=key N 0 s0 (by omega) h0
 exact⟨e,he,max M (N+1),fun n hn=>hM n (by omega) n (by omega)⟩
end Go.Am
namespace Go.Proofs.YtahjhbkhcaphgaaGreatDoor
open Go Go.Am
def QK(k:Int):Prop:=k=8∨k=9
instance(k:Int):Decidable (QK k):=inferInstanceAs (Decidable (_∨_))
mutual
def ndF:u6→Nat
 | .mk _ _ _ s=>1+aD s
def aD:List u6→Nat
 | []=>0
 |x::l=>ndF x+aD l
end
mutual
def dpF:u6→Nat
 | .mk _ _ _ s=>1+qj s
def qj:List u6→Nat
 | []=>0
 |x::l=>max (dpF x) (qj l)
end
mutual
def nq:u6→Nat
 | .mk k _ _ s=>(if QK k then 1 else 0)+nqL s
def nqL:List u6→Nat
 | []=>0
 |x::l=>nq x+nqL l
end
mutual
def qs:u6→List Bs
 | .mk k n _ s=>(if QK k then [n]else [])++qsL s
def qsL:List u6→List Bs
 | []=>[]
 |x::l=>qs x++qsL l
end
theorem sU(f:u6):ndF f=1+aD f.subs:=by cases f;rw[ndF];rfl
theorem Ii(f:u6):dpF f=1+qj f.subs:=by cases f;rw[dpF];rfl
theorem KW(f:u6):qs f=(if QK f.kind then [f.name]else [])++qsL f.subs:=by cases f;rw[qs];rfl
mutual
theorem sV:∀f:u6,(qs f).length=nq f
 | .mk k n w s=>by rw[qs,nq,List.length_append,uN];split<;>rfl
theorem uN:∀l:List u6,(qsL l).length=nqL l
 | []=>by rw[qsL,nqL];rfl
 |x::l=>by rw[qsL,nqL,List.length_append,sV,uN]
end
mutual
theorem zK:∀f:u6,nq f≤ndF f
 | .mk k n w s=>by
   rw[nq,ndF]
   have:=zL s
   split<;>omega
theorem zL:∀l:List u6,nqL l≤aD l
 | []=>by rw[nqL];omega
 |x::l=>by
  rw[nqL,aD]
  have h1:=zK x
  have h2:=zL l
  omega
end
theorem bU{f:u6}{k:Nat}(h:k<f.subs.length):SizeOf.sizeOf (Am.get f.subs k)<SizeOf.sizeOf f:=by
 cases f with
 |mk a b c s=>
  have h2:Am.get s k∈s:=by
   unfold Am.get
   have h3:k<s.length:=h
   rw[List.getD_eq_getElem?_getD,List.getElem?_eq_getElem h3]
   exact List.getElem_mem h3
  have:=List.sizeOf_lt_of_mem h2
  show SizeOf.sizeOf (Am.get s k)<_
  simp only[u6.mk.sizeOf_spec]
  omega
def arF(k:Int):Int:=if k=1∨k=2∨k=3 then 0 else if k=4∨k=8∨k=9 then 1 else if k=5∨k=6∨k=7 then 2 else -1
def dQ(k:Int)(n:Nat):Prop:=if k=2 then n≤3 else if k=3 then n=2 else n=0
instance(k:Int)(n:Nat):Decidable (dQ k n):=by unfold dQ;infer_instance
open Classical in
noncomputable def Z5(f:u6):Int:=
 if arF f.kind<0 then 4
 else if(f.subs.length:Int)≠arF f.kind∨¬dQ f.kind f.words.length then 9
 else if(f.kind=2∨QK f.kind)∧¬A8 f.name then 10
 else if ¬(f.kind=2∨QK f.kind)∧f.name≠ []then 5
 else if ∃w∈f.words,¬A8 w then 10
 else 0
mutual
noncomputable def mB:u6→Int→Int→Int×Int
 | .mk k n w s,d,b=>if 200<b+1∨40<d then(1,b)else if Z5 (.mk k n w s)=0 then dR s (d+1) (b+1)else(Z5 (.mk k n w s),b)
noncomputable def dR:List u6→Int→Int→Int×Int
 | [],_,b=>(0,b)
 |x::l,d,b=>if(mB x d b).1=0 then dR l d (mB x d b).2 else mB x d b
end
theorem zM(f:u6)(d b:Int):mB f d b=if 200<b+1∨40<d then(1,b)else if Z5 f=0 then dR f.subs (d+1) (b+1)else(Z5 f,b):=by
 cases f;rw[mB];rfl
mutual
def WfF:u6→Prop
 | .mk k n w s=>Z5 (.mk k n w s)=0∧ni s
def ni:List u6→Prop
 | []=>True
 |x::l=>WfF x∧ni l
end
theorem dL(f:u6):WfF f↔Z5 f=0∧ni f.subs:=by cases f;rw[WfF];rfl
theorem M4:∀ {l:List u6},ni l↔ ∀x∈l,WfF x
 | []=>by simp[ni]
 |x::l=>by rw[ni,M4];simp
mutual
theorem uO:∀(f:u6) (d b:Int),(mB f d b).1=0→WfF f∧(mB f d b).2=b+ndF f∧b+ndF f≤200∧d-1+dpF f≤40
 | .mk k n w s,d,b,h=>by
   rw[mB]at h⊢
   split at h
   ·cases h
   ·rename_i h1
    rw[if_neg h1]
    split at h
    ·rename_i h2
     rw[if_pos h2]
     obtain⟨w1,w2,w3,w4⟩:=vV s (d+1) (b+1) h (by omega) (by omega)
     rw[WfF,ndF,dpF]
     refine⟨⟨h2,w1⟩,?_,?_,?_⟩<;>omega
    ·exact absurd h (by assumption)
theorem vV:∀(l:List u6) (d b:Int),(dR l d b).1=0→b≤200→d-1≤40→ni l∧(dR l d b).2=b+aD l∧b+aD l≤200∧d-1+qj l≤40
 | [],d,b,_,hb,hd=>by rw[dR,ni,aD,qj];refine⟨trivial,?_,?_,?_⟩<;>first|omega|(show b=_;omega)
 |x::l,d,b,h,hb,hd=>by
  rw[dR]at h⊢
  split at h
  ·rename_i h1
   rw[if_pos h1]
   obtain⟨w1,w2,w3,w4⟩:=uO x d b h1
   rw[w2]at h⊢
   obtain⟨v1,v2,v3,v4⟩:=vV l d (b+ndF x) h w3 hd
   rw[ni,aD,qj]
   refine⟨⟨w1,v1⟩,?_,?_,?_⟩<;>omega
  ·exact absurd h (by assumption)
end
mutual
theorem zN:∀(f:u6) (d b:Int),WfF f→b+ndF f≤200→d-1+dpF f≤40→mB f d b=(0,b+ndF f)
 | .mk k n w s,d,b,h1,h2,h3=>by
   rw[WfF]at h1
   rw[ndF]at h2⊢
   rw[dpF]at h3
   rw[mB,if_neg (by omega),if_pos h1.1,vW s (d+1) (b+1) h1.2 (by omega) (by omega)]
   congr 1
   omega
theorem vW:∀(l:List u6) (d b:Int),ni l→b+aD l≤200→d-1+qj l≤40→dR l d b=(0,b+aD l)
 | [],d,b,_,_,_=>by rw[dR,aD];congr 1;omega
 |x::l,d,b,h1,h2,h3=>by
  rw[ni]at h1
  rw[aD]at h2⊢
  rw[qj]at h3
  rw[dR,zN x d b h1.1 (by omega) (by omega),if_pos rfl,vW l d _ h1.2 (by omega) (by omega)]
  congr 1
  omega
end
def OkF(f:u6):Prop:=WfF f∧ndF f≤200∧dpF f≤40
theorem vX(f:u6):(mB f 1 0).1=0↔OkF f:=by
 refine⟨fun h=>?_,fun h=>?_⟩
 ·obtain⟨h1,h2,h3,h4⟩:=uO f 1 0 h
  exact⟨h1,by omega,by omega⟩
 ·rw[zN f 1 0 h.1 (by have:=h.2.1;omega) (by have:=h.2.2;omega)]
theorem dS{f:u6}(h:Z5 f=0):(f.subs.length:Int)=arF f.kind∧dQ f.kind f.words.length∧(f.kind=2∨QK f.kind→A8 f.name)∧(¬(f.kind=2∨QK f.kind)→f.name=[])∧∀w∈f.words,A8 w:=by
 unfold Z5 at h
 split at h
 ·cases h
 split at h
 ·cases h
 split at h
 ·cases h
 split at h
 ·cases h
 split at h
 ·cases h
 rename_i h1 h2 h3 h4 h5
 refine⟨Classical.byContradiction fun e=>h2 (.inl e),Classical.byContradiction fun e=>h2 (.inr e),fun h=>Classical.byContradiction fun e=>h3 ⟨h,e⟩,fun h=>Classical.byContradiction fun e=>h4 ⟨h,e⟩,fun w hw=>Classical.byContradiction fun e=>h5 ⟨w,hw,e⟩⟩
theorem CD{f:u6}(h0:0≤arF f.kind)(h1:(f.subs.length:Int)=arF f.kind)(h2:dQ f.kind f.words.length)(h3:f.kind=2∨QK f.kind→A8 f.name)(h4:¬(f.kind=2∨QK f.kind)→f.name=[])(h5:∀w∈f.words,A8 w):Z5 f=0:=by
 unfold Z5
 rw[if_neg (by omega),if_neg (fun h=>h.elim (fun e=>e h1) (fun e=>e h2)),if_neg (fun h=>h.2 (h3 h.1)),if_neg (fun h=>h.2 (h4 h.1)),if_neg (fun⟨w,hw,e⟩=>e (h5 w hw))]
def sub(env:List (Bs×Bs))(w:Bs):Bs:=((env.find? (fun p=>p.1==w)).map (·.2)).getD w
theorem EO(w:Bs):sub [] w=w:=rfl
theorem kU(a b w:Bs)(env:List (Bs×Bs)):sub ((a,b)::env) w=if a=w then b else sub env w:=by
 unfold sub
 rw[List.find?_cons]
 by_cases h:a=w
 ·simp[h]
 ·have:(a==w)=false:=beq_false_of_ne h
  simp[this,h]
theorem zO{env:List (Bs×Bs)}{w:Bs}(h:∀p∈env,p.1≠w):sub env w=w:=by
 induction env with
 |nil=>rfl
 |cons p env ih=>
  obtain⟨a,b⟩:=p
  rw[kU,if_neg (h (a,b) (List.mem_cons_self ..)),ih fun q hq=>h q (List.mem_cons_of_mem _ hq)]
theorem zP{env:List (Bs×Bs)}{w:Bs}(h:w∈env.map (·.1)):sub env w∈env.map (·.2):=by
 induction env with
 |nil=>cases h
 |cons p env ih=>
  obtain⟨a,b⟩:=p
  rw[kU]
  split
  ·exact List.mem_cons_self ..
  ·rename_i hne
   rw[List.map_cons,List.mem_cons]at h
   exact List.mem_cons_of_mem _ (ih (h.resolve_left fun e=>hne e.symm))
mutual
def ren(N:Nat→Bs):u6→List (Bs×Bs)→Nat→u6
 | .mk k n w s,env,i=>.mk k (if QK k then N i else n) (w.map (sub env)) (gH N s (if QK k then(n,N i)::env else env) (i+if QK k then 1 else 0))
def gH(N:Nat→Bs):List u6→List (Bs×Bs)→Nat→List u6
 | [],_,_=>[]
 |x::l,env,i=>ren N x env i::gH N l env (i+nq x)
end
theorem rj(N:Nat→Bs):∀(l:List u6) (env:List (Bs×Bs)) (i:Nat),(gH N l env i).length=l.length
 | [],_,_=>by rw[gH]
 |x::l,env,i=>by rw[gH,List.length_cons,List.length_cons,rj N l]
mutual
theorem DH(N:Nat→Bs):∀(f:u6) (env:List (Bs×Bs)) (i:Nat),nq (ren N f env i)=nq f
 | .mk k n w s,env,i=>by rw[ren,nq,nq,zQ N s]
theorem zQ(N:Nat→Bs):∀(l:List u6) (env:List (Bs×Bs)) (i:Nat),nqL (gH N l env i)=nqL l
 | [],env,i=>by rw[gH]
 |x::l,env,i=>by rw[gH,nqL,nqL,DH N x,zQ N l]
end
mutual
theorem Ij(N:Nat→Bs):∀(f:u6) (env:List (Bs×Bs)) (i:Nat),ndF (ren N f env i)=ndF f
 | .mk k n w s,env,i=>by rw[ren,ndF,ndF,zR N s]
theorem zR(N:Nat→Bs):∀(l:List u6) (env:List (Bs×Bs)) (i:Nat),aD (gH N l env i)=aD l
 | [],env,i=>by rw[gH]
 |x::l,env,i=>by rw[gH,aD,aD,Ij N x,zR N l]
end
mutual
theorem Ik(N:Nat→Bs):∀(f:u6) (env:List (Bs×Bs)) (i:Nat),dpF (ren N f env i)=dpF f
 | .mk k n w s,env,i=>by rw[ren,dpF,dpF,zS N s]
theorem zS(N:Nat→Bs):∀(l:List u6) (env:List (Bs×Bs)) (i:Nat),qj (gH N l env i)=qj l
 | [],env,i=>by rw[gH]
 |x::l,env,i=>by rw[gH,qj,qj,Ik N x,zS N l]
end
def nms(N:Nat→Bs):Nat→Nat→List Bs
 | _,0=>[]
 |i,m+1=>N i::nms N (i+1) m
theorem uP(N:Nat→Bs):∀(a b i:Nat),nms N i (a+b)=nms N i a++nms N (i+a) b
 |0,b,i=>by rw[Nat.zero_add];rfl
 |a+1,b,i=>by rw[show a+1+b=(a+b)+1 by omega,nms,nms,uP N a b,List.cons_append,show i+1+a=i+(a+1)by omega]
mutual
theorem Il(N:Nat→Bs):∀(f:u6) (env:List (Bs×Bs)) (i:Nat),qs (ren N f env i)=nms N i (nq f)
 | .mk k n w s,env,i=>by
   rw[ren,qs,nq,zT N s,uP]
   by_cases h:QK k
   ·simp only[if_pos h];rfl
   ·simp only[if_neg h];rfl
theorem zT(N:Nat→Bs):∀(l:List u6) (env:List (Bs×Bs)) (i:Nat),qsL (gH N l env i)=nms N i (nqL l)
 | [],env,i=>by rw[gH,nqL];rfl
 |x::l,env,i=>by rw[gH,qsL,nqL,Il N x,zT N l,uP]
end
def Idn(env:List (Bs×Bs)):Prop:=∀p∈env,p.1=p.2
theorem Im{env:List (Bs×Bs)}(h:Idn env)(w:Bs):sub env w=w:=by
 induction env with
 |nil=>rfl
 |cons p env ih=>
  obtain⟨a,b⟩:=p
  rw[kU,ih fun q hq=>h q (List.mem_cons_of_mem _ hq)]
  split
  ·rename_i e;rw[←e];exact(h (a,b) (List.mem_cons_self ..)).symm
  ·rfl
mutual
theorem EP(N:Nat→Bs):∀(f:u6) (env env':List (Bs×Bs)) (i:Nat),Idn env'→ren N (ren N f env i) env' i=ren N f env i
 | .mk k n w s,env,env',i,h=>by
   have hw:(w.map (sub env)).map (sub env')=w.map (sub env):=by
    conv=>rhs;rw[←List.map_id (w.map (sub env))]
    exact List.map_congr_left fun x _=>Im h x
   rw[ren,ren,hw]
   by_cases hq:QK k
   ·simp only[if_pos hq]
    rw[rm N s _ _ _ (fun p hp=>by
     rcases List.mem_cons.1 hp with rfl|hp
     ·rfl
     ·exact h p hp)]
   ·simp only[if_neg hq]
    rw[rm N s _ _ _ h]
theorem rm(N:Nat→Bs):∀(l:List u6) (env env':List (Bs×Bs)) (i:Nat),Idn env'→gH N (gH N l env i) env' i=gH N l env i
 | [],env,env',i,h=>by rw[gH,gH]
 |x::l,env,env',i,h=>by
  rw[gH,gH,EP N x _ _ _ h,DH,rm N l _ _ _ h]
end
mutual
def fre:u6→List Bs→Bs→Prop
 | .mk k n w s,bd,x=>(x∈w∧x∉bd)∨iC s (if QK k then n::bd else bd) x
def iC:List u6→List Bs→Bs→Prop
 | [],_,_=>False
 |f::l,bd,x=>fre f bd x∨iC l bd x
end
theorem Io(f:u6)(bd:List Bs)(x:Bs):fre f bd x↔(x∈f.words∧x∉bd)∨iC f.subs (if QK f.kind then f.name::bd else bd) x:=by cases f;rw[fre];rfl
theorem ru:∀ {l:List u6} {bd:List Bs} {x:Bs},iC l bd x↔ ∃f∈l,fre f bd x
 | [],bd,x=>by simp[iC]
 |f::l,bd,x=>by rw[iC,ru];simp
mutual
theorem ER:∀(f:u6) (bd:List Bs) (x:Bs),fre f bd x→x∉bd
 | .mk k n w s,bd,x,h=>by
   rw[fre]at h
   rcases h with h|h
   ·exact h.2
   ·have:=vY s _ x h
    split at this
    ·exact fun e=>this (List.mem_cons_of_mem _ e)
    ·exact this
theorem vY:∀(l:List u6) (bd:List Bs) (x:Bs),iC l bd x→x∉bd
 | [],bd,x,h=>by rw[iC]at h;exact h.elim
 |f::l,bd,x,h=>by
  rw[iC]at h
  exact h.elim (ER f bd x) (vY l bd x)
end
mutual
theorem ES(N:Nat→Bs)(U:Bs→Prop)(hN:∀i,¬U (N i)):∀(f:u6) (env:List (Bs×Bs)) (i:Nat),(∀x,fre f (env.map (·.1)) x→U x)→(∀p∈env,∃j,p.2=N j)→∀x,fre (ren N f env i) (env.map (·.2)) x↔fre f (env.map (·.1)) x
 | .mk k n w s,env,i,hU,he,x=>by
   have key:∀y∈w,(sub env y∉env.map (·.2)↔y∉env.map (·.1))∧(y∉env.map (·.1)→sub env y=y):=fun y hy=>by
    by_cases hb:y∈env.map (·.1)
    ·exact⟨⟨fun h=>absurd (zP hb) h,fun h=>absurd hb h⟩,fun h=>absurd hb h⟩
    ·have e:sub env y=y:=zO fun p hp e=>hb (List.mem_map.2 ⟨p,hp,e⟩)
     rw[e]
     refine⟨⟨fun _=>hb,fun _ h=>?_⟩,fun _=>rfl⟩
     obtain⟨p,hp,e2⟩:=List.mem_map.1 h
     obtain⟨j,hj⟩:=he p hp
     exact hN j (by rw[←hj,e2];exact hU y (by rw[fre];exact .inl ⟨hy,hb⟩))
   have hs:iC (gH N s (if QK k then(n,N i)::env else env) (i+if QK k then 1 else 0)) (if QK k then N i::env.map (·.2)else env.map (·.2)) x↔iC s (if QK k then n::env.map (·.1)else env.map (·.1)) x:=by
    by_cases hq:QK k
    ·simp only[if_pos hq]
     exact rz N U hN s ((n,N i)::env) (i+1) (fun y hy=>hU y (by rw[fre,if_pos hq];exact .inr hy)) (fun p hp=>by
      rcases List.mem_cons.1 hp with rfl|hp
      ·exact⟨i,rfl⟩
      ·exact he p hp) x
    ·simp only[if_neg hq]
     exact rz N U hN s env _ (fun y hy=>hU y (by rw[fre,if_neg hq];exact .inr hy)) he x
   rw[ren,fre,fre]
   have hn:(if QK k then(if QK k then N i else n)::env.map (·.2)else env.map (·.2))=(if QK k then N i::env.map (·.2)else env.map (·.2)):=by
    by_cases hq:QK k<;>simp[hq]
   rw[hn,hs]
   refine or_congr_left ⟨fun h=>?_,fun h=>?_⟩
   ·obtain⟨h1,h2⟩:=h
    obtain⟨y,hy,rfl⟩:=List.mem_map.1 h1
    have hk:=key y hy
    have hb:=hk.1.1 h2
    rw[hk.2 hb]
    exact⟨hy,hb⟩
   ·have hk:=key x h.1
    have e:=hk.2 h.2
    exact⟨List.mem_map.2 ⟨x,h.1,e⟩,by rw[←e];exact hk.1.2 h.2⟩
theorem rz(N:Nat→Bs)(U:Bs→Prop)(hN:∀i,¬U (N i)):∀(l:List u6) (env:List (Bs×Bs)) (i:Nat),(∀x,iC l (env.map (·.1)) x→U x)→(∀p∈env,∃j,p.2=N j)→∀x,iC (gH N l env i) (env.map (·.2)) x↔iC l (env.map (·.1)) x
 | [],env,i,_,_,x=>by rw[gH];simp[iC]
 |f::l,env,i,hU,he,x=>by
  rw[gH,iC,iC,ES N U hN f env i (fun y hy=>hU y (by rw[iC];exact .inl hy)) he x,rz N U hN l env _ (fun y hy=>hU y (by rw[iC];exact .inr hy)) he x]
end
theorem ET(k:Int):eO k=some (arF k):=by
 by_cases h1:k=1
 ·subst h1;rfl
 by_cases h2:k=2
 ·subst h2;rfl
 by_cases h3:k=3
 ·subst h3;rfl
 by_cases h4:k=4
 ·subst h4;rfl
 by_cases h5:k=5
 ·subst h5;rfl
 by_cases h6:k=6
 ·subst h6;rfl
 by_cases h7:k=7
 ·subst h7;rfl
 by_cases h8:k=8
 ·subst h8;rfl
 by_cases h9:k=9
 ·subst h9;rfl
 simp[eO,aj,ak,aq,arF,h1,h2,h3,h4,h5,h6,h7,h8,h9]
theorem nj(f:u6):E5 f=some (decide (QK f.kind)):=by
 unfold E5 QK
 by_cases h:f.kind=8<;>simp[h]
def xV(c:Int×Int)(b:Int)(r:x6×Int):Prop:=r.1.code=c.1∧(c.1=0→r=(⟨0,0⟩,c.2)∧b≤c.2∧c.2≤200)∧(c.1≠0→r.1=⟨c.1,c.2⟩)
theorem xV.bad{c b x:Int}{r:x6×Int}(hc:c≠0)(hr:r.1=⟨c,x⟩):xV (c,x) b r:=⟨by rw[hr],fun h=>absurd h hc,fun _=>hr⟩
theorem DI(k:Int):arF k≤2:=by unfold arF;repeat' split<;>omega
theorem zU{f:u6}(h:arF f.kind<0):Z5 f=4:=by unfold Z5;rw[if_pos h]
theorem zV{f:u6}(h0:¬arF f.kind<0)(h:(f.subs.length:Int)≠arF f.kind∨¬dQ f.kind f.words.length):Z5 f=9:=by unfold Z5;rw[if_neg h0,if_pos h]
theorem vZ{f:u6}(h0:¬arF f.kind<0)(h1:¬((f.subs.length:Int)≠arF f.kind∨¬dQ f.kind f.words.length))(h:(f.kind=2∨QK f.kind)∧¬A8 f.name):Z5 f=10:=by unfold Z5;rw[if_neg h0,if_neg h1,if_pos h]
theorem zW{f:u6}(h0:¬arF f.kind<0)(h1:¬((f.subs.length:Int)≠arF f.kind∨¬dQ f.kind f.words.length))(h2:¬((f.kind=2∨QK f.kind)∧¬A8 f.name))(h:¬(f.kind=2∨QK f.kind)∧f.name≠ []):Z5 f=5:=by unfold Z5;rw[if_neg h0,if_neg h1,if_neg h2,if_pos h]
open Classical in
theorem zX{f:u6}(h0:¬arF f.kind<0)(h1:¬((f.subs.length:Int)≠arF f.kind∨¬dQ f.kind f.words.length))(h2:¬((f.kind=2∨QK f.kind)∧¬A8 f.name))(h3:¬(¬(f.kind=2∨QK f.kind)∧f.name≠ [])):Z5 f=if ∃w∈f.words,¬A8 w then 10 else 0:=by unfold Z5;rw[if_neg h0,if_neg h1,if_neg h2,if_neg h3]
theorem Z6{s:Bs}{b:Bool}(h:b=mI s):b=true↔A8 s:=by
 rw[h];unfold mI;simp
theorem sW{l:List Bs}(h:∀j,j<l.length→A8 (Am.get l j)):¬ ∃w∈l,¬A8 w:=fun⟨w,hw,hn⟩=>by
 obtain⟨j,hj,rfl⟩:=bT.1 hw
 exact hn (h j hj)
theorem zY:∀(m:Nat) (f:u6),SizeOf.sizeOf f≤m→∀d b:Int,0≤d→d≤41→0≤b→b≤200→Evt (fun n=>F8 n f d b false) (xV (mB f d b) b):=by
 intro m
 induction m with
 |zero=>intro f h;cases f;simp only[u6.mk.sizeOf_spec]at h;omega
 |succ m ih=>
  intro f hf d b hd0 hd hb0 hb
  have hw1:wr .i64 (d+1)=d+1:=Z4 (by omega) (by omega)
  have hw2:wr .i64 (b+1)=b+1:=Z4 (by omega) (by omega)
  refine Evt.succ ?_
  simp only[F8,hw2,ET,Option.bind_some]
  rw[zM]
  refine Evt.cond (fun e=>?_) (fun e=>?_)
  ·replace e:=bx e
   rw[if_pos (by omega)]
   exact Evt.pure (xV.bad (by decide) rfl)
  replace e:=bx e
  rw[if_neg (by omega)]
  have key:Evt (fun n=>U2 (F8 n) b f d false (arF f.kind)) (xV (if Z5 f=0 then dR f.subs (d+1) (b+1)else(Z5 f,b)) b):=by
   unfold U2
   refine Evt.cond (fun e=>?_) (fun e=>?_)
   ·replace e:=bx e
    rw[zU e,if_neg (by decide)]
    exact Evt.pure (xV.bad (by decide) rfl)
   replace e:=bx e
   have e0:¬arF f.kind<0:=by omega
   have k1:∀c:Bool,(c=true↔dQ f.kind f.words.length)→Evt (fun n=>O6 (F8 n) f (arF f.kind) b d false c) (xV (if Z5 f=0 then dR f.subs (d+1) (b+1)else(Z5 f,b)) b):=by
    intro c hc
    unfold O6
    refine Evt.cond (fun e=>?_) (fun e=>?_)
    ·replace e:=bx e
     rw[zV e0 (by
      rcases e with e|e
      ·exact .inl e
      ·exact .inr fun h=>by rw[hc.2 h]at e;cases e),if_neg (by decide)]
     exact Evt.pure (xV.bad (by decide) (by simp only[hw2]))
    replace e:=bx e
    have e1:¬((f.subs.length:Int)≠arF f.kind∨¬dQ f.kind f.words.length):=fun h=>h.elim (fun h=>h e.1) (fun h=>h (hc.1 e.2))
    have h10:f.kind≠10:=fun h=>by
     rw[h]at e0;exact e0 (by decide)
    simp only[nj]
    refine Evt.bind (P:=fun v=>v=(!(decide (f.kind=2))&&decide (QK f.kind))) (Evt.gd (fun g=>Evt.pure (by replace g:=bx g;simp[g])) (fun g=>by replace g:=bx g;simp[g])) fun v5 hv5=>?_
    have hn:(bif bif decide (f.kind=2)then true else v5 then true else decide (f.kind=10))=decide (f.kind=2∨QK f.kind):=by
     subst hv5
     by_cases h2:f.kind=2<;>simp[h2,h10]
    rw[hn]
    refine Evt.bind (P:=fun v=>(f.kind=2∨QK f.kind)→(v=true↔A8 f.name)) (Evt.gd (fun g=>(eM f.name).mono fun v hv _=>Z6 hv) (fun g h=>absurd h (by simpa using g))) fun v6 hv6=>?_
    refine Evt.cond (fun e=>?_) (fun e=>?_)
    ·replace e:=bx e
     rw[vZ e0 e1 ⟨e.1,fun h=>by rw[(hv6 e.1).2 h]at e;cases e.2⟩,if_neg (by decide)]
     exact Evt.pure (xV.bad (by decide) (by simp only[hw2]))
    have e2:¬((f.kind=2∨QK f.kind)∧¬A8 f.name):=fun⟨h1,h2⟩=>by
     cases v6 with
     |true=>exact h2 ((hv6 h1).1 rfl)
     |false=>simp[h1]at e
    refine Evt.cond (fun e=>?_) (fun e=>?_)
    ·replace e:=bx e
     rw[zW e0 e1 e2 ⟨by simpa using e.1,e.2⟩,if_neg (by decide)]
     exact Evt.pure (xV.bad (by decide) (by simp only[hw2]))
    have e3:¬(¬(f.kind=2∨QK f.kind)∧f.name≠ []):=fun⟨h1,h2⟩=>by simp[h1,h2]at e
    have zZ:=zX e0 e1 e2 e3
    refine Evt.B2 (Evt.scan (fun k _=>∀j,j<k→A8 (Am.get f.words j)) (fun k r=>r.1=⟨10,b⟩∧∃w∈f.words,¬A8 w) (fun j hj=>absurd hj (Nat.not_lt_zero _)) (fun k u hk hi=>?_)) (fun t ht=>?_) (fun r hr=>?_)
    ·unfold aY
     refine Evt.bind (eM _) fun v hv=>Evt.cond (fun e=>?_) (fun e=>Evt.pure ?_)
     ·replace e:=bx e
      exact Evt.pure ⟨rfl,_,get_mem hk,fun h=>by rw[(Z6 hv).2 h]at e;cases e⟩
     ·replace e:=bx e
      intro j hj
      by_cases ej:j=k
      ·subst ej;exact(Z6 hv).1 e
      ·exact hi j (by omega)
    ·have hall:=sW ht
     rw[zZ,if_neg hall,if_pos rfl]
     unfold aZ
     rw[hw2]
     have hsl:f.subs.length≤2:=by
      have:=DI f.kind
      have:(f.subs.length:Int)=arF f.kind:=Classical.byContradiction fun h=>e1 (.inl h)
      omega
     refine Evt.B2 (Evt.range (fun k c=>dR (f.subs.drop k) (d+1) c=dR f.subs (d+1) (b+1)∧b+1≤c∧c≤200) (fun _=>False) (fun r=>xV (dR f.subs (d+1) (b+1)) b r) ⟨rfl,by omega,by omega⟩ (fun k c hk hj=>?_)) (fun t ht=>Evt.pure ?_) (fun r hr=>hr)
     ·obtain⟨h1,h2,h3⟩:=hj
      unfold bf
      have hsz:=bU hk
      rw[hw1]
      rw[qZ hk,dR]at h1
      refine Evt.bind (ih _ (by omega) _ _ (by omega) (by omega) (by omega) h3) fun v hv=>Evt.cond (fun e=>Evt.pure ?_) (fun e=>Evt.pure ?_)
      ·replace e:=bx e
       rw[hv.1]at e
       rw[if_neg e]at h1
       rw[←h1]
       exact⟨hv.1,fun h=>absurd h e,hv.2.2⟩
      ·replace e:=bx e
       rw[hv.1]at e
       rw[if_pos e]at h1
       obtain⟨hv1,hv2,hv3⟩:=hv.2.1 e
       rw[hv1]
       exact⟨h1,by show b+1≤(mB _ _ _).2;omega,hv3⟩
     ·obtain⟨h1,h2,h3⟩:=ht.elim id False.elim
      rw[List.drop_length,dR]at h1
      unfold bg at*
      rw[←h1]
      exact⟨rfl,fun _=>⟨rfl,by show b≤t;omega,h3⟩,fun h=>absurd rfl h⟩
    ·obtain⟨k,_,_,_,h1,h2⟩:=hr
     rw[zZ,if_pos h2,if_neg (by decide)]
     exact xV.bad (by decide) h1
   refine Evt.cond (fun e=>k1 _ ?_) (fun e=>Evt.cond (fun e2=>k1 _ ?_) (fun e2=>k1 _ ?_))
   ·replace e:=bx e
    unfold dQ;simp[e];omega
   ·replace e:=bx e;replace e2:=bx e2
    unfold dQ;simp[e2];omega
   ·replace e:=bx e;replace e2:=bx e2
    unfold dQ;simp[e,e2]
  refine Evt.cond (fun e=>?_) (fun e=>key)
  simp at e
noncomputable def jG(f:u6):x6:=if(mB f 1 0).1=0 then⟨0,0⟩else⟨(mB f 1 0).1,(mB f 1 0).2⟩
theorem jT(f:u6):(jG f).code=0↔OkF f:=by
 rw[←vX]
 unfold jG
 split
 ·simp[*]
 ·simp[*]
theorem sX{f:u6}(h:OkF f):jG f=⟨0,0⟩:=by unfold jG;rw[if_pos ((vX f).2 h)]
theorem kV(f:u6):Evt (fun n=>S6 n f) (fun r=>r=jG f):=by
 unfold S6 fE
 simp only[Option.bind_assoc,Option.bind_some]
 refine Evt.bind (zY _ f (Nat.le_refl _) 1 0 (by omega) (by omega) (by omega) (by omega)) fun v hv=>Evt.pure ?_
 unfold jG
 split
 ·rename_i h;rw[(hv.2.1 h).1]
 ·rename_i h;exact hv.2.2 h
theorem Aa(k:Int):Evt (fun _=>N7 k) (fun r=>r=arF k):=by
 unfold N7
 refine Evt.cond (fun e=>Evt.pure ?_) (fun e=>?_)
 ·replace e:=bx e
  unfold arF
  rw[if_neg (by omega),if_neg (by omega),if_neg (by omega)]
 ·replace e:=bx e
  refine Evt.chk (by omega) (Evt.pure ?_)
  have:k=1∨k=2∨k=3∨k=4∨k=5∨k=6∨k=7∨k=8∨k=9:=by omega
  rcases this with rfl|rfl|rfl|rfl|rfl|rfl|rfl|rfl|rfl<;>rfl
abbrev FA:=w6
def fat(d:Int)(f:u6):FA:=⟨f,d⟩
abbrev rA:Nat→List FA×Int×Nat→Option (Ctl x6 (List FA×Int×Nat) Unit):=fun n=>D8 n false
theorem oI(f:u6):Z5 f=0→f.subs.length≤2:=fun h=>by
 have h1:=(dS h).1
 have:=DI f.kind
 omega
section
variable {rest:List FA} {f:u6} {d c:Int} {st:List FA×Int×Nat}
theorem EU(iP:Live st (rest++[⟨f,d⟩]) c)(hd0:0≤d)(hd:d≤41)(hc0:0≤c)(hc:c≤200)(hr:(rest.length:Int)≤2*c)(hs:f.subs.length≤2){Q:Ctl x6 (List FA×Int×Nat) Unit→Prop}
 (q:∀st',Live st' (rest++f.subs.reverse.map (fat (d+1))) (c+1)→Q (.nxt st')):Evt (fun n=>y7 n st 0) Q:=by
 have hsp:=iP.sp
 have CF:=iP.top
 have MY:=iP.pop
 have JK:=iP.2.2
 have hw:wr .i64 ((st.2.2:Int)-1)=(rest.length:Int):=by rw[Z4 (by omega) (by omega)];omega
 have hwd:wr .i64 (d+1)=d+1:=Z4 (by omega) (by omega)
 have hwc:wr .i64 (st.2.1+1)=c+1:=by rw[JK];exact Z4 (by omega) (by omega)
 have hwl:wr .i64 ((f.subs.length:Int)-1)=(f.subs.length:Int)-1:=Z4 (by omega) (by omega)
 unfold y7
 refine Evt.cond (fun e=>by simp at e) (fun _=>?_)
 simp only[hw,Int.toNat_natCast,CF,hwl]
 refine Evt.B2 (P:=ExP (fun t=>t.1.take t.2=rest++f.subs.reverse.map (fat (d+1))∧t.2=(rest++f.subs.reverse.map (fat (d+1))).length) (fun _=>False))
  (Evt.loop (fun s:List FA×Int×Nat=>(s.2.1+1).toNat) (fun s=> -1≤s.2.1∧s.2.1<f.subs.length∧s.1.take s.2.2=rest++(f.subs.drop (s.2.1+1).toNat).reverse.map (fat (d+1))∧s.2.2=(rest++(f.subs.drop (s.2.1+1).toNat).reverse.map (fat (d+1))).length) _ _ ?_ (fun s hi=>?_)) (fun t ht=>?_) (fun r hr=>hr.elim)
 ·refine⟨by show -1≤(f.subs.length:Int)-1;omega,by show(f.subs.length:Int)-1<_;omega,?_,?_⟩
  ·show st.1.take rest.length=rest++(f.subs.drop ((f.subs.length:Int)-1+1).toNat).reverse.map (fat (d+1))
   rw[MY,show((f.subs.length:Int)-1+1).toNat=f.subs.length by omega,List.drop_length]
   simp
  ·show rest.length=(rest++(f.subs.drop ((f.subs.length:Int)-1+1).toNat).reverse.map (fat (d+1))).length
   rw[show((f.subs.length:Int)-1+1).toNat=f.subs.length by omega,List.drop_length]
   simp
 ·obtain⟨l,i,p⟩:=s
  obtain⟨h0,h1,h2,h3⟩:=hi
  simp only at h0 h1 h2 h3
  unfold J3
  simp only[hw,Int.toNat_natCast,CF,hwd]
  refine Evt.cond (fun e=>?_) (fun e=>?_)
  ·replace e:=bx e
   have hil:i.toNat<f.subs.length:=by omega
   have hp:p≤l.length:=by
    have:=congrArg List.length h2
    rw[List.length_take]at this
    omega
   refine Evt.chk ⟨e,h1⟩ (Evt.chk hp (Evt.aB (Evt.chk ?_ (Evt.pure ?_))))
   ·rw[h2,eL]
    simp only[List.length_append,List.length_map,List.length_reverse,List.length_drop,List.length_cons,List.length_nil]
    omega
   ·have hi1:wr .i64 (i-1)=i-1:=Z4 (by omega) (by omega)
    rw[hi1,h2]
    have hd1:f.subs.drop (i-1+1).toNat=Am.get f.subs i.toNat::f.subs.drop (i+1).toNat:=by
     rw[show(i-1+1).toNat=i.toNat by omega,qZ hil,show(i+1).toNat=i.toNat+1 by omega]
    refine⟨⟨by show -1≤i-1;omega,by show i-1<_;omega,?_,?_⟩,by show(i-1+1).toNat<(i+1).toNat;omega⟩
    ·show List.take _ _=_
     rw[List.take_length,hd1,List.reverse_cons,List.map_append,List.append_assoc]
     rfl
    ·show List.length _=_
     rw[hd1,List.reverse_cons,List.map_append,List.append_assoc]
     rfl
  ·replace e:=bx e
   have hi:i= -1:=by omega
   subst hi
   refine Evt.pure ⟨?_,?_⟩
   ·simpa using h2
   ·simpa using h3
 ·obtain⟨h1,h2⟩:=ht
  unfold J4
  rw[hwc]
  exact Evt.pure (q _ ⟨h1,h2,rfl⟩)
theorem uQ(iP:Live st (rest++[⟨f,d⟩]) c)(hd0:0≤d)(hd:d≤41)(hc0:0≤c)(hc:c≤200)(hr:(rest.length:Int)≤2*c){Q:Ctl x6 (List FA×Int×Nat) Unit→Prop}
 (q1:200<c+1∨40<d→Q (.ret ⟨1,c⟩)) (q2:¬(200<c+1∨40<d)→Z5 f≠0→Q (.ret ⟨Z5 f,c⟩)) (q3:¬(200<c+1∨40<d)→Z5 f=0→∀st',Live st' (rest++f.subs.reverse.map (fat (d+1))) (c+1)→Q (.nxt st')):
 Evt (fun n=>rA n st) Q:=by
 have hsp:=iP.sp
 have hle:=iP.le
 have CF:=iP.top
 have JK:=iP.2.2
 have hw:wr .i64 ((st.2.2:Int)-1)=(rest.length:Int):=by rw[Z4 (by omega) (by omega)];omega
 have Gq:∀x:Int,x≠0→Q (.ret ⟨x,c⟩)→Evt (fun n=>y7 n st x) Q:=fun x hx h=>by
  unfold y7
  refine Evt.cond (fun e=>Evt.pure (by rw[JK];exact h)) (fun e=>?_)
  simp[hx]at e
 unfold rA D8
 simp only[hw,Int.toNat_natCast,CF]
 refine Evt.cond (fun _=>?_) (fun e=>by replace e:=bx e;omega)
 refine Evt.chk hle (Evt.chk (by omega) (Evt.chk (by omega) (Evt.bind (Aa _) fun v hv=>?_)))
 subst hv
 refine Evt.cond (fun e=>by simp at e) (fun _=>?_)
 have key:∀most least:Int,((f.words.length:Int)<least∨most<(f.words.length:Int)↔ ¬dQ f.kind f.words.length)→Evt (fun n=>D9 n st (arF f.kind) (most,least)) Q:=by
  intro most least hwd
  unfold D9
  simp only[hw,Int.toNat_natCast,CF,JK]
  refine Evt.cond (fun e=>Gq 1 (by decide) (q1 (by replace e:=bx e;omega))) (fun e=>?_)
  replace e:=bx e
  have hn:¬(200<c+1∨40<d):=by omega
  refine Evt.cond (fun e=>?_) (fun e=>?_)
  ·replace e:=bx e
   have h:=zU e
   exact Gq 4 (by decide) (by rw[←h];exact q2 hn (by rw[h];decide))
  have e0:¬arF f.kind<0:=by replace e:=bx e;omega
  refine Evt.cond (fun e=>?_) (fun e=>?_)
  ·replace e:=bx e
   have h:=zV e0 (by
    rcases e with(e|e)|e
    ·exact .inl e
    ·exact .inr (hwd.1 (.inl e))
    ·exact .inr (hwd.1 (.inr e)))
   exact Gq 9 (by decide) (by rw[←h];exact q2 hn (by rw[h];decide))
  replace e:=bx e
  have e1:¬((f.subs.length:Int)≠arF f.kind∨¬dQ f.kind f.words.length):=fun h=>h.elim (fun h=>h e.1.1) (fun h=>by
   have:=hwd.2 h
   omega)
  have h10:f.kind≠10:=fun h=>by
   rw[h]at e0;exact e0 (by decide)
  have hnm:(bif bif bif decide (f.kind=2)then true else decide (f.kind=8)then true else decide (f.kind=9)then true else decide (f.kind=10))=decide (f.kind=2∨QK f.kind):=by
   unfold QK
   by_cases h2:f.kind=2
   ·simp[h2]
   ·by_cases h8:f.kind=8
    ·simp[h8]
    ·by_cases h9:f.kind=9
     ·simp[h9]
     ·simp[h2,h8,h9,h10]
  rw[hnm]
  refine Evt.bind (P:=fun v=>(f.kind=2∨QK f.kind)→(v=true↔A8 f.name)) (Evt.gd (fun g=>(oH f.name).mono fun v hv _=>Z6 hv) (fun g h=>absurd h (by simpa using g))) fun v6 hv6=>?_
  refine Evt.cond (fun e=>?_) (fun e=>?_)
  ·replace e:=bx e
   have h:=vZ e0 e1 ⟨e.1,fun h=>by rw[(hv6 e.1).2 h]at e;cases e.2⟩
   exact Gq 10 (by decide) (by rw[←h];exact q2 hn (by rw[h];decide))
  have e2:¬((f.kind=2∨QK f.kind)∧¬A8 f.name):=fun⟨h1,h2⟩=>by
   cases v6 with
   |true=>exact h2 ((hv6 h1).1 rfl)
   |false=>simp[h1]at e
  refine Evt.cond (fun e=>?_) (fun e=>?_)
  ·replace e:=bx e
   have h:=zW e0 e1 e2 ⟨by simpa using e.1,e.2⟩
   exact Gq 5 (by decide) (by rw[←h];exact q2 hn (by rw[h];decide))
  have e3:¬(¬(f.kind=2∨QK f.kind)∧f.name≠ []):=fun⟨h1,h2⟩=>by simp[h1,h2]at e
  have zZ:=zX e0 e1 e2 e3
  refine Evt.B2 (P:=ExP (fun t:Int=>t=Z5 f) (fun _=>False)) ((Evt.range (fun k s=>(s=0∧∀j,j<k→A8 (Am.get f.words j))∨(s=10∧∃w∈f.words,¬A8 w)) (fun _=>False) (fun _=>False) (.inl ⟨rfl,fun j hj=>absurd hj (Nat.not_lt_zero _)⟩) (fun k s hk hi=>?_)).mono fun x hx=>?_) (fun t ht=>?_) (fun r hr=>hr.elim)
  ·unfold J5
   simp only[hw,Int.toNat_natCast,CF]
   refine Evt.bind (oH _) fun v hv=>Evt.cond (fun e=>Evt.pure (.inr ⟨rfl,_,get_mem hk,fun h=>?_⟩)) (fun e=>Evt.pure ?_)
   ·replace e:=bx e
    rw[(Z6 hv).2 h]at e;cases e
   ·replace e:=bx e
    rcases hi with⟨h1,h2⟩|h
    ·refine .inl ⟨h1,fun j hj=>?_⟩
     by_cases ej:j=k
     ·subst ej;exact(Z6 hv).1 e
     ·exact h2 j (by omega)
    ·exact .inr h
  ·cases x with
   |ret r=>exact hx
   |nxt t=>
    rcases hx.elim id False.elim with⟨h1,h2⟩|⟨h1,h2⟩
    ·show t=Z5 f
     rw[zZ,if_neg (sW h2)];exact h1
    ·show t=Z5 f
     rw[zZ,if_pos h2];exact h1
  ·have ht:t=Z5 f:=ht
   subst ht
   unfold J6
   by_cases h0:Z5 f=0
   ·rw[h0]
    exact EU iP hd0 hd hc0 hc hr (oI f h0) (q3 hn h0)
   ·exact Gq _ h0 (q2 hn h0)
 unfold F4
 simp only[hw,Int.toNat_natCast,CF]
 refine Evt.cond (fun e=>?_) (fun e=>?_)
 ·replace e:=bx e
  unfold E0
  simp only[hw,Int.toNat_natCast,CF]
  refine Evt.cond (fun e2=>by replace e2:=bx e2;omega) (fun e2=>key _ _ ?_)
  have hw3:dQ f.kind f.words.length↔f.words.length≤3:=by unfold dQ;simp[e]
  rw[hw3];omega
 ·replace e:=bx e
  unfold E0
  simp only[hw,Int.toNat_natCast,CF]
  refine Evt.cond (fun e2=>key _ _ ?_) (fun e2=>key _ _ ?_)
  ·replace e2:=bx e2
   have hw3:dQ f.kind f.words.length↔f.words.length=2:=by unfold dQ;simp[e2]
   rw[hw3];omega
  ·replace e2:=bx e2
   have hw3:dQ f.kind f.words.length↔f.words.length=0:=by unfold dQ;simp[e,e2]
   rw[hw3];omega
end
theorem EV(f:u6)(d b:Int)(h:(mB f d b).1=0):b≤(mB f d b).2∧(mB f d b).2≤200:=by
 obtain⟨_,h2,h3,_⟩:=uO f d b h
 omega
theorem xG:∀(m:Nat) (f:u6),SizeOf.sizeOf f≤m→∀(rest:List FA) (d c:Int) (st:List FA×Int×Nat),Live st (rest++[⟨f,d⟩]) c→0≤d→d≤41→(rest.length:Int)≤2*c→0≤c→c≤200→
 ((mB f d c).1=0→∃st',Live st' rest (mB f d c).2∧eN rA st st')∧((mB f d c).1≠0→kS rA st (.ret ⟨(mB f d c).1,(mB f d c).2⟩)):=by
 intro m
 induction m with
 |zero=>intro f h;cases f;simp only[u6.mk.sizeOf_spec]at h;omega
 |succ m ih=>
  intro f hf rest d c st iP hd0 hd hr hc0 hc
  rw[zM]
  by_cases h1:200<c+1∨40<d
  ·rw[if_pos h1]
   exact⟨fun h=>absurd (show(1:Int)=0 from h) (by decide),fun _=>kS.ret (uQ iP hd0 hd hc0 hc hr (fun _=>rfl) (fun h=>absurd h1 h) (fun h=>absurd h1 h))⟩
  rw[if_neg h1]
  by_cases h2:Z5 f=0
  ·rw[if_pos h2]
   have parts:∀(l:List u6),(∀x∈l,SizeOf.sizeOf x≤m)→∀(c:Int) (st:List FA×Int×Nat),Live st (rest++l.reverse.map (fat (d+1))) c→(rest.length:Int)+l.length≤2*c+1→0≤c→c≤200→
    ((dR l (d+1) c).1=0→∃st',Live st' rest (dR l (d+1) c).2∧eN rA st st')∧((dR l (d+1) c).1≠0→kS rA st (.ret ⟨(dR l (d+1) c).1,(dR l (d+1) c).2⟩)):=by
    intro l
    induction l with
    |nil=>
     intro _ c st hl _ _ _
     rw[dR]
     refine⟨fun _=>⟨st,by simpa using hl,eN.refl⟩,fun h=>absurd rfl h⟩
    |cons x l ihl=>
     intro hx c st hl hr hc0 hc
     have hl2:Live st ((rest++l.reverse.map (fat (d+1)))++[⟨x,d+1⟩]) c:=by
      rw[List.reverse_cons,List.map_append, ←List.append_assoc]at hl
      exact hl
     simp only[List.length_cons]at hr
     have i0:=ih x (hx x (List.mem_cons_self ..)) _ (d+1) c st hl2 (by omega) (by omega) (by simp only[List.length_append,List.length_map,List.length_reverse];omega) hc0 hc
     rw[dR]
     by_cases h0:(mB x (d+1) c).1=0
     ·rw[if_pos h0]
      have hbd:=EV x (d+1) c h0
      obtain⟨st',hl3,hst⟩:=i0.1 h0
      have i1:=ihl (fun y hy=>hx y (List.mem_cons_of_mem _ hy)) _ st' hl3 (by omega) (by omega) hbd.2
      refine⟨fun h=>?_,fun h=>hst.ends (i1.2 h)⟩
      obtain⟨xW,hl4,MZ⟩:=i1.1 h
      exact⟨xW,hl4,hst.trans MZ⟩
     ·rw[if_neg h0]
      exact⟨fun h=>absurd h h0,fun _=>i0.2 h0⟩
   have hsz:∀x∈f.subs,SizeOf.sizeOf x≤m:=fun x hx=>by
    obtain⟨j,hj,rfl⟩:=bT.1 hx
    have:=bU hj
    omega
   have hs2:=oI f h2
   obtain⟨c1,⟨st',rfl,hl'⟩,hN⟩:=uQ (Q:=fun c'=>∃st',c'= .nxt st'∧Live st' (rest++f.subs.reverse.map (fat (d+1))) (c+1)) iP hd0 hd hc0 hc hr (fun h=>absurd h h1) (fun _ h=>absurd h2 h) (fun _ _ st' h=>⟨st',rfl,h⟩)
   have hstep:eN rA st st':=eN.one ⟨_,rfl,hN⟩
   have ip:=parts f.subs hsz (c+1) st' hl' (by omega) (by omega) (by omega)
   refine⟨fun h=>?_,fun h=>hstep.ends (ip.2 h)⟩
   obtain⟨xW,h4,h5⟩:=ip.1 h
   exact⟨xW,h4,hstep.trans h5⟩
  ·rw[if_neg h2]
   exact⟨fun h=>absurd h h2,fun _=>kS.ret (uQ (Q:=fun c'=>c'= .ret ⟨Z5 f,c⟩) iP hd0 hd hc0 hc hr (fun h=>absurd h h1) (fun _ _=>rfl) (fun _ h=>absurd h h2))⟩
theorem sY(f:u6):Evt (fun n=>I9 n f) (fun r=>r=jG f):=by
 unfold I9
 refine Evt.bind (P:=fun r=>r=jG f) ?_ fun v hv=>Evt.pure hv
 unfold O2
 have h:=xG _ f (Nat.le_refl _) [] 1 0 ([(w6.mk f 1)],0,1) ⟨rfl,rfl,rfl⟩ (by omega) (by omega) (by simp) (by omega) (by omega)
 unfold jG
 by_cases h0:(mB f 1 0).1=0
 ·rw[if_pos h0]
  obtain⟨st',hl,hst⟩:=h.1 h0
  have hend:kS rA st' (.nxt ()):=kS.brk (by
   have:=hl.2.1
   unfold rA D8
   refine Evt.cond (fun e=>?_) (fun _=>Evt.pure rfl)
   replace e:=bx e
   have h2:st'.2.2=0:=this
   omega)
  exact Evt.B2 (hst.ends hend).evt (fun t ht=>Evt.pure rfl) (fun r hr=>by cases hr)
 ·rw[if_neg h0]
  exact Evt.B2 (h.2 h0).evt (fun t ht=>by cases ht) (fun r hr=>by cases hr;rfl)
theorem U9{α:Type}[Inhabited α]{l:List α}{k:Nat}(h:k<l.length):l.take (k+1)=l.take k++[Am.get l k]:=by
 rw[List.take_add_one,List.getElem?_eq_getElem h]
 simp[Am.get,h]
theorem Ab{ρ:Type}(xs:List Bs)(body:List Bs×Int→Option (Ctl ρ (List Bs×Int) (List Bs)))
 (hb:∀s,body s=bif decide (s.2<(xs.length:Int))then chk (0≤s.2∧s.2<(xs.length:Int)) <| Am.aB (s.1++[Am.get xs s.2.toNat]) fun c=>chk (c.length*16≤top∧c.length≤top) <| some (.nxt (c,wr .i64 (s.2+1)))else some (.brk s.1))
 (l0:List Bs) (h:l0.length+xs.length≤1000000):Evt (fun n=>G7 body n (l0,0)) (ExP (fun t=>t=l0++xs) (fun _:ρ=>False)):=by
 refine Evt.kT xs.length (fun k s=>s=(l0++xs.take k,(k:Int))) _ _ (by simp) (fun k s hk hs=>?_) (fun s hs=>?_)
 ·subst hs
  rw[hb]
  refine Evt.cond (fun _=>Evt.chk (by omega) (Evt.aB (Evt.chk ?_ (Evt.pure ?_)))) (fun e=>by replace e:=bx e;omega)
  ·rw[eL]
   simp only[List.length_append,List.length_take,List.length_cons,List.length_nil]
   omega
  ·show(_,_)=(_,_)
   rw[Z4 (by omega) (by omega),U9 hk,List.append_assoc]
   rfl
 ·subst hs
  rw[hb]
  refine Evt.cond (fun e=>by replace e:=bx e;omega) (fun _=>Evt.pure ?_)
  show l0++xs.take xs.length=_
  rw[List.take_length]
abbrev IT:=u7
mutual
def cZ:u6→List Bs→Nat→List IT
 | .mk k n w s,ar,b=>⟨k,n,w,w.map (fun x=>decide (x∈ar)),((b+(1+aD s):Nat):Int)⟩::aT s (if QK k then n::ar else ar) (b+1)
def aT:List u6→List Bs→Nat→List IT
 | [],_,_=>[]
 |x::l,ar,b=>cZ x ar b++aT l ar (b+ndF x)
end
theorem Ac(f:u6)(ar:List Bs)(b:Nat):cZ f ar b=⟨f.kind,f.name,f.words,f.words.map (fun x=>decide (x∈ar)),((b+ndF f:Nat):Int)⟩::aT f.subs (if QK f.kind then f.name::ar else ar) (b+1):=by
 cases f;rw[cZ,ndF];rfl
mutual
theorem gV:∀(f:u6) (ar:List Bs) (b:Nat),(cZ f ar b).length=ndF f
 | .mk k n w s,ar,b=>by rw[cZ,ndF,List.length_cons,gA s];omega
theorem gA:∀(l:List u6) (ar:List Bs) (b:Nat),(aT l ar b).length=aD l
 | [],_,_=>by rw[aT,aD];rfl
 |x::l,ar,b=>by rw[aT,aD,List.length_append,gV x,gA l]
end
theorem oJ:∀(l:List u6) (x:u6),aD (l++[x])=aD l+ndF x
 | [],x=>by simp[aD]
 |a::l,x=>by rw[List.cons_append,aD,aD,oJ l x];omega
theorem wg:∀(l m:List u6),aD (l++m)=aD l+aD m
 | [],m=>by simp[aD]
 |a::l,m=>by rw[List.cons_append,aD,aD,wg l m];omega
theorem lR:∀(l:List u6) (x:u6) (ar:List Bs) (b:Nat),aT (l++[x]) ar b=aT l ar b++cZ x ar (b+aD l)
 | [],x,ar,b=>by simp[aT,aD]
 |a::l,x,ar,b=>by rw[List.cons_append,aT,aT,aD,lR l x,List.append_assoc,Nat.add_assoc]
theorem kW{l:List u6}{k:Nat}(h:k<l.length):aD (l.take k)+ndF (Am.get l k)≤aD l:=by
 have e:l=(l.take k++[Am.get l k])++l.drop (k+1):=by
  rw[List.append_assoc,List.singleton_append, ←qZ h];exact(List.take_append_drop k l).symm
 have h2:aD l=aD (l.take k)+ndF (Am.get l k)+aD (l.drop (k+1)):=by
  conv=>lhs;rw[e]
  rw[wg,oJ]
 omega
theorem sZ{f:u6}(h:WfF f):f.words.length≤3:=by
 have h2:=(dS ((dL f).1 h).1).2.1
 unfold dQ at h2
 split at h2
 ·exact h2
 ·split at h2<;>omega
theorem qk{f:u6}(h:WfF f){k:Nat}(hk:k<f.subs.length):WfF (Am.get f.subs k):=M4.1 ((dL f).1 h).2 _ (get_mem hk)
theorem uR{f:u6}(h:WfF f):f.subs.length≤2:=oI f ((dL f).1 h).1
theorem wh(ar:List Bs)(x:Bs)(body:Bool×Int→Option (Ctl (Ctl (List IT) (List Bool×Int) (List Bool)) (Bool×Int) Bool))(p q:Bool×Int→Prop)[∀s,Decidable (p s)][∀s,Decidable (q s)]
 (hb:∀s,body s=bif decide (s.2<(ar.length:Int))then chk (p s) <| chk (q s) <| some (.nxt (bif s.1 then true else decide (Am.get ar s.2.toNat=x),wr .i64 (s.2+1)))else some (.brk s.1))
 (hp:∀s,0≤s.2→s.2<(ar.length:Int)→p s) (hq:∀s,q s) (h:ar.length≤1000000):Evt (fun n=>G7 body n (false,0)) (ExP (fun t=>t=decide (x∈ar)) (fun _=>False)):=by
 refine Evt.kT ar.length (fun k s=>s=(decide (x∈ar.take k),(k:Int))) _ _ (by simp) (fun k s hk hs=>?_) (fun s hs=>?_)
 ·subst hs
  rw[hb]
  refine Evt.cond (fun _=>Evt.chk (hp _ (by simp) (by simpa using hk)) (Evt.chk (hq _) (Evt.pure ?_))) (fun e=>by replace e:=bx e;omega)
  show(_,_)=(_,_)
  rw[Z4 (by omega) (by omega),U9 hk,Int.toNat_natCast]
  congr 1
  by_cases h1:x∈ar.take k
  ·simp[h1]
  ·by_cases h2:Am.get ar k=x
   ·simp[h2]
   ·simp only[h1,h2,List.mem_append,List.mem_singleton,false_or,decide_false,cond_false]
    exact(decide_eq_false fun e=>h2 e.symm).symm
 ·subst hs
  rw[hb]
  refine Evt.cond (fun e=>by replace e:=bx e;omega) (fun _=>Evt.pure ?_)
  show decide (x∈ar.take ar.length)=_
  rw[List.take_length]
theorem wj(f:u6)(ar:List Bs)(hw:f.words.length≤3)(ha:ar.length≤1000000)(body:Nat→List Bool×Int→Option (Ctl (List IT) (List Bool×Int) (List Bool)))(b2:List Bool×Int→Bool×Int→Option (Ctl (Ctl (List IT) (List Bool×Int) (List Bool)) (Bool×Int) Bool))
 (hb:∀n s,body n s=bif decide (s.2<(f.words.length:Int))then B2 (G7 (b2 s) n (false,0)) (fun t=>Am.aB (s.1++[t]) fun c=>chk (c.length*1≤top∧c.length≤top) <| some (.nxt (c,wr .i64 (s.2+1))))else some (.brk s.1))
 (h2:∀(s:List Bool×Int),0≤s.2→s.2<(f.words.length:Int)→Evt (fun n=>G7 (b2 s) n (false,0)) (ExP (fun t=>t=decide (Am.get f.words s.2.toNat∈ar)) (fun _=>False))):
 Evt (fun n=>G7 (body n) n ([],0)) (ExP (fun t=>t=f.words.map fun x=>decide (x∈ar)) (fun _=>False)):=by
 refine Evt.kT f.words.length (fun k s=>s=((f.words.take k).map (fun x=>decide (x∈ar)),(k:Int))) _ _ (by simp) (fun k s hk hs=>?_) (fun s hs=>?_)
 ·subst hs
  simp only[hb]
  refine Evt.cond (fun _=>Evt.B2 (h2 _ (by simp) (by simpa using hk)) (fun t ht=>Evt.aB (Evt.chk ?_ (Evt.pure ?_))) (fun _ h=>h.elim)) (fun e=>by replace e:=bx e;omega)
  ·rw[eL]
   simp only[List.length_append,List.length_map,List.length_take,List.length_cons,List.length_nil]
   omega
  ·have ht:t=decide (Am.get f.words k∈ar):=ht
   show(_,_)=(_,_)
   rw[Z4 (by omega) (by omega),U9 hk,List.map_append,ht]
   rfl
 ·subst hs
  simp only[hb]
  refine Evt.cond (fun e=>by replace e:=bx e;omega) (fun _=>Evt.pure ?_)
  show(f.words.take f.words.length).map _=_
  rw[List.take_length]
theorem Ad{α:Type}[Inhabited α](l:List α)(x y:α)(m:List α):((l++[x])++m).set l.length y=l++y::m∧Am.get ((l++[x])++m) l.length=x:=by
 rw[List.append_assoc]
 refine⟨?_,?_⟩
 ·rw[List.set_append_right _ _ (Nat.le_refl _),Nat.sub_self]
  rfl
 ·unfold Am.get
  rw[List.getD_eq_getElem?_getD,List.getElem?_append_right (Nat.le_refl _)]
  simp
theorem td:∀(m:Nat) (f:u6),SizeOf.sizeOf f≤m→WfF f→∀(ar:List Bs) (l:List IT),l.length+ndF f≤100000→ar.length+ndF f≤100000→
 Evt (fun n=>B4 n f ar l) (fun r=>r=l++cZ f ar l.length):=by
 intro m
 induction m with
 |zero=>intro f h;cases f;simp only[u6.mk.sizeOf_spec]at h;omega
 |succ m ih=>
  intro f hf hwf ar l hl ha
  have hnd:=sU f
  have hws:=sZ hwf
  refine Evt.succ ?_
  simp only[B4]
  refine Evt.B2 (P:=ExP (fun t=>t=f.words.map fun x=>decide (x∈ar)) (fun _=>False)) ?_ (fun t ht=>?_) (fun _ h=>h.elim)
  ·refine wj f ar hws (by omega) (fun n=>M5 n f ar) (fun s=>M6 ar s f) (fun n s=>rfl) (fun s hs0 hs1=>?_)
   refine wh ar (Am.get f.words s.2.toNat) _ (fun s2=>cg (!s2.1) (0≤s2.2)∧cg (!s2.1) (s2.2<(ar.length:Int))) (fun s2=>cg (!s2.1) (0≤s.2)∧cg (!s2.1) (s.2<(f.words.length:Int))) (fun s2=>rfl) (fun s2 h1 h2=>⟨fun _=>h1,fun _=>h2⟩) (fun _=>⟨fun _=>hs0,fun _=>hs1⟩) (by omega)
  ·have ht:t=_:=ht
   subst ht
   unfold M7
   refine Evt.aB (Evt.chk ?_ ?_)
   ·rw[eL]
    simp only[List.length_append,List.length_cons,List.length_nil]
    omega
   have key:∀ar':List Bs,ar'=(if QK f.kind then f.name::ar else ar)→Evt (fun n=>E6 (B4 n) n f (l++[⟨f.kind,f.name,f.words,f.words.map fun x=>decide (x∈ar),0⟩]) l ar') (fun r=>r=l++cZ f ar l.length):=by
    intro ar' har
    have hal:ar'.length≤ar.length+1:=by rw[har];split<;>simp
    unfold E6
    have hsl2:=uR hwf
    refine Evt.B2 (Evt.kT f.subs.length (fun k s=>s=((l++[⟨f.kind,f.name,f.words,f.words.map fun x=>decide (x∈ar),0⟩])++aT (f.subs.take k) ar' (l.length+1),(k:Int))) (fun t=>t=(l++[⟨f.kind,f.name,f.words,f.words.map fun x=>decide (x∈ar),0⟩])++aT f.subs ar' (l.length+1)) (fun _=>False) (by simp[aT]) (fun k s hk hs=>?_) (fun s hs=>?_)) (fun t ht=>?_) (fun _ h=>h.elim)
    ·subst hs
     unfold H6
     have hsz:=bU hk
     have ht:=kW hk
     have hrl:=gA (f.subs.take k) ar' (l.length+1)
     refine Evt.cond (fun _=>Evt.chk (by simp;omega) (Evt.bind (ih _ (by simp only[Int.toNat_natCast];omega) (qk hwf (by simpa using hk)) ar' _ ?_ ?_) fun v hv=>Evt.pure ?_)) (fun e=>by replace e:=bx e;omega)
     ·simp only[List.length_append,List.length_cons,List.length_nil,hrl,Int.toNat_natCast];omega
     ·simp only[Int.toNat_natCast];omega
     ·subst hv
      show(_,_)=(_,_)
      rw[Z4 (by omega) (by omega),U9 hk,lR,Int.toNat_natCast,List.append_assoc]
      simp only[List.length_append,List.length_cons,List.length_nil,hrl]
      rfl
    ·subst hs
     unfold H6
     refine Evt.cond (fun e=>by replace e:=bx e;omega) (fun _=>Evt.pure ?_)
     show _++aT (f.subs.take f.subs.length) ar' _=_
     rw[List.take_length]
    ·have ht:t=_:=ht
     subst ht
     unfold M8
     refine Evt.chk (by simp only[List.length_append,List.length_cons,List.length_nil];omega) (Evt.aB (Evt.pure ?_))
     obtain⟨h1,h2⟩:=Ad l (⟨f.kind,f.name,f.words,f.words.map fun x=>decide (x∈ar),0⟩:IT) ⟨f.kind,f.name,f.words,f.words.map fun x=>decide (x∈ar),((l.length+ndF f:Nat):Int)⟩ (aT f.subs ar' (l.length+1))
     rw[h2,Ac, ←har, ←h1]
     congr 2
     simp only[List.length_append,List.length_cons,List.length_nil,gA]
     omega
   refine Evt.cond (fun e=>?_) (fun e=>key ar ?_)
   ·have hq:QK f.kind:=by
     unfold QK
     by_cases h8:f.kind=8
     ·exact .inl h8
     ·simpa[h8]using e
    refine Evt.B2 (Ab ar (M9 ar) (fun s=>rfl) [f.name] (by simp;omega)) (fun t ht=>?_) (fun _ h=>h.elim)
    have ht:t=_:=ht
    subst ht
    exact key _ (by rw[if_pos hq];rfl)
   ·rw[if_neg]
    unfold QK
    by_cases h8:f.kind=8
    ·simp[h8]at e
    ·simpa[h8]using e
theorem CG{f:u6}(hwf:WfF f)(ar:List Bs)(hl:ndF f≤50000)(ha:ar.length≤50000):Evt (fun n=>P4 n f ar) (fun r=>r=cZ f ar 0):=by
 have h:=(td _ f (Nat.le_refl _) hwf ar [] (by simp;omega) (by omega)).mono (P':=fun r=>r=cZ f ar 0) fun r hr=>by simpa using hr
 have hnd:=sU f
 have hws:=sZ hwf
 unfold P4
 refine Evt.B2 (P:=ExP (fun t=>t=f.words.map fun x=>decide (x∈ar)) (fun _=>False)) ?_ (fun t ht=>?_) (fun _ h=>h.elim)
 ·refine wj f ar hws (by omega) (fun n=>P9 n f ar) (fun s=>Q0 ar s f) (fun n s=>rfl) (fun s hs0 hs1=>?_)
  refine wh ar (Am.get f.words s.2.toNat) _ (fun s2=>cg (!s2.1) (0≤s2.2)∧cg (!s2.1) (s2.2<(ar.length:Int))) (fun s2=>cg (!s2.1) (0≤s.2)∧cg (!s2.1) (s.2<(f.words.length:Int))) (fun s2=>rfl) (fun s2 h1 h2=>⟨fun _=>h1,fun _=>h2⟩) (fun _=>⟨fun _=>hs0,fun _=>hs1⟩) (by omega)
 ·have ht:t=_:=ht
  subst ht
  unfold Q5
  refine Evt.aB (Evt.chk (by simp[eL]) ?_)
  have key:∀ar':List Bs,ar'=(if QK f.kind then f.name::ar else ar)→Evt (fun n=>F9 n f [⟨f.kind,f.name,f.words,f.words.map fun x=>decide (x∈ar),0⟩] ar') (fun r=>r=cZ f ar 0):=by
   intro ar' har
   have hal:ar'.length≤ar.length+1:=by rw[har];split<;>simp
   unfold F9
   have hsl2:=uR hwf
   refine Evt.B2 (Evt.kT f.subs.length (fun k s=>s=([⟨f.kind,f.name,f.words,f.words.map fun x=>decide (x∈ar),0⟩]++aT (f.subs.take k) ar' 1,(k:Int))) (fun t=>t=[⟨f.kind,f.name,f.words,f.words.map fun x=>decide (x∈ar),0⟩]++aT f.subs ar' 1) (fun _=>False) (by simp[aT]) (fun k s hk hs=>?_) (fun s hs=>?_)) (fun t ht=>?_) (fun _ h=>h.elim)
   ·subst hs
    unfold K0
    have ht:=kW hk
    have hrl:=gA (f.subs.take k) ar' 1
    refine Evt.cond (fun _=>Evt.chk (by simp;omega) (Evt.bind (td _ _ (Nat.le_refl _) (qk hwf (by simpa using hk)) ar' _ ?_ ?_) fun v hv=>Evt.pure ?_)) (fun e=>by replace e:=bx e;omega)
    ·simp only[List.length_append,List.length_cons,List.length_nil,hrl,Int.toNat_natCast];omega
    ·simp only[Int.toNat_natCast];omega
    ·subst hv
     show(_,_)=(_,_)
     rw[Z4 (by omega) (by omega),U9 hk,lR,Int.toNat_natCast,List.append_assoc]
     simp only[List.length_append,List.length_cons,List.length_nil,hrl]
     rfl
   ·subst hs
    unfold K0
    refine Evt.cond (fun e=>by replace e:=bx e;omega) (fun _=>Evt.pure ?_)
    show _++aT (f.subs.take f.subs.length) ar' _=_
    rw[List.take_length]
   ·have ht:t=_:=ht
    subst ht
    unfold Q6
    refine Evt.chk (by simp only[List.length_append,List.length_cons,List.length_nil];omega) (Evt.aB (Evt.pure ?_))
    obtain⟨h1,h2⟩:=Ad [] (⟨f.kind,f.name,f.words,f.words.map fun x=>decide (x∈ar),0⟩:IT) ⟨f.kind,f.name,f.words,f.words.map fun x=>decide (x∈ar),((0+ndF f:Nat):Int)⟩ (aT f.subs ar' 1)
    simp only[List.nil_append,List.length_nil]at h1 h2
    rw[h2,Ac, ←har, ←h1]
    congr 2
    simp only[List.length_append,List.length_cons,List.length_nil,gA]
    omega
  refine Evt.cond (fun e=>?_) (fun e=>key ar ?_)
  ·have hq:QK f.kind:=by
    unfold QK
    by_cases h8:f.kind=8
    ·exact .inl h8
    ·simpa[h8]using e
   refine Evt.B2 (Ab ar (Q7 ar) (fun s=>rfl) [f.name] (by simp;omega)) (fun t ht=>?_) (fun _ h=>h.elim)
   have ht:t=_:=ht
   subst ht
   exact key _ (by rw[if_pos hq];rfl)
  ·rw[if_neg]
   unfold QK
   by_cases h8:f.kind=8
   ·simp[h8]at e
   ·simpa[h8]using e
end Go.Proofs.YtahjhbkhcaphgaaGreatDoor
