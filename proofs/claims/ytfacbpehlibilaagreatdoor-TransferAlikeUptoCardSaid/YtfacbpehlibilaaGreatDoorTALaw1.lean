import Derived.Test.YtfacbpehlibilaaGreatDoorTALaw0
set_option linter.unusedVariables false
set_option linter.unusedSimpArgs false
namespace Go.Am
open Go
section
variable {σ ρ τ:Type} {body:Nat→σ→Option (Ctl ρ σ τ)} {s s' s'':σ} {e:Ex ρ τ}
def d6H(body:Nat→σ→Option (Ctl ρ σ τ))(s s':σ):Prop:=∃k N,∀n,N≤n→∀f,d1Y (body n) (f+k) s=d1Y (body n) f s'
def i8k(body:Nat→σ→Option (Ctl ρ σ τ))(s:σ)(e:Ex ρ τ):Prop:=∃k N,∀n,N≤n→∀f,d1Y (body n) (f+k) s=some e
theorem d6H.refl:d6H body s s:=⟨0,0,fun _ _ _=>rfl⟩
theorem d6H.trans(h:d6H body s s')(k:d6H body s' s''):d6H body s s'':=by
 obtain⟨a,N,h⟩:=h
 obtain⟨b,M,k⟩:=k
 exact⟨b+a,max N M,fun n hn f=>by rw[←Nat.add_assoc,h n (by omega),k n (by omega)]⟩
theorem d6H.ends(h:d6H body s s')(k:i8k body s' e):i8k body s e:=by
 obtain⟨a,N,h⟩:=h
 obtain⟨b,M,k⟩:=k
 exact⟨b+a,max N M,fun n hn f=>by rw[←Nat.add_assoc,h n (by omega),k n (by omega)]⟩
theorem d6H.one(h:Evt (fun n=>body n s) (fun c=>c= .nxt s')):d6H body s s':=by
 obtain⟨c,rfl,N,h⟩:=h
 exact⟨1,N,fun n hn f=>by show d1Y (body n) (f+1) s=_;simp only[d1Y,h n hn]⟩
theorem i8k.brk{t:τ}(h:Evt (fun n=>body n s) (fun c=>c= .brk t)):i8k body s (.nxt t):=by
 obtain⟨c,rfl,N,h⟩:=h
 exact⟨1,N,fun n hn f=>by show d1Y (body n) (f+1) s=_;simp only[d1Y,h n hn]⟩
theorem i8k.ret{r:ρ}(h:Evt (fun n=>body n s) (fun c=>c= .ret r)):i8k body s (.ret r):=by
 obtain⟨c,rfl,N,h⟩:=h
 exact⟨1,N,fun n hn f=>by show d1Y (body n) (f+1) s=_;simp only[d1Y,h n hn]⟩
end
end Go.Am
namespace Go.Proofs.YtfacbpehlibilaaGreatDoor
open Go Go.Am
theorem get_mem{α:Type}[Inhabited α]{l:List α}{k:Nat}(h:k<l.length):Am.get l k∈l:=by
 unfold Am.get
 rw[List.getD_eq_getElem?_getD,List.getElem?_eq_getElem h]
 exact List.getElem_mem h
theorem i6L{α:Type}[Inhabited α]{l:List α}{k:Nat}(h:k<l.length):l.drop k=Am.get l k::l.drop (k+1):=by
 rw[List.drop_eq_getElem_cons h]
 unfold Am.get
 rw[List.getD_eq_getElem?_getD,List.getElem?_eq_getElem h];rfl
def Live{α:Type}(st:List α×Int×Nat)(l:List α)(c:Int):Prop:=st.1.take st.2.2=l∧st.2.2=l.length∧st.2.1=c
section
variable {α:Type} {st:List α×Int×Nat} {rest:List α} {x:α} {c:Int}
theorem Live.le{l:List α}(h:Live st l c):st.2.2≤st.1.length:=by
 have h1:=congrArg List.length h.1
 rw[List.length_take]at h1
 have h2:=h.2.1
 omega
theorem Live.sp(h:Live st (rest++[x]) c):st.2.2=rest.length+1:=by rw[h.2.1];simp
theorem Live.top[Inhabited α](h:Live st (rest++[x]) c):Am.get st.1 rest.length=x:=by
 have h1:Am.get (st.1.take st.2.2) rest.length=Am.get st.1 rest.length:=p2I (by rw[h.sp];omega)
 rw[←h1,h.1]
 exact i5C
end
end Go.Proofs.YtfacbpehlibilaaGreatDoor
namespace Go.Am
open Go
theorem Evt.p2J{σ ρ τ:Type}{body:Nat→σ→Option (Ctl ρ σ τ)}{s0:σ}(N:Nat)(I:Nat→σ→Prop)(B:τ→Prop)(R:ρ→Prop)(h0:I 0 s0)
 (hs:∀k s,k<N→I k s→Evt (fun n=>body n s) (p3L (I (k+1)) B R)) (he:∀s,I N s→Evt (fun n=>body n s) (p3L (fun _=>False) B R)):
 Evt (fun n=>d1Y (body n) n s0) (ExP B R):=by
 have key:∀j k s,k+j=N→I k s→∃e,ExP B R e∧∃M,∀n,M≤n→∀f,j<f→d1Y (body n) f s=some e:=by
  intro j
  induction j with
  |zero=>
   intro k s hk hi
   obtain rfl:k=N:=by omega
   obtain⟨c,hc,M,hM⟩:=he s hi
   cases c with
   |nxt s'=>exact hc.elim
   |brk t=>refine⟨.nxt t,hc,M,fun n hn f hf=>?_⟩;obtain⟨g,rfl⟩:∃g,f=g+1:=⟨f-1,by omega⟩;simp only[d1Y,hM n hn]
   |ret x=>refine⟨.ret x,hc,M,fun n hn f hf=>?_⟩;obtain⟨g,rfl⟩:∃g,f=g+1:=⟨f-1,by omega⟩;simp only[d1Y,hM n hn]
  |succ j ih=>
   intro k s hk hi
   obtain⟨c,hc,M,hM⟩:=hs k s (by omega) hi
   cases c with
   |nxt s'=>
    obtain⟨e,he,L,hL⟩:=ih (k+1) s' (by omega) hc
    refine⟨e,he,max M L,fun n hn f hf=>?_⟩
    obtain⟨g,rfl⟩:∃g,f=g+1:=⟨f-1,by omega⟩
    simp only[d1Y,hM n (by omega)]
    exact hL n (by omega) g (by omega)
   |brk t=>refine⟨.nxt t,hc,M,fun n hn f hf=>?_⟩;obtain⟨g,rfl⟩:∃g,f=g+1:=⟨f-1,by omega⟩;simp only[d1Y,hM n hn]
   |ret x=>refine⟨.ret x,hc,M,fun n hn f hf=>?_⟩;obtain⟨g,rfl⟩:∃g,f=g+1:=⟨f-1,by omega⟩;simp only[d1Y,hM n hn]
 obtain⟨e,he,M,hM⟩:=key N 0 s0 (by omega) h0
 exact⟨e,he,max M (N+1),fun n hn=>hM n (by omega) n (by omega)⟩
end Go.Am
namespace Go.Proofs.YtfacbpehlibilaaGreatDoor
open Go Go.Am
def QK(k:Int):Prop:=k=8∨k=9
instance(k:Int):Decidable (QK k):=inferInstanceAs (Decidable (_∨_))
mutual
def ndF:Lr→Nat
 | .mk _ _ _ s=>1+Zr s
def Zr:List Lr→Nat
 | []=>0
 |x::l=>ndF x+Zr l
end
mutual
def dpF:Lr→Nat
 | .mk _ _ _ s=>1+d3U s
def d3U:List Lr→Nat
 | []=>0
 |x::l=>max (dpF x) (d3U l)
end
mutual
def nq:Lr→Nat
 | .mk k _ _ s=>(if QK k then 1 else 0)+nqL s
def nqL:List Lr→Nat
 | []=>0
 |x::l=>nq x+nqL l
end
mutual
def qs:Lr→List Bs
 | .mk k n _ s=>(if QK k then [n]else [])++qsL s
def qsL:List Lr→List Bs
 | []=>[]
 |x::l=>qs x++qsL l
end
theorem d4V(f:Lr):ndF f=1+Zr f.subs:=by cases f;rw[ndF];rfl
theorem p2K(f:Lr):nq f=(if QK f.kind then 1 else 0)+nqL f.subs:=by cases f;rw[nq];rfl
theorem p7U(f:Lr):qs f=(if QK f.kind then [f.name]else [])++qsL f.subs:=by cases f;rw[qs];rfl
mutual
theorem i0q:∀f:Lr,(qs f).length=nq f
 | .mk k n w s=>by rw[qs,nq,List.length_append,i5D];split<;>rfl
theorem i5D:∀l:List Lr,(qsL l).length=nqL l
 | []=>by rw[qsL,nqL];rfl
 |x::l=>by rw[qsL,nqL,List.length_append,i0q,i5D]
end
mutual
theorem i0r:∀f:Lr,nq f≤ndF f
 | .mk k n w s=>by
   rw[nq,ndF]
   have:=p0o s
   split<;>omega
theorem p0o:∀l:List Lr,nqL l≤Zr l
 | []=>by rw[nqL];omega
 |x::l=>by
  rw[nqL,Zr]
  have h1:=i0r x
  have h2:=p0o l
  omega
end
theorem XE{f:Lr}{k:Nat}(h:k<f.subs.length):SizeOf.sizeOf (Am.get f.subs k)<SizeOf.sizeOf f:=by
 cases f with
 |mk a b c s=>
  have h2:Am.get s k∈s:=by
   unfold Am.get
   have h3:k<s.length:=h
   rw[List.getD_eq_getElem?_getD,List.getElem?_eq_getElem h3]
   exact List.getElem_mem h3
  have:=List.sizeOf_lt_of_mem h2
  show SizeOf.sizeOf (Am.get s k)<_
  simp only[Lr.mk.sizeOf_spec]
  omega
def arF(k:Int):Int:=if k=1∨k=2∨k=3 then 0 else if k=4∨k=8∨k=9 then 1 else if k=5∨k=6∨k=7 then 2 else -1
def d5P(k:Int)(n:Nat):Prop:=if k=2 then n≤3 else if k=3 then n=2 else n=0
instance(k:Int)(n:Nat):Decidable (d5P k n):=by unfold d5P;infer_instance
open Classical in
noncomputable def d2A(f:Lr):Int:=
 if arF f.kind<0 then 4
 else if(f.subs.length:Int)≠arF f.kind∨¬d5P f.kind f.words.length then 9
 else if(f.kind=2∨QK f.kind)∧¬Xn f.name then 10
 else if ¬(f.kind=2∨QK f.kind)∧f.name≠ []then 5
 else if ∃w∈f.words,¬Xn w then 10
 else 0
mutual
noncomputable def i4L:Lr→Int→Int→Int×Int
 | .mk k n w s,d,b=>if 200<b+1∨40<d then(1,b)else if d2A (.mk k n w s)=0 then d5Q s (d+1) (b+1)else(d2A (.mk k n w s),b)
noncomputable def d5Q:List Lr→Int→Int→Int×Int
 | [],_,b=>(0,b)
 |x::l,d,b=>if(i4L x d b).1=0 then d5Q l d (i4L x d b).2 else i4L x d b
end
theorem p4S(f:Lr)(d b:Int):i4L f d b=if 200<b+1∨40<d then(1,b)else if d2A f=0 then d5Q f.subs (d+1) (b+1)else(d2A f,b):=by
 cases f;rw[i4L];rfl
mutual
def WfF:Lr→Prop
 | .mk k n w s=>d2A (.mk k n w s)=0∧d6i s
def d6i:List Lr→Prop
 | []=>True
 |x::l=>WfF x∧d6i l
end
theorem d1P(f:Lr):WfF f↔d2A f=0∧d6i f.subs:=by cases f;rw[WfF];rfl
theorem Ym:∀ {l:List Lr},d6i l↔ ∀x∈l,WfF x
 | []=>by simp[d6i]
 |x::l=>by rw[d6i,Ym];simp
mutual
theorem p0p:∀(f:Lr) (d b:Int),(i4L f d b).1=0→WfF f∧(i4L f d b).2=b+ndF f∧b+ndF f≤200∧d-1+dpF f≤40
 | .mk k n w s,d,b,h=>by
   rw[i4L]at h⊢
   split at h
   ·cases h
   ·rename_i h1
    rw[if_neg h1]
    split at h
    ·rename_i h2
     rw[if_pos h2]
     obtain⟨w1,w2,w3,w4⟩:=i6M s (d+1) (b+1) h (by omega) (by omega)
     rw[WfF,ndF,dpF]
     refine⟨⟨h2,w1⟩,?_,?_,?_⟩<;>omega
    ·exact absurd h (by assumption)
theorem i6M:∀(l:List Lr) (d b:Int),(d5Q l d b).1=0→b≤200→d-1≤40→d6i l∧(d5Q l d b).2=b+Zr l∧b+Zr l≤200∧d-1+d3U l≤40
 | [],d,b,_,hb,hd=>by rw[d5Q,d6i,Zr,d3U];refine⟨trivial,?_,?_,?_⟩<;>first|omega|(show b=_;omega)
 |x::l,d,b,h,hb,hd=>by
  rw[d5Q]at h⊢
  split at h
  ·rename_i h1
   rw[if_pos h1]
   obtain⟨w1,w2,w3,w4⟩:=p0p x d b h1
   rw[w2]at h⊢
   obtain⟨v1,v2,v3,v4⟩:=i6M l d (b+ndF x) h w3 hd
   rw[d6i,Zr,d3U]
   refine⟨⟨w1,v1⟩,?_,?_,?_⟩<;>omega
  ·exact absurd h (by assumption)
end
mutual
theorem p0q:∀(f:Lr) (d b:Int),WfF f→b+ndF f≤200→d-1+dpF f≤40→i4L f d b=(0,b+ndF f)
 | .mk k n w s,d,b,h1,h2,h3=>by
   rw[WfF]at h1
   rw[ndF]at h2⊢
   rw[dpF]at h3
   rw[i4L,if_neg (by omega),if_pos h1.1,i6N s (d+1) (b+1) h1.2 (by omega) (by omega)]
   congr 1
   omega
theorem i6N:∀(l:List Lr) (d b:Int),d6i l→b+Zr l≤200→d-1+d3U l≤40→d5Q l d b=(0,b+Zr l)
 | [],d,b,_,_,_=>by rw[d5Q,Zr];congr 1;omega
 |x::l,d,b,h1,h2,h3=>by
  rw[d6i]at h1
  rw[Zr]at h2⊢
  rw[d3U]at h3
  rw[d5Q,p0q x d b h1.1 (by omega) (by omega),if_pos rfl,i6N l d _ h1.2 (by omega) (by omega)]
  congr 1
  omega
end
def OkF(f:Lr):Prop:=WfF f∧ndF f≤200∧dpF f≤40
theorem i6O(f:Lr):(i4L f 1 0).1=0↔OkF f:=by
 refine⟨fun h=>?_,fun h=>?_⟩
 ·obtain⟨h1,h2,h3,h4⟩:=p0p f 1 0 h
  exact⟨h1,by omega,by omega⟩
 ·rw[p0q f 1 0 h.1 (by have:=h.2.1;omega) (by have:=h.2.2;omega)]
theorem d1D{f:Lr}(h:d2A f=0):(f.subs.length:Int)=arF f.kind∧d5P f.kind f.words.length∧(f.kind=2∨QK f.kind→Xn f.name)∧(¬(f.kind=2∨QK f.kind)→f.name=[])∧∀w∈f.words,Xn w:=by
 unfold d2A at h
 split at h
 ·cases h
 split at h
 ·cases h
 split at h
 ·cases h
 split at h
 ·cases h
 split at h
 ·cases h
 rename_i h1 h2 h3 h4 h5
 refine⟨Classical.byContradiction fun e=>h2 (.inl e),Classical.byContradiction fun e=>h2 (.inr e),fun h=>Classical.byContradiction fun e=>h3 ⟨h,e⟩,fun h=>Classical.byContradiction fun e=>h4 ⟨h,e⟩,fun w hw=>Classical.byContradiction fun e=>h5 ⟨w,hw,e⟩⟩
theorem p2L{f:Lr}(h0:0≤arF f.kind)(h1:(f.subs.length:Int)=arF f.kind)(h2:d5P f.kind f.words.length)(h3:f.kind=2∨QK f.kind→Xn f.name)(h4:¬(f.kind=2∨QK f.kind)→f.name=[])(h5:∀w∈f.words,Xn w):d2A f=0:=by
 unfold d2A
 rw[if_neg (by omega),if_neg (fun h=>h.elim (fun e=>e h1) (fun e=>e h2)),if_neg (fun h=>h.2 (h3 h.1)),if_neg (fun h=>h.2 (h4 h.1)),if_neg (fun⟨w,hw,e⟩=>e (h5 w hw))]
def sub(env:List (Bs×Bs))(w:Bs):Bs:=((env.find? (fun p=>p.1==w)).map (·.2)).getD w
theorem d8i(w:Bs):sub [] w=w:=rfl
theorem Ye(a b w:Bs)(env:List (Bs×Bs)):sub ((a,b)::env) w=if a=w then b else sub env w:=by
 unfold sub
 rw[List.find?_cons]
 by_cases h:a=w
 ·simp[h]
 ·have:(a==w)=false:=beq_false_of_ne h
  simp[this,h]
theorem d6V{env:List (Bs×Bs)}{w:Bs}(h:∀p∈env,p.1≠w):sub env w=w:=by
 induction env with
 |nil=>rfl
 |cons p env ih=>
  obtain⟨a,b⟩:=p
  rw[Ye,if_neg (h (a,b) (List.mem_cons_self ..)),ih fun q hq=>h q (List.mem_cons_of_mem _ hq)]
theorem i2E{env:List (Bs×Bs)}{w:Bs}(h:w∈env.map (·.1)):sub env w∈env.map (·.2):=by
 induction env with
 |nil=>cases h
 |cons p env ih=>
  obtain⟨a,b⟩:=p
  rw[Ye]
  split
  ·exact List.mem_cons_self ..
  ·rename_i hne
   rw[List.map_cons,List.mem_cons]at h
   exact List.mem_cons_of_mem _ (ih (h.resolve_left fun e=>hne e.symm))
mutual
def ren(N:Nat→Bs):Lr→List (Bs×Bs)→Nat→Lr
 | .mk k n w s,env,i=>.mk k (if QK k then N i else n) (w.map (sub env)) (Yu N s (if QK k then(n,N i)::env else env) (i+if QK k then 1 else 0))
def Yu(N:Nat→Bs):List Lr→List (Bs×Bs)→Nat→List Lr
 | [],_,_=>[]
 |x::l,env,i=>ren N x env i::Yu N l env (i+nq x)
end
theorem i1J(N:Nat→Bs)(f:Lr)(env:List (Bs×Bs))(i:Nat):ren N f env i= .mk f.kind (if QK f.kind then N i else f.name) (f.words.map (sub env)) (Yu N f.subs (if QK f.kind then(f.name,N i)::env else env) (i+if QK f.kind then 1 else 0)):=by
 cases f;rw[ren];rfl
theorem d2J(N:Nat→Bs):∀(l:List Lr) (env:List (Bs×Bs)) (i:Nat),(Yu N l env i).length=l.length
 | [],_,_=>by rw[Yu]
 |x::l,env,i=>by rw[Yu,List.length_cons,List.length_cons,d2J N l]
mutual
theorem i4c(N:Nat→Bs):∀(f:Lr) (env:List (Bs×Bs)) (i:Nat),nq (ren N f env i)=nq f
 | .mk k n w s,env,i=>by rw[ren,nq,nq,p0r N s]
theorem p0r(N:Nat→Bs):∀(l:List Lr) (env:List (Bs×Bs)) (i:Nat),nqL (Yu N l env i)=nqL l
 | [],env,i=>by rw[Yu]
 |x::l,env,i=>by rw[Yu,nqL,nqL,i4c N x,p0r N l]
end
mutual
theorem p0s(N:Nat→Bs):∀(f:Lr) (env:List (Bs×Bs)) (i:Nat),ndF (ren N f env i)=ndF f
 | .mk k n w s,env,i=>by rw[ren,ndF,ndF,p0t N s]
theorem p0t(N:Nat→Bs):∀(l:List Lr) (env:List (Bs×Bs)) (i:Nat),Zr (Yu N l env i)=Zr l
 | [],env,i=>by rw[Yu]
 |x::l,env,i=>by rw[Yu,Zr,Zr,p0s N x,p0t N l]
end
mutual
theorem p3O(N:Nat→Bs):∀(f:Lr) (env:List (Bs×Bs)) (i:Nat),dpF (ren N f env i)=dpF f
 | .mk k n w s,env,i=>by rw[ren,dpF,dpF,p0u N s]
theorem p0u(N:Nat→Bs):∀(l:List Lr) (env:List (Bs×Bs)) (i:Nat),d3U (Yu N l env i)=d3U l
 | [],env,i=>by rw[Yu]
 |x::l,env,i=>by rw[Yu,d3U,d3U,p3O N x,p0u N l]
end
def nms(N:Nat→Bs):Nat→Nat→List Bs
 | _,0=>[]
 |i,m+1=>N i::nms N (i+1) m
theorem i5E(N:Nat→Bs):∀(a b i:Nat),nms N i (a+b)=nms N i a++nms N (i+a) b
 |0,b,i=>by rw[Nat.zero_add];rfl
 |a+1,b,i=>by rw[show a+1+b=(a+b)+1 by omega,nms,nms,i5E N a b,List.cons_append,show i+1+a=i+(a+1)by omega]
mutual
theorem p7V(N:Nat→Bs):∀(f:Lr) (env:List (Bs×Bs)) (i:Nat),qs (ren N f env i)=nms N i (nq f)
 | .mk k n w s,env,i=>by
   rw[ren,qs,nq,p0v N s,i5E]
   by_cases h:QK k
   ·simp only[if_pos h];rfl
   ·simp only[if_neg h];rfl
theorem p0v(N:Nat→Bs):∀(l:List Lr) (env:List (Bs×Bs)) (i:Nat),qsL (Yu N l env i)=nms N i (nqL l)
 | [],env,i=>by rw[Yu,nqL];rfl
 |x::l,env,i=>by rw[Yu,qsL,nqL,p7V N x,p0v N l,i5E]
end
def Idn(env:List (Bs×Bs)):Prop:=∀p∈env,p.1=p.2
theorem p7W{env:List (Bs×Bs)}(h:Idn env)(w:Bs):sub env w=w:=by
 induction env with
 |nil=>rfl
 |cons p env ih=>
  obtain⟨a,b⟩:=p
  rw[Ye,ih fun q hq=>h q (List.mem_cons_of_mem _ hq)]
  split
  ·rename_i e;rw[←e];exact(h (a,b) (List.mem_cons_self ..)).symm
  ·rfl
mutual
theorem p4T(N:Nat→Bs):∀(f:Lr) (env env':List (Bs×Bs)) (i:Nat),Idn env'→ren N (ren N f env i) env' i=ren N f env i
 | .mk k n w s,env,env',i,h=>by
   have hw:(w.map (sub env)).map (sub env')=w.map (sub env):=by
    conv=>rhs;rw[←List.map_id (w.map (sub env))]
    exact List.map_congr_left fun x _=>p7W h x
   rw[ren,ren,hw]
   by_cases hq:QK k
   ·simp only[if_pos hq]
    rw[i2F N s _ _ _ (fun p hp=>by
     rcases List.mem_cons.1 hp with rfl|hp
     ·rfl
     ·exact h p hp)]
   ·simp only[if_neg hq]
    rw[i2F N s _ _ _ h]
theorem i2F(N:Nat→Bs):∀(l:List Lr) (env env':List (Bs×Bs)) (i:Nat),Idn env'→Yu N (Yu N l env i) env' i=Yu N l env i
 | [],env,env',i,h=>by rw[Yu,Yu]
 |x::l,env,env',i,h=>by
  rw[Yu,Yu,p4T N x _ _ _ h,i4c,i2F N l _ _ _ h]
end
mutual
def fre:Lr→List Bs→Bs→Prop
 | .mk k n w s,bd,x=>(x∈w∧x∉bd)∨d0x s (if QK k then n::bd else bd) x
def d0x:List Lr→List Bs→Bs→Prop
 | [],_,_=>False
 |f::l,bd,x=>fre f bd x∨d0x l bd x
end
theorem i4d(f:Lr)(bd:List Bs)(x:Bs):fre f bd x↔(x∈f.words∧x∉bd)∨d0x f.subs (if QK f.kind then f.name::bd else bd) x:=by cases f;rw[fre];rfl
theorem i2G:∀ {l:List Lr} {bd:List Bs} {x:Bs},d0x l bd x↔ ∃f∈l,fre f bd x
 | [],bd,x=>by simp[d0x]
 |f::l,bd,x=>by rw[d0x,i2G];simp
mutual
theorem p0w:∀(f:Lr) (bd:List Bs) (x:Bs),fre f bd x→x∉bd
 | .mk k n w s,bd,x,h=>by
   rw[fre]at h
   rcases h with h|h
   ·exact h.2
   ·have:=i6P s _ x h
    split at this
    ·exact fun e=>this (List.mem_cons_of_mem _ e)
    ·exact this
theorem i6P:∀(l:List Lr) (bd:List Bs) (x:Bs),d0x l bd x→x∉bd
 | [],bd,x,h=>by rw[d0x]at h;exact h.elim
 |f::l,bd,x,h=>by
  rw[d0x]at h
  exact h.elim (p0w f bd x) (i6P l bd x)
end
mutual
theorem p4U(N:Nat→Bs)(U:Bs→Prop)(hN:∀i,¬U (N i)):∀(f:Lr) (env:List (Bs×Bs)) (i:Nat),(∀x,fre f (env.map (·.1)) x→U x)→(∀p∈env,∃j,p.2=N j)→∀x,fre (ren N f env i) (env.map (·.2)) x↔fre f (env.map (·.1)) x
 | .mk k n w s,env,i,hU,he,x=>by
   have key:∀y∈w,(sub env y∉env.map (·.2)↔y∉env.map (·.1))∧(y∉env.map (·.1)→sub env y=y):=fun y hy=>by
    by_cases hb:y∈env.map (·.1)
    ·exact⟨⟨fun h=>absurd (i2E hb) h,fun h=>absurd hb h⟩,fun h=>absurd hb h⟩
    ·have e:sub env y=y:=d6V fun p hp e=>hb (List.mem_map.2 ⟨p,hp,e⟩)
     rw[e]
     refine⟨⟨fun _=>hb,fun _ h=>?_⟩,fun _=>rfl⟩
     obtain⟨p,hp,e2⟩:=List.mem_map.1 h
     obtain⟨j,hj⟩:=he p hp
     exact hN j (by rw[←hj,e2];exact hU y (by rw[fre];exact .inl ⟨hy,hb⟩))
   have hs:d0x (Yu N s (if QK k then(n,N i)::env else env) (i+if QK k then 1 else 0)) (if QK k then N i::env.map (·.2)else env.map (·.2)) x↔d0x s (if QK k then n::env.map (·.1)else env.map (·.1)) x:=by
    by_cases hq:QK k
    ·simp only[if_pos hq]
     exact i2H N U hN s ((n,N i)::env) (i+1) (fun y hy=>hU y (by rw[fre,if_pos hq];exact .inr hy)) (fun p hp=>by
      rcases List.mem_cons.1 hp with rfl|hp
      ·exact⟨i,rfl⟩
      ·exact he p hp) x
    ·simp only[if_neg hq]
     exact i2H N U hN s env _ (fun y hy=>hU y (by rw[fre,if_neg hq];exact .inr hy)) he x
   rw[ren,fre,fre]
   have hn:(if QK k then(if QK k then N i else n)::env.map (·.2)else env.map (·.2))=(if QK k then N i::env.map (·.2)else env.map (·.2)):=by
    by_cases hq:QK k<;>simp[hq]
   rw[hn,hs]
   refine or_congr_left ⟨fun h=>?_,fun h=>?_⟩
   ·obtain⟨h1,h2⟩:=h
    obtain⟨y,hy,rfl⟩:=List.mem_map.1 h1
    have hk:=key y hy
    have hb:=hk.1.1 h2
    rw[hk.2 hb]
    exact⟨hy,hb⟩
   ·have hk:=key x h.1
    have e:=hk.2 h.2
    exact⟨List.mem_map.2 ⟨x,h.1,e⟩,by rw[←e];exact hk.1.2 h.2⟩
theorem i2H(N:Nat→Bs)(U:Bs→Prop)(hN:∀i,¬U (N i)):∀(l:List Lr) (env:List (Bs×Bs)) (i:Nat),(∀x,d0x l (env.map (·.1)) x→U x)→(∀p∈env,∃j,p.2=N j)→∀x,d0x (Yu N l env i) (env.map (·.2)) x↔d0x l (env.map (·.1)) x
 | [],env,i,_,_,x=>by rw[Yu];simp[d0x]
 |f::l,env,i,hU,he,x=>by
  rw[Yu,d0x,d0x,p4U N U hN f env i (fun y hy=>hU y (by rw[d0x];exact .inl hy)) he x,i2H N U hN l env _ (fun y hy=>hU y (by rw[d0x];exact .inr hy)) he x]
end
theorem p4V(k:Int):d3V k=some (arF k):=by
 by_cases h1:k=1
 ·subst h1;rfl
 by_cases h2:k=2
 ·subst h2;rfl
 by_cases h3:k=3
 ·subst h3;rfl
 by_cases h4:k=4
 ·subst h4;rfl
 by_cases h5:k=5
 ·subst h5;rfl
 by_cases h6:k=6
 ·subst h6;rfl
 by_cases h7:k=7
 ·subst h7;rfl
 by_cases h8:k=8
 ·subst h8;rfl
 by_cases h9:k=9
 ·subst h9;rfl
 simp[d3V,d1b,d1c,d1d,arF,h1,h2,h3,h4,h5,h6,h7,h8,h9]
theorem d1i(f:Lr):WV f=some (decide (QK f.kind)):=by
 unfold WV QK
 by_cases h:f.kind=8<;>simp[h]
def i8D(c:Int×Int)(b:Int)(r:WC×Int):Prop:=r.1.code=c.1∧(c.1=0→r=(⟨0,0⟩,c.2)∧b≤c.2∧c.2≤200)∧(c.1≠0→r.1=⟨c.1,c.2⟩)
theorem i8D.bad{c b x:Int}{r:WC×Int}(hc:c≠0)(hr:r.1=⟨c,x⟩):i8D (c,x) b r:=⟨by rw[hr],fun h=>absurd h hc,fun _=>hr⟩
theorem p3P(k:Int):arF k≤2:=by unfold arF;repeat' split<;>omega
theorem p4W{f:Lr}(h:arF f.kind<0):d2A f=4:=by unfold d2A;rw[if_pos h]
theorem p4X{f:Lr}(h0:¬arF f.kind<0)(h:(f.subs.length:Int)≠arF f.kind∨¬d5P f.kind f.words.length):d2A f=9:=by unfold d2A;rw[if_neg h0,if_pos h]
theorem p2M{f:Lr}(h0:¬arF f.kind<0)(h1:¬((f.subs.length:Int)≠arF f.kind∨¬d5P f.kind f.words.length))(h:(f.kind=2∨QK f.kind)∧¬Xn f.name):d2A f=10:=by unfold d2A;rw[if_neg h0,if_neg h1,if_pos h]
theorem p4Y{f:Lr}(h0:¬arF f.kind<0)(h1:¬((f.subs.length:Int)≠arF f.kind∨¬d5P f.kind f.words.length))(h2:¬((f.kind=2∨QK f.kind)∧¬Xn f.name))(h:¬(f.kind=2∨QK f.kind)∧f.name≠ []):d2A f=5:=by unfold d2A;rw[if_neg h0,if_neg h1,if_neg h2,if_pos h]
open Classical in
theorem p4Z{f:Lr}(h0:¬arF f.kind<0)(h1:¬((f.subs.length:Int)≠arF f.kind∨¬d5P f.kind f.words.length))(h2:¬((f.kind=2∨QK f.kind)∧¬Xn f.name))(h3:¬(¬(f.kind=2∨QK f.kind)∧f.name≠ [])):d2A f=if ∃w∈f.words,¬Xn w then 10 else 0:=by unfold d2A;rw[if_neg h0,if_neg h1,if_neg h2,if_neg h3]
theorem d5R{s:Bs}{b:Bool}(h:b=i4b s):b=true↔Xn s:=by
 rw[h];unfold i4b;simp
theorem p0x{l:List Bs}(h:∀j,j<l.length→Xn (Am.get l j)):¬ ∃w∈l,¬Xn w:=fun⟨w,hw,hn⟩=>by
 obtain⟨j,hj,rfl⟩:=d1g.1 hw
 exact hn (h j hj)
theorem p0y:∀(m:Nat) (f:Lr),SizeOf.sizeOf f≤m→∀d b:Int,0≤d→d≤41→0≤b→b≤200→Evt (fun n=>XK n f d b false) (i8D (i4L f d b) b):=by
 intro m
 induction m with
 |zero=>intro f h;cases f;simp only[Lr.mk.sizeOf_spec]at h;omega
 |succ m ih=>
  intro f hf d b hd0 hd hb0 hb
  have hw1:wr .i64 (d+1)=d+1:=d6p (by omega) (by omega)
  have hw2:wr .i64 (b+1)=b+1:=d6p (by omega) (by omega)
  refine Evt.succ ?_
  simp only[XK,hw2,p4V,Option.bind_some]
  rw[p4S]
  refine Evt.cond (fun e=>?_) (fun e=>?_)
  ·replace e:=bx e
   rw[if_pos (by omega)]
   exact Evt.pure (i8D.bad (by decide) rfl)
  replace e:=bx e
  rw[if_neg (by omega)]
  have key:Evt (fun n=>ZE (XK n) b f d false (arF f.kind)) (i8D (if d2A f=0 then d5Q f.subs (d+1) (b+1)else(d2A f,b)) b):=by
   unfold ZE
   refine Evt.cond (fun e=>?_) (fun e=>?_)
   ·replace e:=bx e
    rw[p4W e,if_neg (by decide)]
    exact Evt.pure (i8D.bad (by decide) rfl)
   replace e:=bx e
   have e0:¬arF f.kind<0:=by omega
   have k1:∀c:Bool,(c=true↔d5P f.kind f.words.length)→Evt (fun n=>YQ (XK n) f (arF f.kind) b d false c) (i8D (if d2A f=0 then d5Q f.subs (d+1) (b+1)else(d2A f,b)) b):=by
    intro c hc
    unfold YQ
    refine Evt.cond (fun e=>?_) (fun e=>?_)
    ·replace e:=bx e
     rw[p4X e0 (by
      rcases e with e|e
      ·exact .inl e
      ·exact .inr fun h=>by rw[hc.2 h]at e;cases e),if_neg (by decide)]
     exact Evt.pure (i8D.bad (by decide) (by simp only[hw2]))
    replace e:=bx e
    have e1:¬((f.subs.length:Int)≠arF f.kind∨¬d5P f.kind f.words.length):=fun h=>h.elim (fun h=>h e.1) (fun h=>h (hc.1 e.2))
    have h10:f.kind≠10:=fun h=>by
     rw[h]at e0;exact e0 (by decide)
    simp only[d1i]
    refine Evt.bind (P:=fun v=>v=(!(decide (f.kind=2))&&decide (QK f.kind))) (Evt.gd (fun g=>Evt.pure (by replace g:=bx g;simp[g])) (fun g=>by replace g:=bx g;simp[g])) fun v5 hv5=>?_
    have hn:(bif bif decide (f.kind=2)then true else v5 then true else decide (f.kind=10))=decide (f.kind=2∨QK f.kind):=by
     subst hv5
     by_cases h2:f.kind=2<;>simp[h2,h10]
    rw[hn]
    refine Evt.bind (P:=fun v=>(f.kind=2∨QK f.kind)→(v=true↔Xn f.name)) (Evt.gd (fun g=>(d6U f.name).mono fun v hv _=>d5R hv) (fun g h=>absurd h (by simpa using g))) fun v6 hv6=>?_
    refine Evt.cond (fun e=>?_) (fun e=>?_)
    ·replace e:=bx e
     rw[p2M e0 e1 ⟨e.1,fun h=>by rw[(hv6 e.1).2 h]at e;cases e.2⟩,if_neg (by decide)]
     exact Evt.pure (i8D.bad (by decide) (by simp only[hw2]))
    have e2:¬((f.kind=2∨QK f.kind)∧¬Xn f.name):=fun⟨h1,h2⟩=>by
     cases v6 with
     |true=>exact h2 ((hv6 h1).1 rfl)
     |false=>simp[h1]at e
    refine Evt.cond (fun e=>?_) (fun e=>?_)
    ·replace e:=bx e
     rw[p4Y e0 e1 e2 ⟨by simpa using e.1,e.2⟩,if_neg (by decide)]
     exact Evt.pure (i8D.bad (by decide) (by simp only[hw2]))
    have e3:¬(¬(f.kind=2∨QK f.kind)∧f.name≠ []):=fun⟨h1,h2⟩=>by simp[h1,h2]at e
    have p7X:=p4Z e0 e1 e2 e3
    refine Evt.WL (Evt.scan (fun k _=>∀j,j<k→Xn (Am.get f.words j)) (fun k r=>r.1=⟨10,b⟩∧∃w∈f.words,¬Xn w) (fun j hj=>absurd hj (Nat.not_lt_zero _)) (fun k u hk hi=>?_)) (fun t ht=>?_) (fun r hr=>?_)
    ·unfold d2f
     refine Evt.bind (d6U _) fun v hv=>Evt.cond (fun e=>?_) (fun e=>Evt.pure ?_)
     ·replace e:=bx e
      exact Evt.pure ⟨rfl,_,get_mem hk,fun h=>by rw[(d5R hv).2 h]at e;cases e⟩
     ·replace e:=bx e
      intro j hj
      by_cases ej:j=k
      ·subst ej;exact(d5R hv).1 e
      ·exact hi j (by omega)
    ·have hall:=p0x ht
     rw[p7X,if_neg hall,if_pos rfl]
     unfold d2g
     rw[hw2]
     have hsl:f.subs.length≤2:=by
      have:=p3P f.kind
      have:(f.subs.length:Int)=arF f.kind:=Classical.byContradiction fun h=>e1 (.inl h)
      omega
     refine Evt.WL (Evt.range (fun k c=>d5Q (f.subs.drop k) (d+1) c=d5Q f.subs (d+1) (b+1)∧b+1≤c∧c≤200) (fun _=>False) (fun r=>i8D (d5Q f.subs (d+1) (b+1)) b r) ⟨rfl,by omega,by omega⟩ (fun k c hk hj=>?_)) (fun t ht=>Evt.pure ?_) (fun r hr=>hr)
     ·obtain⟨h1,h2,h3⟩:=hj
      unfold d2h
      have hsz:=XE hk
      rw[hw1]
      rw[i6L hk,d5Q]at h1
      refine Evt.bind (ih _ (by omega) _ _ (by omega) (by omega) (by omega) h3) fun v hv=>Evt.cond (fun e=>Evt.pure ?_) (fun e=>Evt.pure ?_)
      ·replace e:=bx e
       rw[hv.1]at e
       rw[if_neg e]at h1
       rw[←h1]
       exact⟨hv.1,fun h=>absurd h e,hv.2.2⟩
      ·replace e:=bx e
       rw[hv.1]at e
       rw[if_pos e]at h1
       obtain⟨hv1,hv2,hv3⟩:=hv.2.1 e
       rw[hv1]
       exact⟨h1,by show b+1≤(i4L _ _ _).2;omega,hv3⟩
     ·obtain⟨h1,h2,h3⟩:=ht.elim id False.elim
      rw[List.drop_length,d5Q]at h1
      unfold d2i at*
      rw[←h1]
      exact⟨rfl,fun _=>⟨rfl,by show b≤t;omega,h3⟩,fun h=>absurd rfl h⟩
    ·obtain⟨k,_,_,_,h1,h2⟩:=hr
     rw[p7X,if_pos h2,if_neg (by decide)]
     exact i8D.bad (by decide) h1
   refine Evt.cond (fun e=>k1 _ ?_) (fun e=>Evt.cond (fun e2=>k1 _ ?_) (fun e2=>k1 _ ?_))
   ·replace e:=bx e
    unfold d5P;simp[e];omega
   ·replace e:=bx e;replace e2:=bx e2
    unfold d5P;simp[e2];omega
   ·replace e:=bx e;replace e2:=bx e2
    unfold d5P;simp[e,e2]
  refine Evt.cond (fun e=>?_) (fun e=>key)
  simp at e
noncomputable def d6I(f:Lr):WC:=if(i4L f 1 0).1=0 then⟨0,0⟩else⟨(i4L f 1 0).1,(i4L f 1 0).2⟩
theorem d3W(f:Lr):(d6I f).code=0↔OkF f:=by
 rw[←i6O]
 unfold d6I
 split
 ·simp[*]
 ·simp[*]
theorem i0s{f:Lr}(h:OkF f):d6I f=⟨0,0⟩:=by unfold d6I;rw[if_pos ((i6O f).2 h)]
theorem d1j(f:Lr):Evt (fun n=>YM n f) (fun r=>r=d6I f):=by
 unfold YM d4r
 simp only[Option.bind_assoc,Option.bind_some]
 refine Evt.bind (p0y _ f (Nat.le_refl _) 1 0 (by omega) (by omega) (by omega) (by omega)) fun v hv=>Evt.pure ?_
 unfold d6I
 split
 ·rename_i h;rw[(hv.2.1 h).1]
 ·rename_i h;exact hv.2.2 h
abbrev FA:=WM
theorem p0z(f:Lr):d2A f=0→f.subs.length≤2:=fun h=>by
 have h1:=(d1D h).1
 have:=p3P f.kind
 omega
section
variable {rest:List FA} {f:Lr} {d c:Int} {st:List FA×Int×Nat}
end
theorem Xq{α:Type}[Inhabited α]{l:List α}{k:Nat}(h:k<l.length):l.take (k+1)=l.take k++[Am.get l k]:=by
 rw[List.take_add_one,List.getElem?_eq_getElem h]
 simp[Am.get,h]
abbrev IT:=WU
mutual
def i8l:Lr→List Bs→Nat→List IT
 | .mk k n w s,ar,b=>⟨k,n,w,w.map (fun x=>decide (x∈ar)),((b+(1+Zr s):Nat):Int)⟩::d6r s (if QK k then n::ar else ar) (b+1)
def d6r:List Lr→List Bs→Nat→List IT
 | [],_,_=>[]
 |x::l,ar,b=>i8l x ar b++d6r l ar (b+ndF x)
end
mutual
theorem d9m:∀(f:Lr) (ar:List Bs) (b:Nat),(i8l f ar b).length=ndF f
 | .mk k n w s,ar,b=>by rw[i8l,ndF,List.length_cons,i4e s];omega
theorem i4e:∀(l:List Lr) (ar:List Bs) (b:Nat),(d6r l ar b).length=Zr l
 | [],_,_=>by rw[d6r,Zr];rfl
 |x::l,ar,b=>by rw[d6r,Zr,List.length_append,d9m x,i4e l]
end
theorem d4W:∀(l:List Lr) (x:Lr),Zr (l++[x])=Zr l+ndF x
 | [],x=>by simp[Zr]
 |a::l,x=>by rw[List.cons_append,Zr,Zr,d4W l x];omega
theorem i6Q:∀(l m:List Lr),Zr (l++m)=Zr l+Zr m
 | [],m=>by simp[Zr]
 |a::l,m=>by rw[List.cons_append,Zr,Zr,i6Q l m];omega
theorem d0g{l:List Lr}{k:Nat}(h:k<l.length):Zr (l.take k)+ndF (Am.get l k)≤Zr l:=by
 have e:l=(l.take k++[Am.get l k])++l.drop (k+1):=by
  rw[List.append_assoc,List.singleton_append, ←i6L h];exact(List.take_append_drop k l).symm
 have h2:Zr l=Zr (l.take k)+ndF (Am.get l k)+Zr (l.drop (k+1)):=by
  conv=>lhs;rw[e]
  rw[i6Q,d4W]
 omega
theorem i4f{f:Lr}(h:WfF f):f.words.length≤3:=by
 have h2:=(d1D ((d1P f).1 h).1).2.1
 unfold d5P at h2
 split at h2
 ·exact h2
 ·split at h2<;>omega
theorem i0t{f:Lr}(h:WfF f){k:Nat}(hk:k<f.subs.length):WfF (Am.get f.subs k):=Ym.1 ((d1P f).1 h).2 _ (get_mem hk)
theorem i2I{f:Lr}(h:WfF f):f.subs.length≤2:=p0z f ((d1P f).1 h).1
end Go.Proofs.YtfacbpehlibilaaGreatDoor
