import Derived.Test.YtdjnbjnlnjhllaaDoorFBLaw0
set_option linter.unusedVariables false
set_option linter.unusedSimpArgs false
namespace Go.Am
open Go
section
variable {σ ρ τ:Type} {body:Nat→σ→Option (Ctl ρ σ τ)} {s s' s'':σ} {e:Ex ρ τ}
def Wf(body:Nat→σ→Option (Ctl ρ σ τ))(s s':σ):Prop:=∃k N,∀n,N≤n→∀f,Qk (body n) (f+k) s=Qk (body n) f s'
def d5e(body:Nat→σ→Option (Ctl ρ σ τ))(s:σ)(e:Ex ρ τ):Prop:=∃k N,∀n,N≤n→∀f,Qk (body n) (f+k) s=some e
theorem Wf.refl:Wf body s s:=⟨0,0,fun _ _ _=>rfl⟩
theorem Wf.trans(h:Wf body s s')(k:Wf body s' s''):Wf body s s'':=by
 obtain⟨a,N,h⟩:=h
 obtain⟨b,M,k⟩:=k
 exact⟨b+a,max N M,fun n hn f=>by rw[←Nat.add_assoc,h n (by omega),k n (by omega)]⟩
theorem Wf.ends(h:Wf body s s')(k:d5e body s' e):d5e body s e:=by
 obtain⟨a,N,h⟩:=h
 obtain⟨b,M,k⟩:=k
 exact⟨b+a,max N M,fun n hn f=>by rw[←Nat.add_assoc,h n (by omega),k n (by omega)]⟩
theorem Wf.one(h:Evt (fun n=>body n s) (fun c=>c= .nxt s')):Wf body s s':=by
 obtain⟨c,rfl,N,h⟩:=h
 exact⟨1,N,fun n hn f=>by show Qk (body n) (f+1) s=_;simp only[Qk,h n hn]⟩
theorem d5e.brk{t:τ}(h:Evt (fun n=>body n s) (fun c=>c= .brk t)):d5e body s (.nxt t):=by
 obtain⟨c,rfl,N,h⟩:=h
 exact⟨1,N,fun n hn f=>by show Qk (body n) (f+1) s=_;simp only[Qk,h n hn]⟩
theorem d5e.ret{r:ρ}(h:Evt (fun n=>body n s) (fun c=>c= .ret r)):d5e body s (.ret r):=by
 obtain⟨c,rfl,N,h⟩:=h
 exact⟨1,N,fun n hn f=>by show Qk (body n) (f+1) s=_;simp only[Qk,h n hn]⟩
end
end Go.Am
namespace Go.Proofs.YtdjnbjnlnjhllaaDoor
open Go Go.Am
theorem get_mem{α:Type}[Inhabited α]{l:List α}{k:Nat}(h:k<l.length):Am.get l k∈l:=by
 unfold Am.get
 rw[List.getD_eq_getElem?_getD,List.getElem?_eq_getElem h]
 exact List.getElem_mem h
theorem d4i{α:Type}[Inhabited α]{l:List α}{k:Nat}(h:k<l.length):l.drop k=Am.get l k::l.drop (k+1):=by
 rw[List.drop_eq_getElem_cons h]
 unfold Am.get
 rw[List.getD_eq_getElem?_getD,List.getElem?_eq_getElem h];rfl
def Live{α:Type}(st:List α×Int×Nat)(l:List α)(c:Int):Prop:=st.1.take st.2.2=l∧st.2.2=l.length∧st.2.1=c
section
variable {α:Type} {st:List α×Int×Nat} {rest:List α} {x:α} {c:Int}
theorem Live.le{l:List α}(h:Live st l c):st.2.2≤st.1.length:=by
 have h1:=congrArg List.length h.1
 rw[List.length_take]at h1
 have h2:=h.2.1
 omega
theorem Live.sp(h:Live st (rest++[x]) c):st.2.2=rest.length+1:=by rw[h.2.1];simp
theorem Live.top[Inhabited α](h:Live st (rest++[x]) c):Am.get st.1 rest.length=x:=by
 have h1:Am.get (st.1.take st.2.2) rest.length=Am.get st.1 rest.length:=d8P (by rw[h.sp];omega)
 rw[←h1,h.1]
 exact d3m
end
end Go.Proofs.YtdjnbjnlnjhllaaDoor
namespace Go.Am
open Go
theorem Evt.d6Q{σ ρ τ:Type}{body:Nat→σ→Option (Ctl ρ σ τ)}{s0:σ}(N:Nat)(I:Nat→σ→Prop)(B:τ→Prop)(R:ρ→Prop)(h0:I 0 s0)
 (hs:∀k s,k<N→I k s→Evt (fun n=>body n s) (d6H (I (k+1)) B R)) (he:∀s,I N s→Evt (fun n=>body n s) (d6H (fun _=>False) B R)):
 Evt (fun n=>Qk (body n) n s0) (ExP B R):=by
 have key:∀j k s,k+j=N→I k s→∃e,ExP B R e∧∃M,∀n,M≤n→∀f,j<f→Qk (body n) f s=some e:=by
  intro j
  induction j with
  |zero=>
   intro k s hk hi
   obtain rfl:k=N:=by omega
   obtain⟨c,hc,M,hM⟩:=he s hi
   cases c with
   |nxt s'=>exact hc.elim
   |brk t=>refine⟨.nxt t,hc,M,fun n hn f hf=>?_⟩;obtain⟨g,rfl⟩:∃g,f=g+1:=⟨f-1,by omega⟩;simp only[Qk,hM n hn]
   |ret x=>refine⟨.ret x,hc,M,fun n hn f hf=>?_⟩;obtain⟨g,rfl⟩:∃g,f=g+1:=⟨f-1,by omega⟩;simp only[Qk,hM n hn]
  |succ j ih=>
   intro k s hk hi
   obtain⟨c,hc,M,hM⟩:=hs k s (by omega) hi
   cases c with
   |nxt s'=>
    obtain⟨e,he,L,hL⟩:=ih (k+1) s' (by omega) hc
    refine⟨e,he,max M L,fun n hn f hf=>?_⟩
    obtain⟨g,rfl⟩:∃g,f=g+1:=⟨f-1,by omega⟩
    simp only[Qk,hM n (by omega)]
    exact hL n (by omega) g (by omega)
   |brk t=>refine⟨.nxt t,hc,M,fun n hn f hf=>?_⟩;obtain⟨g,rfl⟩:∃g,f=g+1:=⟨f-1,by omega⟩;simp only[Qk,hM n hn]
   |ret x=>refine⟨.ret x,hc,M,fun n hn f hf=>?_⟩;obtain⟨g,rfl⟩:∃g,f=g+1:=⟨f-1,by omega⟩;simp only[Qk,hM n hn]
 obtain⟨e,he,M,hM⟩:=key N 0 s0 (by omega) h0
 exact⟨e,he,max M (N+1),fun n hn=>hM n (by omega) n (by omega)⟩
end Go.Am
namespace Go.Proofs.YtdjnbjnlnjhllaaDoor
open Go Go.Am
def QK(k:Int):Prop:=k=8∨k=9
instance(k:Int):Decidable (QK k):=inferInstanceAs (Decidable (_∨_))
mutual
def ndF:LZ→Nat
 | .mk _ _ _ s=>1+Pb s
def Pb:List LZ→Nat
 | []=>0
 |x::l=>ndF x+Pb l
end
mutual
def dpF:LZ→Nat
 | .mk _ _ _ s=>1+VI s
def VI:List LZ→Nat
 | []=>0
 |x::l=>max (dpF x) (VI l)
end
mutual
def nq:LZ→Nat
 | .mk k _ _ s=>(if QK k then 1 else 0)+nqL s
def nqL:List LZ→Nat
 | []=>0
 |x::l=>nq x+nqL l
end
mutual
def qs:LZ→List Bs
 | .mk k n _ s=>(if QK k then [n]else [])++qsL s
def qsL:List LZ→List Bs
 | []=>[]
 |x::l=>qs x++qsL l
end
theorem WW(f:LZ):ndF f=1+Pb f.subs:=by cases f;rw[ndF];rfl
theorem d4j(f:LZ):dpF f=1+VI f.subs:=by cases f;rw[dpF];rfl
theorem i4X(f:LZ):nq f=(if QK f.kind then 1 else 0)+nqL f.subs:=by cases f;rw[nq];rfl
theorem d0N(f:LZ):qs f=(if QK f.kind then [f.name]else [])++qsL f.subs:=by cases f;rw[qs];rfl
mutual
theorem d0i:∀f:LZ,(qs f).length=nq f
 | .mk k n w s=>by rw[qs,nq,List.length_append,d3n];split<;>rfl
theorem d3n:∀l:List LZ,(qsL l).length=nqL l
 | []=>by rw[qsL,nqL];rfl
 |x::l=>by rw[qsL,nqL,List.length_append,d0i,d3n]
end
mutual
theorem d2a:∀f:LZ,nq f≤ndF f
 | .mk k n w s=>by
   rw[nq,ndF]
   have:=d6R s
   split<;>omega
theorem d6R:∀l:List LZ,nqL l≤Pb l
 | []=>by rw[nqL];omega
 |x::l=>by
  rw[nqL,Pb]
  have h1:=d2a x
  have h2:=d6R l
  omega
end
theorem Oi{f:LZ}{k:Nat}(h:k<f.subs.length):SizeOf.sizeOf (Am.get f.subs k)<SizeOf.sizeOf f:=by
 cases f with
 |mk a b c s=>
  have h2:Am.get s k∈s:=by
   unfold Am.get
   have h3:k<s.length:=h
   rw[List.getD_eq_getElem?_getD,List.getElem?_eq_getElem h3]
   exact List.getElem_mem h3
  have:=List.sizeOf_lt_of_mem h2
  show SizeOf.sizeOf (Am.get s k)<_
  simp only[LZ.mk.sizeOf_spec]
  omega
def arF(k:Int):Int:=if k=1∨k=2∨k=3 then 0 else if k=4∨k=8∨k=9 then 1 else if k=5∨k=6∨k=7 then 2 else -1
def Vl(k:Int)(n:Nat):Prop:=if k=2 then n≤3 else if k=3 then n=2 else n=0
instance(k:Int)(n:Nat):Decidable (Vl k n):=by unfold Vl;infer_instance
open Classical in
noncomputable def Rk(f:LZ):Int:=
 if arF f.kind<0 then 4
 else if(f.subs.length:Int)≠arF f.kind∨¬Vl f.kind f.words.length then 9
 else if(f.kind=2∨QK f.kind)∧¬MI f.name then 10
 else if ¬(f.kind=2∨QK f.kind)∧f.name≠ []then 5
 else if ∃w∈f.words,¬MI w then 10
 else 0
mutual
noncomputable def d2u:LZ→Int→Int→Int×Int
 | .mk k n w s,d,b=>if 200<b+1∨40<d then(1,b)else if Rk (.mk k n w s)=0 then Vm s (d+1) (b+1)else(Rk (.mk k n w s),b)
noncomputable def Vm:List LZ→Int→Int→Int×Int
 | [],_,b=>(0,b)
 |x::l,d,b=>if(d2u x d b).1=0 then Vm l d (d2u x d b).2 else d2u x d b
end
theorem i0B(f:LZ)(d b:Int):d2u f d b=if 200<b+1∨40<d then(1,b)else if Rk f=0 then Vm f.subs (d+1) (b+1)else(Rk f,b):=by
 cases f;rw[d2u];rfl
mutual
def WfF:LZ→Prop
 | .mk k n w s=>Rk (.mk k n w s)=0∧WX s
def WX:List LZ→Prop
 | []=>True
 |x::l=>WfF x∧WX l
end
theorem Qe(f:LZ):WfF f↔Rk f=0∧WX f.subs:=by cases f;rw[WfF];rfl
theorem Nv:∀ {l:List LZ},WX l↔ ∀x∈l,WfF x
 | []=>by simp[WX]
 |x::l=>by rw[WX,Nv];simp
mutual
theorem d6S:∀(f:LZ) (d b:Int),(d2u f d b).1=0→WfF f∧(d2u f d b).2=b+ndF f∧b+ndF f≤200∧d-1+dpF f≤40
 | .mk k n w s,d,b,h=>by
   rw[d2u]at h⊢
   split at h
   ·cases h
   ·rename_i h1
    rw[if_neg h1]
    split at h
    ·rename_i h2
     rw[if_pos h2]
     obtain⟨w1,w2,w3,w4⟩:=d4k s (d+1) (b+1) h (by omega) (by omega)
     rw[WfF,ndF,dpF]
     refine⟨⟨h2,w1⟩,?_,?_,?_⟩<;>omega
    ·exact absurd h (by assumption)
theorem d4k:∀(l:List LZ) (d b:Int),(Vm l d b).1=0→b≤200→d-1≤40→WX l∧(Vm l d b).2=b+Pb l∧b+Pb l≤200∧d-1+VI l≤40
 | [],d,b,_,hb,hd=>by rw[Vm,WX,Pb,VI];refine⟨trivial,?_,?_,?_⟩<;>first|omega|(show b=_;omega)
 |x::l,d,b,h,hb,hd=>by
  rw[Vm]at h⊢
  split at h
  ·rename_i h1
   rw[if_pos h1]
   obtain⟨w1,w2,w3,w4⟩:=d6S x d b h1
   rw[w2]at h⊢
   obtain⟨v1,v2,v3,v4⟩:=d4k l d (b+ndF x) h w3 hd
   rw[WX,Pb,VI]
   refine⟨⟨w1,v1⟩,?_,?_,?_⟩<;>omega
  ·exact absurd h (by assumption)
end
mutual
theorem d6T:∀(f:LZ) (d b:Int),WfF f→b+ndF f≤200→d-1+dpF f≤40→d2u f d b=(0,b+ndF f)
 | .mk k n w s,d,b,h1,h2,h3=>by
   rw[WfF]at h1
   rw[ndF]at h2⊢
   rw[dpF]at h3
   rw[d2u,if_neg (by omega),if_pos h1.1,d4l s (d+1) (b+1) h1.2 (by omega) (by omega)]
   congr 1
   omega
theorem d4l:∀(l:List LZ) (d b:Int),WX l→b+Pb l≤200→d-1+VI l≤40→Vm l d b=(0,b+Pb l)
 | [],d,b,_,_,_=>by rw[Vm,Pb];congr 1;omega
 |x::l,d,b,h1,h2,h3=>by
  rw[WX]at h1
  rw[Pb]at h2⊢
  rw[VI]at h3
  rw[Vm,d6T x d b h1.1 (by omega) (by omega),if_pos rfl,d4l l d _ h1.2 (by omega) (by omega)]
  congr 1
  omega
end
def OkF(f:LZ):Prop:=WfF f∧ndF f≤200∧dpF f≤40
theorem d4m(f:LZ):(d2u f 1 0).1=0↔OkF f:=by
 refine⟨fun h=>?_,fun h=>?_⟩
 ·obtain⟨h1,h2,h3,h4⟩:=d6S f 1 0 h
  exact⟨h1,by omega,by omega⟩
 ·rw[d6T f 1 0 h.1 (by have:=h.2.1;omega) (by have:=h.2.2;omega)]
theorem OT{f:LZ}(h:Rk f=0):(f.subs.length:Int)=arF f.kind∧Vl f.kind f.words.length∧(f.kind=2∨QK f.kind→MI f.name)∧(¬(f.kind=2∨QK f.kind)→f.name=[])∧∀w∈f.words,MI w:=by
 unfold Rk at h
 split at h
 ·cases h
 split at h
 ·cases h
 split at h
 ·cases h
 split at h
 ·cases h
 split at h
 ·cases h
 rename_i h1 h2 h3 h4 h5
 refine⟨Classical.byContradiction fun e=>h2 (.inl e),Classical.byContradiction fun e=>h2 (.inr e),fun h=>Classical.byContradiction fun e=>h3 ⟨h,e⟩,fun h=>Classical.byContradiction fun e=>h4 ⟨h,e⟩,fun w hw=>Classical.byContradiction fun e=>h5 ⟨w,hw,e⟩⟩
theorem d4n{f:LZ}(h0:0≤arF f.kind)(h1:(f.subs.length:Int)=arF f.kind)(h2:Vl f.kind f.words.length)(h3:f.kind=2∨QK f.kind→MI f.name)(h4:¬(f.kind=2∨QK f.kind)→f.name=[])(h5:∀w∈f.words,MI w):Rk f=0:=by
 unfold Rk
 rw[if_neg (by omega),if_neg (fun h=>h.elim (fun e=>e h1) (fun e=>e h2)),if_neg (fun h=>h.2 (h3 h.1)),if_neg (fun h=>h.2 (h4 h.1)),if_neg (fun⟨w,hw,e⟩=>e (h5 w hw))]
def sub(env:List (Bs×Bs))(w:Bs):Bs:=((env.find? (fun p=>p.1==w)).map (·.2)).getD w
theorem d6U(w:Bs):sub [] w=w:=rfl
theorem UC(a b w:Bs)(env:List (Bs×Bs)):sub ((a,b)::env) w=if a=w then b else sub env w:=by
 unfold sub
 rw[List.find?_cons]
 by_cases h:a=w
 ·simp[h]
 ·have:(a==w)=false:=beq_false_of_ne h
  simp[this,h]
theorem d6V{env:List (Bs×Bs)}{w:Bs}(h:∀p∈env,p.1≠w):sub env w=w:=by
 induction env with
 |nil=>rfl
 |cons p env ih=>
  obtain⟨a,b⟩:=p
  rw[UC,if_neg (h (a,b) (List.mem_cons_self ..)),ih fun q hq=>h q (List.mem_cons_of_mem _ hq)]
theorem d6W{env:List (Bs×Bs)}{w:Bs}(h:w∈env.map (·.1)):sub env w∈env.map (·.2):=by
 induction env with
 |nil=>cases h
 |cons p env ih=>
  obtain⟨a,b⟩:=p
  rw[UC]
  split
  ·exact List.mem_cons_self ..
  ·rename_i hne
   rw[List.map_cons,List.mem_cons]at h
   exact List.mem_cons_of_mem _ (ih (h.resolve_left fun e=>hne e.symm))
mutual
def ren(N:Nat→Bs):LZ→List (Bs×Bs)→Nat→LZ
 | .mk k n w s,env,i=>.mk k (if QK k then N i else n) (w.map (sub env)) (SD N s (if QK k then(n,N i)::env else env) (i+if QK k then 1 else 0))
def SD(N:Nat→Bs):List LZ→List (Bs×Bs)→Nat→List LZ
 | [],_,_=>[]
 |x::l,env,i=>ren N x env i::SD N l env (i+nq x)
end
theorem i2U(N:Nat→Bs)(f:LZ)(env:List (Bs×Bs))(i:Nat):ren N f env i= .mk f.kind (if QK f.kind then N i else f.name) (f.words.map (sub env)) (SD N f.subs (if QK f.kind then(f.name,N i)::env else env) (i+if QK f.kind then 1 else 0)):=by
 cases f;rw[ren];rfl
theorem Yq(N:Nat→Bs):∀(l:List LZ) (env:List (Bs×Bs)) (i:Nat),(SD N l env i).length=l.length
 | [],_,_=>by rw[SD]
 |x::l,env,i=>by rw[SD,List.length_cons,List.length_cons,Yq N l]
mutual
theorem d9C(N:Nat→Bs):∀(f:LZ) (env:List (Bs×Bs)) (i:Nat),nq (ren N f env i)=nq f
 | .mk k n w s,env,i=>by rw[ren,nq,nq,d6X N s]
theorem d6X(N:Nat→Bs):∀(l:List LZ) (env:List (Bs×Bs)) (i:Nat),nqL (SD N l env i)=nqL l
 | [],env,i=>by rw[SD]
 |x::l,env,i=>by rw[SD,nqL,nqL,d9C N x,d6X N l]
end
mutual
theorem d9D(N:Nat→Bs):∀(f:LZ) (env:List (Bs×Bs)) (i:Nat),ndF (ren N f env i)=ndF f
 | .mk k n w s,env,i=>by rw[ren,ndF,ndF,d6Y N s]
theorem d6Y(N:Nat→Bs):∀(l:List LZ) (env:List (Bs×Bs)) (i:Nat),Pb (SD N l env i)=Pb l
 | [],env,i=>by rw[SD]
 |x::l,env,i=>by rw[SD,Pb,Pb,d9D N x,d6Y N l]
end
mutual
theorem d9E(N:Nat→Bs):∀(f:LZ) (env:List (Bs×Bs)) (i:Nat),dpF (ren N f env i)=dpF f
 | .mk k n w s,env,i=>by rw[ren,dpF,dpF,d6Z N s]
theorem d6Z(N:Nat→Bs):∀(l:List LZ) (env:List (Bs×Bs)) (i:Nat),VI (SD N l env i)=VI l
 | [],env,i=>by rw[SD]
 |x::l,env,i=>by rw[SD,VI,VI,d9E N x,d6Z N l]
end
def nms(N:Nat→Bs):Nat→Nat→List Bs
 | _,0=>[]
 |i,m+1=>N i::nms N (i+1) m
theorem d3o(N:Nat→Bs):∀(a b i:Nat),nms N i (a+b)=nms N i a++nms N (i+a) b
 |0,b,i=>by rw[Nat.zero_add];rfl
 |a+1,b,i=>by rw[show a+1+b=(a+b)+1 by omega,nms,nms,d3o N a b,List.cons_append,show i+1+a=i+(a+1)by omega]
mutual
theorem i2V(N:Nat→Bs):∀(f:LZ) (env:List (Bs×Bs)) (i:Nat),qs (ren N f env i)=nms N i (nq f)
 | .mk k n w s,env,i=>by
   rw[ren,qs,nq,d7a N s,d3o]
   by_cases h:QK k
   ·simp only[if_pos h];rfl
   ·simp only[if_neg h];rfl
theorem d7a(N:Nat→Bs):∀(l:List LZ) (env:List (Bs×Bs)) (i:Nat),qsL (SD N l env i)=nms N i (nqL l)
 | [],env,i=>by rw[SD,nqL];rfl
 |x::l,env,i=>by rw[SD,qsL,nqL,i2V N x,d7a N l,d3o]
end
def Idn(env:List (Bs×Bs)):Prop:=∀p∈env,p.1=p.2
theorem i2W{env:List (Bs×Bs)}(h:Idn env)(w:Bs):sub env w=w:=by
 induction env with
 |nil=>rfl
 |cons p env ih=>
  obtain⟨a,b⟩:=p
  rw[UC,ih fun q hq=>h q (List.mem_cons_of_mem _ hq)]
  split
  ·rename_i e;rw[←e];exact(h (a,b) (List.mem_cons_self ..)).symm
  ·rfl
mutual
theorem d7b(N:Nat→Bs):∀(f:LZ) (env env':List (Bs×Bs)) (i:Nat),Idn env'→ren N (ren N f env i) env' i=ren N f env i
 | .mk k n w s,env,env',i,h=>by
   have hw:(w.map (sub env)).map (sub env')=w.map (sub env):=by
    conv=>rhs;rw[←List.map_id (w.map (sub env))]
    exact List.map_congr_left fun x _=>i2W h x
   rw[ren,ren,hw]
   by_cases hq:QK k
   ·simp only[if_pos hq]
    rw[d0O N s _ _ _ (fun p hp=>by
     rcases List.mem_cons.1 hp with rfl|hp
     ·rfl
     ·exact h p hp)]
   ·simp only[if_neg hq]
    rw[d0O N s _ _ _ h]
theorem d0O(N:Nat→Bs):∀(l:List LZ) (env env':List (Bs×Bs)) (i:Nat),Idn env'→SD N (SD N l env i) env' i=SD N l env i
 | [],env,env',i,h=>by rw[SD,SD]
 |x::l,env,env',i,h=>by
  rw[SD,SD,d7b N x _ _ _ h,d9C,d0O N l _ _ _ h]
end
mutual
def fre:LZ→List Bs→Bs→Prop
 | .mk k n w s,bd,x=>(x∈w∧x∉bd)∨Un s (if QK k then n::bd else bd) x
def Un:List LZ→List Bs→Bs→Prop
 | [],_,_=>False
 |f::l,bd,x=>fre f bd x∨Un l bd x
end
theorem d7c(f:LZ)(bd:List Bs)(x:Bs):fre f bd x↔(x∈f.words∧x∉bd)∨Un f.subs (if QK f.kind then f.name::bd else bd) x:=by cases f;rw[fre];rfl
theorem d0P:∀ {l:List LZ} {bd:List Bs} {x:Bs},Un l bd x↔ ∃f∈l,fre f bd x
 | [],bd,x=>by simp[Un]
 |f::l,bd,x=>by rw[Un,d0P];simp
mutual
theorem i0C:∀(f:LZ) (bd:List Bs) (x:Bs),fre f bd x→x∉bd
 | .mk k n w s,bd,x,h=>by
   rw[fre]at h
   rcases h with h|h
   ·exact h.2
   ·have:=d4o s _ x h
    split at this
    ·exact fun e=>this (List.mem_cons_of_mem _ e)
    ·exact this
theorem d4o:∀(l:List LZ) (bd:List Bs) (x:Bs),Un l bd x→x∉bd
 | [],bd,x,h=>by rw[Un]at h;exact h.elim
 |f::l,bd,x,h=>by
  rw[Un]at h
  exact h.elim (i0C f bd x) (d4o l bd x)
end
mutual
theorem d7d(N:Nat→Bs)(U:Bs→Prop)(hN:∀i,¬U (N i)):∀(f:LZ) (env:List (Bs×Bs)) (i:Nat),(∀x,fre f (env.map (·.1)) x→U x)→(∀p∈env,∃j,p.2=N j)→∀x,fre (ren N f env i) (env.map (·.2)) x↔fre f (env.map (·.1)) x
 | .mk k n w s,env,i,hU,he,x=>by
   have key:∀y∈w,(sub env y∉env.map (·.2)↔y∉env.map (·.1))∧(y∉env.map (·.1)→sub env y=y):=fun y hy=>by
    by_cases hb:y∈env.map (·.1)
    ·exact⟨⟨fun h=>absurd (d6W hb) h,fun h=>absurd hb h⟩,fun h=>absurd hb h⟩
    ·have e:sub env y=y:=d6V fun p hp e=>hb (List.mem_map.2 ⟨p,hp,e⟩)
     rw[e]
     refine⟨⟨fun _=>hb,fun _ h=>?_⟩,fun _=>rfl⟩
     obtain⟨p,hp,e2⟩:=List.mem_map.1 h
     obtain⟨j,hj⟩:=he p hp
     exact hN j (by rw[←hj,e2];exact hU y (by rw[fre];exact .inl ⟨hy,hb⟩))
   have hs:Un (SD N s (if QK k then(n,N i)::env else env) (i+if QK k then 1 else 0)) (if QK k then N i::env.map (·.2)else env.map (·.2)) x↔Un s (if QK k then n::env.map (·.1)else env.map (·.1)) x:=by
    by_cases hq:QK k
    ·simp only[if_pos hq]
     exact d0Q N U hN s ((n,N i)::env) (i+1) (fun y hy=>hU y (by rw[fre,if_pos hq];exact .inr hy)) (fun p hp=>by
      rcases List.mem_cons.1 hp with rfl|hp
      ·exact⟨i,rfl⟩
      ·exact he p hp) x
    ·simp only[if_neg hq]
     exact d0Q N U hN s env _ (fun y hy=>hU y (by rw[fre,if_neg hq];exact .inr hy)) he x
   rw[ren,fre,fre]
   have hn:(if QK k then(if QK k then N i else n)::env.map (·.2)else env.map (·.2))=(if QK k then N i::env.map (·.2)else env.map (·.2)):=by
    by_cases hq:QK k<;>simp[hq]
   rw[hn,hs]
   refine or_congr_left ⟨fun h=>?_,fun h=>?_⟩
   ·obtain⟨h1,h2⟩:=h
    obtain⟨y,hy,rfl⟩:=List.mem_map.1 h1
    have hk:=key y hy
    have hb:=hk.1.1 h2
    rw[hk.2 hb]
    exact⟨hy,hb⟩
   ·have hk:=key x h.1
    have e:=hk.2 h.2
    exact⟨List.mem_map.2 ⟨x,h.1,e⟩,by rw[←e];exact hk.1.2 h.2⟩
theorem d0Q(N:Nat→Bs)(U:Bs→Prop)(hN:∀i,¬U (N i)):∀(l:List LZ) (env:List (Bs×Bs)) (i:Nat),(∀x,Un l (env.map (·.1)) x→U x)→(∀p∈env,∃j,p.2=N j)→∀x,Un (SD N l env i) (env.map (·.2)) x↔Un l (env.map (·.1)) x
 | [],env,i,_,_,x=>by rw[SD];simp[Un]
 |f::l,env,i,hU,he,x=>by
  rw[SD,Un,Un,d7d N U hN f env i (fun y hy=>hU y (by rw[Un];exact .inl hy)) he x,d0Q N U hN l env _ (fun y hy=>hU y (by rw[Un];exact .inr hy)) he x]
end
theorem i0D(k:Int):Ti k=some (arF k):=by
 by_cases h1:k=1
 ·subst h1;rfl
 by_cases h2:k=2
 ·subst h2;rfl
 by_cases h3:k=3
 ·subst h3;rfl
 by_cases h4:k=4
 ·subst h4;rfl
 by_cases h5:k=5
 ·subst h5;rfl
 by_cases h6:k=6
 ·subst h6;rfl
 by_cases h7:k=7
 ·subst h7;rfl
 by_cases h8:k=8
 ·subst h8;rfl
 by_cases h9:k=9
 ·subst h9;rfl
 simp[Ti,PX,PY,PZ,arF,h1,h2,h3,h4,h5,h6,h7,h8,h9]
theorem UD(f:LZ):MG f=some (decide (QK f.kind)):=by
 unfold MG QK
 by_cases h:f.kind=8<;>simp[h]
def d5v(c:Int×Int)(b:Int)(r:Mi×Int):Prop:=r.1.code=c.1∧(c.1=0→r=(⟨0,0⟩,c.2)∧b≤c.2∧c.2≤200)∧(c.1≠0→r.1=⟨c.1,c.2⟩)
theorem d5v.bad{c b x:Int}{r:Mi×Int}(hc:c≠0)(hr:r.1=⟨c,x⟩):d5v (c,x) b r:=⟨by rw[hr],fun h=>absurd h hc,fun _=>hr⟩
theorem d9F(k:Int):arF k≤2:=by unfold arF;repeat' split<;>omega
theorem i0E{f:LZ}(h:arF f.kind<0):Rk f=4:=by unfold Rk;rw[if_pos h]
theorem i0F{f:LZ}(h0:¬arF f.kind<0)(h:(f.subs.length:Int)≠arF f.kind∨¬Vl f.kind f.words.length):Rk f=9:=by unfold Rk;rw[if_neg h0,if_pos h]
theorem d8Q{f:LZ}(h0:¬arF f.kind<0)(h1:¬((f.subs.length:Int)≠arF f.kind∨¬Vl f.kind f.words.length))(h:(f.kind=2∨QK f.kind)∧¬MI f.name):Rk f=10:=by unfold Rk;rw[if_neg h0,if_neg h1,if_pos h]
theorem i0G{f:LZ}(h0:¬arF f.kind<0)(h1:¬((f.subs.length:Int)≠arF f.kind∨¬Vl f.kind f.words.length))(h2:¬((f.kind=2∨QK f.kind)∧¬MI f.name))(h:¬(f.kind=2∨QK f.kind)∧f.name≠ []):Rk f=5:=by unfold Rk;rw[if_neg h0,if_neg h1,if_neg h2,if_pos h]
open Classical in
theorem i0H{f:LZ}(h0:¬arF f.kind<0)(h1:¬((f.subs.length:Int)≠arF f.kind∨¬Vl f.kind f.words.length))(h2:¬((f.kind=2∨QK f.kind)∧¬MI f.name))(h3:¬(¬(f.kind=2∨QK f.kind)∧f.name≠ [])):Rk f=if ∃w∈f.words,¬MI w then 10 else 0:=by unfold Rk;rw[if_neg h0,if_neg h1,if_neg h2,if_neg h3]
theorem Vn{s:Bs}{b:Bool}(h:b=d0M s):b=true↔MI s:=by
 rw[h];unfold d0M;simp
theorem d7e{l:List Bs}(h:∀j,j<l.length→MI (Am.get l j)):¬ ∃w∈l,¬MI w:=fun⟨w,hw,hn⟩=>by
 obtain⟨j,hj,rfl⟩:=Na.1 hw
 exact hn (h j hj)
theorem d7f:∀(m:Nat) (f:LZ),SizeOf.sizeOf f≤m→∀d b:Int,0≤d→d≤41→0≤b→b≤200→Evt (fun n=>Nb n f d b false) (d5v (d2u f d b) b):=by
 intro m
 induction m with
 |zero=>intro f h;cases f;simp only[LZ.mk.sizeOf_spec]at h;omega
 |succ m ih=>
  intro f hf d b hd0 hd hb0 hb
  have hw1:wr .i64 (d+1)=d+1:=Tt (by omega) (by omega)
  have hw2:wr .i64 (b+1)=b+1:=Tt (by omega) (by omega)
  refine Evt.succ ?_
  simp only[Nb,hw2,i0D,Option.bind_some]
  rw[i0B]
  refine Evt.cond (fun e=>?_) (fun e=>?_)
  ·replace e:=bx e
   rw[if_pos (by omega)]
   exact Evt.pure (d5v.bad (by decide) rfl)
  replace e:=bx e
  rw[if_neg (by omega)]
  have key:Evt (fun n=>OM (Nb n) b f d false (arF f.kind)) (d5v (if Rk f=0 then Vm f.subs (d+1) (b+1)else(Rk f,b)) b):=by
   unfold OM
   refine Evt.cond (fun e=>?_) (fun e=>?_)
   ·replace e:=bx e
    rw[i0E e,if_neg (by decide)]
    exact Evt.pure (d5v.bad (by decide) rfl)
   replace e:=bx e
   have e0:¬arF f.kind<0:=by omega
   have k1:∀c:Bool,(c=true↔Vl f.kind f.words.length)→Evt (fun n=>Oc (Nb n) f (arF f.kind) b d false c) (d5v (if Rk f=0 then Vm f.subs (d+1) (b+1)else(Rk f,b)) b):=by
    intro c hc
    unfold Oc
    refine Evt.cond (fun e=>?_) (fun e=>?_)
    ·replace e:=bx e
     rw[i0F e0 (by
      rcases e with e|e
      ·exact .inl e
      ·exact .inr fun h=>by rw[hc.2 h]at e;cases e),if_neg (by decide)]
     exact Evt.pure (d5v.bad (by decide) (by simp only[hw2]))
    replace e:=bx e
    have e1:¬((f.subs.length:Int)≠arF f.kind∨¬Vl f.kind f.words.length):=fun h=>h.elim (fun h=>h e.1) (fun h=>h (hc.1 e.2))
    have h10:f.kind≠10:=fun h=>by
     rw[h]at e0;exact e0 (by decide)
    simp only[UD]
    refine Evt.bind (P:=fun v=>v=(!(decide (f.kind=2))&&decide (QK f.kind))) (Evt.gd (fun g=>Evt.pure (by replace g:=bx g;simp[g])) (fun g=>by replace g:=bx g;simp[g])) fun v5 hv5=>?_
    have hn:(bif bif decide (f.kind=2)then true else v5 then true else decide (f.kind=10))=decide (f.kind=2∨QK f.kind):=by
     subst hv5
     by_cases h2:f.kind=2<;>simp[h2,h10]
    rw[hn]
    refine Evt.bind (P:=fun v=>(f.kind=2∨QK f.kind)→(v=true↔MI f.name)) (Evt.gd (fun g=>(Uy f.name).mono fun v hv _=>Vn hv) (fun g h=>absurd h (by simpa using g))) fun v6 hv6=>?_
    refine Evt.cond (fun e=>?_) (fun e=>?_)
    ·replace e:=bx e
     rw[d8Q e0 e1 ⟨e.1,fun h=>by rw[(hv6 e.1).2 h]at e;cases e.2⟩,if_neg (by decide)]
     exact Evt.pure (d5v.bad (by decide) (by simp only[hw2]))
    have e2:¬((f.kind=2∨QK f.kind)∧¬MI f.name):=fun⟨h1,h2⟩=>by
     cases v6 with
     |true=>exact h2 ((hv6 h1).1 rfl)
     |false=>simp[h1]at e
    refine Evt.cond (fun e=>?_) (fun e=>?_)
    ·replace e:=bx e
     rw[i0G e0 e1 e2 ⟨by simpa using e.1,e.2⟩,if_neg (by decide)]
     exact Evt.pure (d5v.bad (by decide) (by simp only[hw2]))
    have e3:¬(¬(f.kind=2∨QK f.kind)∧f.name≠ []):=fun⟨h1,h2⟩=>by simp[h1,h2]at e
    have i2X:=i0H e0 e1 e2 e3
    refine Evt.Mw (Evt.scan (fun k _=>∀j,j<k→MI (Am.get f.words j)) (fun k r=>r.1=⟨10,b⟩∧∃w∈f.words,¬MI w) (fun j hj=>absurd hj (Nat.not_lt_zero _)) (fun k u hk hi=>?_)) (fun t ht=>?_) (fun r hr=>?_)
    ·unfold QY
     refine Evt.bind (Uy _) fun v hv=>Evt.cond (fun e=>?_) (fun e=>Evt.pure ?_)
     ·replace e:=bx e
      exact Evt.pure ⟨rfl,_,get_mem hk,fun h=>by rw[(Vn hv).2 h]at e;cases e⟩
     ·replace e:=bx e
      intro j hj
      by_cases ej:j=k
      ·subst ej;exact(Vn hv).1 e
      ·exact hi j (by omega)
    ·have hall:=d7e ht
     rw[i2X,if_neg hall,if_pos rfl]
     unfold QZ
     rw[hw2]
     have hsl:f.subs.length≤2:=by
      have:=d9F f.kind
      have:(f.subs.length:Int)=arF f.kind:=Classical.byContradiction fun h=>e1 (.inl h)
      omega
     refine Evt.Mw (Evt.range (fun k c=>Vm (f.subs.drop k) (d+1) c=Vm f.subs (d+1) (b+1)∧b+1≤c∧c≤200) (fun _=>False) (fun r=>d5v (Vm f.subs (d+1) (b+1)) b r) ⟨rfl,by omega,by omega⟩ (fun k c hk hj=>?_)) (fun t ht=>Evt.pure ?_) (fun r hr=>hr)
     ·obtain⟨h1,h2,h3⟩:=hj
      unfold Ra
      have hsz:=Oi hk
      rw[hw1]
      rw[d4i hk,Vm]at h1
      refine Evt.bind (ih _ (by omega) _ _ (by omega) (by omega) (by omega) h3) fun v hv=>Evt.cond (fun e=>Evt.pure ?_) (fun e=>Evt.pure ?_)
      ·replace e:=bx e
       rw[hv.1]at e
       rw[if_neg e]at h1
       rw[←h1]
       exact⟨hv.1,fun h=>absurd h e,hv.2.2⟩
      ·replace e:=bx e
       rw[hv.1]at e
       rw[if_pos e]at h1
       obtain⟨hv1,hv2,hv3⟩:=hv.2.1 e
       rw[hv1]
       exact⟨h1,by show b+1≤(d2u _ _ _).2;omega,hv3⟩
     ·obtain⟨h1,h2,h3⟩:=ht.elim id False.elim
      rw[List.drop_length,Vm]at h1
      unfold Rb at*
      rw[←h1]
      exact⟨rfl,fun _=>⟨rfl,by show b≤t;omega,h3⟩,fun h=>absurd rfl h⟩
    ·obtain⟨k,_,_,_,h1,h2⟩:=hr
     rw[i2X,if_pos h2,if_neg (by decide)]
     exact d5v.bad (by decide) h1
   refine Evt.cond (fun e=>k1 _ ?_) (fun e=>Evt.cond (fun e2=>k1 _ ?_) (fun e2=>k1 _ ?_))
   ·replace e:=bx e
    unfold Vl;simp[e];omega
   ·replace e:=bx e;replace e2:=bx e2
    unfold Vl;simp[e2];omega
   ·replace e:=bx e;replace e2:=bx e2
    unfold Vl;simp[e,e2]
  refine Evt.cond (fun e=>?_) (fun e=>key)
  simp at e
noncomputable def Wg(f:LZ):Mi:=if(d2u f 1 0).1=0 then⟨0,0⟩else⟨(d2u f 1 0).1,(d2u f 1 0).2⟩
theorem RN(f:LZ):(Wg f).code=0↔OkF f:=by
 rw[←d4m]
 unfold Wg
 split
 ·simp[*]
 ·simp[*]
theorem WY{f:LZ}(h:OkF f):Wg f=⟨0,0⟩:=by unfold Wg;rw[if_pos ((d4m f).2 h)]
theorem Qf(f:LZ):Evt (fun n=>Nw n f) (fun r=>r=Wg f):=by
 unfold Nw TG
 simp only[Option.bind_assoc,Option.bind_some]
 refine Evt.bind (d7f _ f (Nat.le_refl _) 1 0 (by omega) (by omega) (by omega) (by omega)) fun v hv=>Evt.pure ?_
 unfold Wg
 split
 ·rename_i h;rw[(hv.2.1 h).1]
 ·rename_i h;exact hv.2.2 h
abbrev FA:=Md
abbrev i6M:Nat→List FA×Int×Nat→Option (Ctl Mi (List FA×Int×Nat) Unit):=fun n=>Tj n false
theorem d7g(f:LZ):Rk f=0→f.subs.length≤2:=fun h=>by
 have h1:=(OT h).1
 have:=d9F f.kind
 omega
section
variable {rest:List FA} {f:LZ} {d c:Int} {st:List FA×Int×Nat}
end
theorem Od{α:Type}[Inhabited α]{l:List α}{k:Nat}(h:k<l.length):l.take (k+1)=l.take k++[Am.get l k]:=by
 rw[List.take_add_one,List.getElem?_eq_getElem h]
 simp[Am.get,h]
abbrev IT:=Mr
mutual
def d0R:LZ→List Bs→Nat→List IT
 | .mk k n w s,ar,b=>⟨k,n,w,w.map (fun x=>decide (x∈ar)),((b+(1+Pb s):Nat):Int)⟩::Ug s (if QK k then n::ar else ar) (b+1)
def Ug:List LZ→List Bs→Nat→List IT
 | [],_,_=>[]
 |x::l,ar,b=>d0R x ar b++Ug l ar (b+ndF x)
end
theorem i0I(f:LZ)(ar:List Bs)(b:Nat):d0R f ar b=⟨f.kind,f.name,f.words,f.words.map (fun x=>decide (x∈ar)),((b+ndF f:Nat):Int)⟩::Ug f.subs (if QK f.kind then f.name::ar else ar) (b+1):=by
 cases f;rw[d0R,ndF];rfl
mutual
theorem WZ:∀(f:LZ) (ar:List Bs) (b:Nat),(d0R f ar b).length=ndF f
 | .mk k n w s,ar,b=>by rw[d0R,ndF,List.length_cons,d2b s];omega
theorem d2b:∀(l:List LZ) (ar:List Bs) (b:Nat),(Ug l ar b).length=Pb l
 | [],_,_=>by rw[Ug,Pb];rfl
 |x::l,ar,b=>by rw[Ug,Pb,List.length_append,WZ x,d2b l]
end
theorem Vo:∀(l:List LZ) (x:LZ),Pb (l++[x])=Pb l+ndF x
 | [],x=>by simp[Pb]
 |a::l,x=>by rw[List.cons_append,Pb,Pb,Vo l x];omega
theorem d4p:∀(l m:List LZ),Pb (l++m)=Pb l+Pb m
 | [],m=>by simp[Pb]
 |a::l,m=>by rw[List.cons_append,Pb,Pb,d4p l m];omega
theorem Tl{l:List LZ}{k:Nat}(h:k<l.length):Pb (l.take k)+ndF (Am.get l k)≤Pb l:=by
 have e:l=(l.take k++[Am.get l k])++l.drop (k+1):=by
  rw[List.append_assoc,List.singleton_append, ←d4i h];exact(List.take_append_drop k l).symm
 have h2:Pb l=Pb (l.take k)+ndF (Am.get l k)+Pb (l.drop (k+1)):=by
  conv=>lhs;rw[e]
  rw[d4p,Vo]
 omega
theorem d2c{f:LZ}(h:WfF f):f.words.length≤3:=by
 have h2:=(OT ((Qe f).1 h).1).2.1
 unfold Vl at h2
 split at h2
 ·exact h2
 ·split at h2<;>omega
theorem Uh{f:LZ}(h:WfF f){k:Nat}(hk:k<f.subs.length):WfF (Am.get f.subs k):=Nv.1 ((Qe f).1 h).2 _ (get_mem hk)
theorem d0S{f:LZ}(h:WfF f):f.subs.length≤2:=d7g f ((Qe f).1 h).1
end Go.Proofs.YtdjnbjnlnjhllaaDoor
