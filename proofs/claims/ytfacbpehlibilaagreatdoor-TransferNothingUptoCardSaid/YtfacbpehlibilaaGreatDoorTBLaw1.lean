import Derived.Test.YtfacbpehlibilaaGreatDoorTBLaw0
set_option linter.unusedVariables false
set_option linter.unusedSimpArgs false
namespace Go.Am
open Go
section
variable {σ ρ τ:Type} {body:Nat→σ→Option (Ctl ρ σ τ)} {s s' s'':σ} {e:Ex ρ τ}
def ZY(body:Nat→σ→Option (Ctl ρ σ τ))(s s':σ):Prop:=∃k N,∀n,N≤n→∀f,TL (body n) (f+k) s=TL (body n) f s'
def d9z(body:Nat→σ→Option (Ctl ρ σ τ))(s:σ)(e:Ex ρ τ):Prop:=∃k N,∀n,N≤n→∀f,TL (body n) (f+k) s=some e
theorem ZY.refl:ZY body s s:=⟨0,0,fun _ _ _=>rfl⟩
theorem ZY.trans(h:ZY body s s')(k:ZY body s' s''):ZY body s s'':=by
 obtain⟨a,N,h⟩:=h
 obtain⟨b,M,k⟩:=k
 exact⟨b+a,max N M,fun n hn f=>by rw[←Nat.add_assoc,h n (by omega),k n (by omega)]⟩
theorem ZY.ends(h:ZY body s s')(k:d9z body s' e):d9z body s e:=by
 obtain⟨a,N,h⟩:=h
 obtain⟨b,M,k⟩:=k
 exact⟨b+a,max N M,fun n hn f=>by rw[←Nat.add_assoc,h n (by omega),k n (by omega)]⟩
theorem ZY.one(h:Evt (fun n=>body n s) (fun c=>c= .nxt s')):ZY body s s':=by
 obtain⟨c,rfl,N,h⟩:=h
 exact⟨1,N,fun n hn f=>by show TL (body n) (f+1) s=_;simp only[TL,h n hn]⟩
theorem d9z.brk{t:τ}(h:Evt (fun n=>body n s) (fun c=>c= .brk t)):d9z body s (.nxt t):=by
 obtain⟨c,rfl,N,h⟩:=h
 exact⟨1,N,fun n hn f=>by show TL (body n) (f+1) s=_;simp only[TL,h n hn]⟩
theorem d9z.ret{r:ρ}(h:Evt (fun n=>body n s) (fun c=>c= .ret r)):d9z body s (.ret r):=by
 obtain⟨c,rfl,N,h⟩:=h
 exact⟨1,N,fun n hn f=>by show TL (body n) (f+1) s=_;simp only[TL,h n hn]⟩
end
end Go.Am
namespace Go.Proofs.YtfacbpehlibilaaGreatDoor
open Go Go.Am
theorem get_mem{α:Type}[Inhabited α]{l:List α}{k:Nat}(h:k<l.length):Am.get l k∈l:=by
 unfold Am.get
 rw[List.getD_eq_getElem?_getD,List.getElem?_eq_getElem h]
 exact List.getElem_mem h
theorem d8s{α:Type}[Inhabited α]{l:List α}{k:Nat}(h:k<l.length):l.drop k=Am.get l k::l.drop (k+1):=by
 rw[List.drop_eq_getElem_cons h]
 unfold Am.get
 rw[List.getD_eq_getElem?_getD,List.getElem?_eq_getElem h];rfl
def Live{α:Type}(st:List α×Int×Nat)(l:List α)(c:Int):Prop:=st.1.take st.2.2=l∧st.2.2=l.length∧st.2.1=c
section
variable {α:Type} {st:List α×Int×Nat} {rest:List α} {x:α} {c:Int}
theorem Live.le{l:List α}(h:Live st l c):st.2.2≤st.1.length:=by
 have h1:=congrArg List.length h.1
 rw[List.length_take]at h1
 have h2:=h.2.1
 omega
theorem Live.sp(h:Live st (rest++[x]) c):st.2.2=rest.length+1:=by rw[h.2.1];simp
theorem Live.top[Inhabited α](h:Live st (rest++[x]) c):Am.get st.1 rest.length=x:=by
 have h1:Am.get (st.1.take st.2.2) rest.length=Am.get st.1 rest.length:=i3e (by rw[h.sp];omega)
 rw[←h1,h.1]
 exact d7z
end
end Go.Proofs.YtfacbpehlibilaaGreatDoor
namespace Go.Am
open Go
theorem Evt.i1m{σ ρ τ:Type}{body:Nat→σ→Option (Ctl ρ σ τ)}{s0:σ}(N:Nat)(I:Nat→σ→Prop)(B:τ→Prop)(R:ρ→Prop)(h0:I 0 s0)
 (hs:∀k s,k<N→I k s→Evt (fun n=>body n s) (i6f (I (k+1)) B R)) (he:∀s,I N s→Evt (fun n=>body n s) (i6f (fun _=>False) B R)):
 Evt (fun n=>TL (body n) n s0) (ExP B R):=by
 have key:∀j k s,k+j=N→I k s→∃e,ExP B R e∧∃M,∀n,M≤n→∀f,j<f→TL (body n) f s=some e:=by
  intro j
  induction j with
  |zero=>
   intro k s hk hi
   obtain rfl:k=N:=by omega
   obtain⟨c,hc,M,hM⟩:=he s hi
   cases c with
   |nxt s'=>exact hc.elim
   |brk t=>refine⟨.nxt t,hc,M,fun n hn f hf=>?_⟩;obtain⟨g,rfl⟩:∃g,f=g+1:=⟨f-1,by omega⟩;simp only[TL,hM n hn]
   |ret x=>refine⟨.ret x,hc,M,fun n hn f hf=>?_⟩;obtain⟨g,rfl⟩:∃g,f=g+1:=⟨f-1,by omega⟩;simp only[TL,hM n hn]
  |succ j ih=>
   intro k s hk hi
   obtain⟨c,hc,M,hM⟩:=hs k s (by omega) hi
   cases c with
   |nxt s'=>
    obtain⟨e,he,L,hL⟩:=ih (k+1) s' (by omega) hc
    refine⟨e,he,max M L,fun n hn f hf=>?_⟩
    obtain⟨g,rfl⟩:∃g,f=g+1:=⟨f-1,by omega⟩
    simp only[TL,hM n (by omega)]
    exact hL n (by omega) g (by omega)
   |brk t=>refine⟨.nxt t,hc,M,fun n hn f hf=>?_⟩;obtain⟨g,rfl⟩:∃g,f=g+1:=⟨f-1,by omega⟩;simp only[TL,hM n hn]
   |ret x=>refine⟨.ret x,hc,M,fun n hn f hf=>?_⟩;obtain⟨g,rfl⟩:∃g,f=g+1:=⟨f-1,by omega⟩;simp only[TL,hM n hn]
 obtain⟨e,he,M,hM⟩:=key N 0 s0 (by omega) h0
 exact⟨e,he,max M (N+1),fun n hn=>hM n (by omega) n (by omega)⟩
end Go.Am
namespace Go.Proofs.YtfacbpehlibilaaGreatDoor
open Go Go.Am
def QK(k:Int):Prop:=k=8∨k=9
instance(k:Int):Decidable (QK k):=inferInstanceAs (Decidable (_∨_))
mutual
def ndF:Ox→Nat
 | .mk _ _ _ s=>1+Tx s
def Tx:List Ox→Nat
 | []=>0
 |x::l=>ndF x+Tx l
end
mutual
def dpF:Ox→Nat
 | .mk _ _ _ s=>1+YT s
def YT:List Ox→Nat
 | []=>0
 |x::l=>max (dpF x) (YT l)
end
mutual
def nq:Ox→Nat
 | .mk k _ _ s=>(if QK k then 1 else 0)+nqL s
def nqL:List Ox→Nat
 | []=>0
 |x::l=>nq x+nqL l
end
mutual
def qs:Ox→List Bs
 | .mk k n _ s=>(if QK k then [n]else [])++qsL s
def qsL:List Ox→List Bs
 | []=>[]
 |x::l=>qs x++qsL l
end
theorem d4A(f:Ox):ndF f=1+Tx f.subs:=by cases f;rw[ndF];rfl
theorem i7G(f:Ox):dpF f=1+YT f.subs:=by cases f;rw[dpF];rfl
theorem i3f(f:Ox):nq f=(if QK f.kind then 1 else 0)+nqL f.subs:=by cases f;rw[nq];rfl
mutual
theorem i7H:∀f:Ox,(qs f).length=nq f
 | .mk k n w s=>by rw[qs,nq,List.length_append,i1n];split<;>rfl
theorem i1n:∀l:List Ox,(qsL l).length=nqL l
 | []=>by rw[qsL,nqL];rfl
 |x::l=>by rw[qsL,nqL,List.length_append,i7H,i1n]
end
mutual
theorem i1o:∀f:Ox,nq f≤ndF f
 | .mk k n w s=>by
   rw[nq,ndF]
   have:=i4c s
   split<;>omega
theorem i4c:∀l:List Ox,nqL l≤Tx l
 | []=>by rw[nqL];omega
 |x::l=>by
  rw[nqL,Tx]
  have h1:=i1o x
  have h2:=i4c l
  omega
end
theorem Rw{f:Ox}{k:Nat}(h:k<f.subs.length):SizeOf.sizeOf (Am.get f.subs k)<SizeOf.sizeOf f:=by
 cases f with
 |mk a b c s=>
  have h2:Am.get s k∈s:=by
   unfold Am.get
   have h3:k<s.length:=h
   rw[List.getD_eq_getElem?_getD,List.getElem?_eq_getElem h3]
   exact List.getElem_mem h3
  have:=List.sizeOf_lt_of_mem h2
  show SizeOf.sizeOf (Am.get s k)<_
  simp only[Ox.mk.sizeOf_spec]
  omega
def arF(k:Int):Int:=if k=1∨k=2∨k=3 then 0 else if k=4∨k=8∨k=9 then 1 else if k=5∨k=6∨k=7 then 2 else -1
def Zk(k:Int)(n:Nat):Prop:=if k=2 then n≤3 else if k=3 then n=2 else n=0
instance(k:Int)(n:Nat):Decidable (Zk k n):=by unfold Zk;infer_instance
open Classical in
noncomputable def UY(f:Ox):Int:=
 if arF f.kind<0 then 4
 else if(f.subs.length:Int)≠arF f.kind∨¬Zk f.kind f.words.length then 9
 else if(f.kind=2∨QK f.kind)∧¬PK f.name then 10
 else if ¬(f.kind=2∨QK f.kind)∧f.name≠ []then 5
 else if ∃w∈f.words,¬PK w then 10
 else 0
mutual
noncomputable def d6I:Ox→Int→Int→Int×Int
 | .mk k n w s,d,b=>if 200<b+1∨40<d then(1,b)else if UY (.mk k n w s)=0 then Zl s (d+1) (b+1)else(UY (.mk k n w s),b)
noncomputable def Zl:List Ox→Int→Int→Int×Int
 | [],_,b=>(0,b)
 |x::l,d,b=>if(d6I x d b).1=0 then Zl l d (d6I x d b).2 else d6I x d b
end
theorem i5a(f:Ox)(d b:Int):d6I f d b=if 200<b+1∨40<d then(1,b)else if UY f=0 then Zl f.subs (d+1) (b+1)else(UY f,b):=by
 cases f;rw[d6I];rfl
mutual
def WfF:Ox→Prop
 | .mk k n w s=>UY (.mk k n w s)=0∧ZB s
def ZB:List Ox→Prop
 | []=>True
 |x::l=>WfF x∧ZB l
end
theorem Uf(f:Ox):WfF f↔UY f=0∧ZB f.subs:=by cases f;rw[WfF];rfl
theorem Qt:∀ {l:List Ox},ZB l↔ ∀x∈l,WfF x
 | []=>by simp[ZB]
 |x::l=>by rw[ZB,Qt];simp
mutual
theorem i1p:∀(f:Ox) (d b:Int),(d6I f d b).1=0→WfF f∧(d6I f d b).2=b+ndF f∧b+ndF f≤200∧d-1+dpF f≤40
 | .mk k n w s,d,b,h=>by
   rw[d6I]at h⊢
   split at h
   ·cases h
   ·rename_i h1
    rw[if_neg h1]
    split at h
    ·rename_i h2
     rw[if_pos h2]
     obtain⟨w1,w2,w3,w4⟩:=d8t s (d+1) (b+1) h (by omega) (by omega)
     rw[WfF,ndF,dpF]
     refine⟨⟨h2,w1⟩,?_,?_,?_⟩<;>omega
    ·exact absurd h (by assumption)
theorem d8t:∀(l:List Ox) (d b:Int),(Zl l d b).1=0→b≤200→d-1≤40→ZB l∧(Zl l d b).2=b+Tx l∧b+Tx l≤200∧d-1+YT l≤40
 | [],d,b,_,hb,hd=>by rw[Zl,ZB,Tx,YT];refine⟨trivial,?_,?_,?_⟩<;>first|omega|(show b=_;omega)
 |x::l,d,b,h,hb,hd=>by
  rw[Zl]at h⊢
  split at h
  ·rename_i h1
   rw[if_pos h1]
   obtain⟨w1,w2,w3,w4⟩:=i1p x d b h1
   rw[w2]at h⊢
   obtain⟨v1,v2,v3,v4⟩:=d8t l d (b+ndF x) h w3 hd
   rw[ZB,Tx,YT]
   refine⟨⟨w1,v1⟩,?_,?_,?_⟩<;>omega
  ·exact absurd h (by assumption)
end
mutual
theorem i1q:∀(f:Ox) (d b:Int),WfF f→b+ndF f≤200→d-1+dpF f≤40→d6I f d b=(0,b+ndF f)
 | .mk k n w s,d,b,h1,h2,h3=>by
   rw[WfF]at h1
   rw[ndF]at h2⊢
   rw[dpF]at h3
   rw[d6I,if_neg (by omega),if_pos h1.1,d8u s (d+1) (b+1) h1.2 (by omega) (by omega)]
   congr 1
   omega
theorem d8u:∀(l:List Ox) (d b:Int),ZB l→b+Tx l≤200→d-1+YT l≤40→Zl l d b=(0,b+Tx l)
 | [],d,b,_,_,_=>by rw[Zl,Tx];congr 1;omega
 |x::l,d,b,h1,h2,h3=>by
  rw[ZB]at h1
  rw[Tx]at h2⊢
  rw[YT]at h3
  rw[Zl,i1q x d b h1.1 (by omega) (by omega),if_pos rfl,d8u l d _ h1.2 (by omega) (by omega)]
  congr 1
  omega
end
def OkF(f:Ox):Prop:=WfF f∧ndF f≤200∧dpF f≤40
theorem d8v(f:Ox):(d6I f 1 0).1=0↔OkF f:=by
 refine⟨fun h=>?_,fun h=>?_⟩
 ·obtain⟨h1,h2,h3,h4⟩:=i1p f 1 0 h
  exact⟨h1,by omega,by omega⟩
 ·rw[i1q f 1 0 h.1 (by have:=h.2.1;omega) (by have:=h.2.2;omega)]
theorem Uk{f:Ox}(h:UY f=0):(f.subs.length:Int)=arF f.kind∧Zk f.kind f.words.length∧(f.kind=2∨QK f.kind→PK f.name)∧(¬(f.kind=2∨QK f.kind)→f.name=[])∧∀w∈f.words,PK w:=by
 unfold UY at h
 split at h
 ·cases h
 split at h
 ·cases h
 split at h
 ·cases h
 split at h
 ·cases h
 split at h
 ·cases h
 rename_i h1 h2 h3 h4 h5
 refine⟨Classical.byContradiction fun e=>h2 (.inl e),Classical.byContradiction fun e=>h2 (.inr e),fun h=>Classical.byContradiction fun e=>h3 ⟨h,e⟩,fun h=>Classical.byContradiction fun e=>h4 ⟨h,e⟩,fun w hw=>Classical.byContradiction fun e=>h5 ⟨w,hw,e⟩⟩
theorem i3g{f:Ox}(h0:0≤arF f.kind)(h1:(f.subs.length:Int)=arF f.kind)(h2:Zk f.kind f.words.length)(h3:f.kind=2∨QK f.kind→PK f.name)(h4:¬(f.kind=2∨QK f.kind)→f.name=[])(h5:∀w∈f.words,PK w):UY f=0:=by
 unfold UY
 rw[if_neg (by omega),if_neg (fun h=>h.elim (fun e=>e h1) (fun e=>e h2)),if_neg (fun h=>h.2 (h3 h.1)),if_neg (fun h=>h.2 (h4 h.1)),if_neg (fun⟨w,hw,e⟩=>e (h5 w hw))]
def sub(env:List (Bs×Bs))(w:Bs):Bs:=((env.find? (fun p=>p.1==w)).map (·.2)).getD w
theorem d7A(w:Bs):sub [] w=w:=rfl
theorem Tq(a b w:Bs)(env:List (Bs×Bs)):sub ((a,b)::env) w=if a=w then b else sub env w:=by
 unfold sub
 rw[List.find?_cons]
 by_cases h:a=w
 ·simp[h]
 ·have:(a==w)=false:=beq_false_of_ne h
  simp[this,h]
theorem d7B{env:List (Bs×Bs)}{w:Bs}(h:∀p∈env,p.1≠w):sub env w=w:=by
 induction env with
 |nil=>rfl
 |cons p env ih=>
  obtain⟨a,b⟩:=p
  rw[Tq,if_neg (h (a,b) (List.mem_cons_self ..)),ih fun q hq=>h q (List.mem_cons_of_mem _ hq)]
theorem d7C{env:List (Bs×Bs)}{w:Bs}(h:w∈env.map (·.1)):sub env w∈env.map (·.2):=by
 induction env with
 |nil=>cases h
 |cons p env ih=>
  obtain⟨a,b⟩:=p
  rw[Tq]
  split
  ·exact List.mem_cons_self ..
  ·rename_i hne
   rw[List.map_cons,List.mem_cons]at h
   exact List.mem_cons_of_mem _ (ih (h.resolve_left fun e=>hne e.symm))
mutual
def ren(N:Nat→Bs):Ox→List (Bs×Bs)→Nat→Ox
 | .mk k n w s,env,i=>.mk k (if QK k then N i else n) (w.map (sub env)) (Sc N s (if QK k then(n,N i)::env else env) (i+if QK k then 1 else 0))
def Sc(N:Nat→Bs):List Ox→List (Bs×Bs)→Nat→List Ox
 | [],_,_=>[]
 |x::l,env,i=>ren N x env i::Sc N l env (i+nq x)
end
theorem d4B(N:Nat→Bs)(f:Ox)(env:List (Bs×Bs))(i:Nat):ren N f env i= .mk f.kind (if QK f.kind then N i else f.name) (f.words.map (sub env)) (Sc N f.subs (if QK f.kind then(f.name,N i)::env else env) (i+if QK f.kind then 1 else 0)):=by
 cases f;rw[ren];rfl
theorem Vm(N:Nat→Bs):∀(l:List Ox) (env:List (Bs×Bs)) (i:Nat),(Sc N l env i).length=l.length
 | [],_,_=>by rw[Sc]
 |x::l,env,i=>by rw[Sc,List.length_cons,List.length_cons,Vm N l]
mutual
theorem i1r(N:Nat→Bs):∀(f:Ox) (env:List (Bs×Bs)) (i:Nat),nq (ren N f env i)=nq f
 | .mk k n w s,env,i=>by rw[ren,nq,nq,i1s N s]
theorem i1s(N:Nat→Bs):∀(l:List Ox) (env:List (Bs×Bs)) (i:Nat),nqL (Sc N l env i)=nqL l
 | [],env,i=>by rw[Sc]
 |x::l,env,i=>by rw[Sc,nqL,nqL,i1r N x,i1s N l]
end
mutual
theorem i1t(N:Nat→Bs):∀(f:Ox) (env:List (Bs×Bs)) (i:Nat),ndF (ren N f env i)=ndF f
 | .mk k n w s,env,i=>by rw[ren,ndF,ndF,i1u N s]
theorem i1u(N:Nat→Bs):∀(l:List Ox) (env:List (Bs×Bs)) (i:Nat),Tx (Sc N l env i)=Tx l
 | [],env,i=>by rw[Sc]
 |x::l,env,i=>by rw[Sc,Tx,Tx,i1t N x,i1u N l]
end
mutual
theorem i1v(N:Nat→Bs):∀(f:Ox) (env:List (Bs×Bs)) (i:Nat),dpF (ren N f env i)=dpF f
 | .mk k n w s,env,i=>by rw[ren,dpF,dpF,i1w N s]
theorem i1w(N:Nat→Bs):∀(l:List Ox) (env:List (Bs×Bs)) (i:Nat),YT (Sc N l env i)=YT l
 | [],env,i=>by rw[Sc]
 |x::l,env,i=>by rw[Sc,YT,YT,i1v N x,i1w N l]
end
def nms(N:Nat→Bs):Nat→Nat→List Bs
 | _,0=>[]
 |i,m+1=>N i::nms N (i+1) m
theorem d7D(N:Nat→Bs):∀(a b i:Nat),nms N i (a+b)=nms N i a++nms N (i+a) b
 |0,b,i=>by rw[Nat.zero_add];rfl
 |a+1,b,i=>by rw[show a+1+b=(a+b)+1 by omega,nms,nms,d7D N a b,List.cons_append,show i+1+a=i+(a+1)by omega]
mutual
theorem i7I(N:Nat→Bs):∀(f:Ox) (env:List (Bs×Bs)) (i:Nat),qs (ren N f env i)=nms N i (nq f)
 | .mk k n w s,env,i=>by
   rw[ren,qs,nq,i1x N s,d7D]
   by_cases h:QK k
   ·simp only[if_pos h];rfl
   ·simp only[if_neg h];rfl
theorem i1x(N:Nat→Bs):∀(l:List Ox) (env:List (Bs×Bs)) (i:Nat),qsL (Sc N l env i)=nms N i (nqL l)
 | [],env,i=>by rw[Sc,nqL];rfl
 |x::l,env,i=>by rw[Sc,qsL,nqL,i7I N x,i1x N l,d7D]
end
def Idn(env:List (Bs×Bs)):Prop:=∀p∈env,p.1=p.2
theorem i7J{env:List (Bs×Bs)}(h:Idn env)(w:Bs):sub env w=w:=by
 induction env with
 |nil=>rfl
 |cons p env ih=>
  obtain⟨a,b⟩:=p
  rw[Tq,ih fun q hq=>h q (List.mem_cons_of_mem _ hq)]
  split
  ·rename_i e;rw[←e];exact(h (a,b) (List.mem_cons_self ..)).symm
  ·rfl
mutual
theorem i5b(N:Nat→Bs):∀(f:Ox) (env env':List (Bs×Bs)) (i:Nat),Idn env'→ren N (ren N f env i) env' i=ren N f env i
 | .mk k n w s,env,env',i,h=>by
   have hw:(w.map (sub env)).map (sub env')=w.map (sub env):=by
    conv=>rhs;rw[←List.map_id (w.map (sub env))]
    exact List.map_congr_left fun x _=>i7J h x
   rw[ren,ren,hw]
   by_cases hq:QK k
   ·simp only[if_pos hq]
    rw[d5l N s _ _ _ (fun p hp=>by
     rcases List.mem_cons.1 hp with rfl|hp
     ·rfl
     ·exact h p hp)]
   ·simp only[if_neg hq]
    rw[d5l N s _ _ _ h]
theorem d5l(N:Nat→Bs):∀(l:List Ox) (env env':List (Bs×Bs)) (i:Nat),Idn env'→Sc N (Sc N l env i) env' i=Sc N l env i
 | [],env,env',i,h=>by rw[Sc,Sc]
 |x::l,env,env',i,h=>by
  rw[Sc,Sc,i5b N x _ _ _ h,i1r,d5l N l _ _ _ h]
end
mutual
def fre:Ox→List Bs→Bs→Prop
 | .mk k n w s,bd,x=>(x∈w∧x∉bd)∨XZ s (if QK k then n::bd else bd) x
def XZ:List Ox→List Bs→Bs→Prop
 | [],_,_=>False
 |f::l,bd,x=>fre f bd x∨XZ l bd x
end
theorem i4d(f:Ox)(bd:List Bs)(x:Bs):fre f bd x↔(x∈f.words∧x∉bd)∨XZ f.subs (if QK f.kind then f.name::bd else bd) x:=by cases f;rw[fre];rfl
theorem d5m:∀ {l:List Ox} {bd:List Bs} {x:Bs},XZ l bd x↔ ∃f∈l,fre f bd x
 | [],bd,x=>by simp[XZ]
 |f::l,bd,x=>by rw[XZ,d5m];simp
mutual
theorem i5c:∀(f:Ox) (bd:List Bs) (x:Bs),fre f bd x→x∉bd
 | .mk k n w s,bd,x,h=>by
   rw[fre]at h
   rcases h with h|h
   ·exact h.2
   ·have:=d8w s _ x h
    split at this
    ·exact fun e=>this (List.mem_cons_of_mem _ e)
    ·exact this
theorem d8w:∀(l:List Ox) (bd:List Bs) (x:Bs),XZ l bd x→x∉bd
 | [],bd,x,h=>by rw[XZ]at h;exact h.elim
 |f::l,bd,x,h=>by
  rw[XZ]at h
  exact h.elim (i5c f bd x) (d8w l bd x)
end
mutual
theorem i1y(N:Nat→Bs)(U:Bs→Prop)(hN:∀i,¬U (N i)):∀(f:Ox) (env:List (Bs×Bs)) (i:Nat),(∀x,fre f (env.map (·.1)) x→U x)→(∀p∈env,∃j,p.2=N j)→∀x,fre (ren N f env i) (env.map (·.2)) x↔fre f (env.map (·.1)) x
 | .mk k n w s,env,i,hU,he,x=>by
   have key:∀y∈w,(sub env y∉env.map (·.2)↔y∉env.map (·.1))∧(y∉env.map (·.1)→sub env y=y):=fun y hy=>by
    by_cases hb:y∈env.map (·.1)
    ·exact⟨⟨fun h=>absurd (d7C hb) h,fun h=>absurd hb h⟩,fun h=>absurd hb h⟩
    ·have e:sub env y=y:=d7B fun p hp e=>hb (List.mem_map.2 ⟨p,hp,e⟩)
     rw[e]
     refine⟨⟨fun _=>hb,fun _ h=>?_⟩,fun _=>rfl⟩
     obtain⟨p,hp,e2⟩:=List.mem_map.1 h
     obtain⟨j,hj⟩:=he p hp
     exact hN j (by rw[←hj,e2];exact hU y (by rw[fre];exact .inl ⟨hy,hb⟩))
   have hs:XZ (Sc N s (if QK k then(n,N i)::env else env) (i+if QK k then 1 else 0)) (if QK k then N i::env.map (·.2)else env.map (·.2)) x↔XZ s (if QK k then n::env.map (·.1)else env.map (·.1)) x:=by
    by_cases hq:QK k
    ·simp only[if_pos hq]
     exact d5n N U hN s ((n,N i)::env) (i+1) (fun y hy=>hU y (by rw[fre,if_pos hq];exact .inr hy)) (fun p hp=>by
      rcases List.mem_cons.1 hp with rfl|hp
      ·exact⟨i,rfl⟩
      ·exact he p hp) x
    ·simp only[if_neg hq]
     exact d5n N U hN s env _ (fun y hy=>hU y (by rw[fre,if_neg hq];exact .inr hy)) he x
   rw[ren,fre,fre]
   have hn:(if QK k then(if QK k then N i else n)::env.map (·.2)else env.map (·.2))=(if QK k then N i::env.map (·.2)else env.map (·.2)):=by
    by_cases hq:QK k<;>simp[hq]
   rw[hn,hs]
   refine or_congr_left ⟨fun h=>?_,fun h=>?_⟩
   ·obtain⟨h1,h2⟩:=h
    obtain⟨y,hy,rfl⟩:=List.mem_map.1 h1
    have hk:=key y hy
    have hb:=hk.1.1 h2
    rw[hk.2 hb]
    exact⟨hy,hb⟩
   ·have hk:=key x h.1
    have e:=hk.2 h.2
    exact⟨List.mem_map.2 ⟨x,h.1,e⟩,by rw[←e];exact hk.1.2 h.2⟩
theorem d5n(N:Nat→Bs)(U:Bs→Prop)(hN:∀i,¬U (N i)):∀(l:List Ox) (env:List (Bs×Bs)) (i:Nat),(∀x,XZ l (env.map (·.1)) x→U x)→(∀p∈env,∃j,p.2=N j)→∀x,XZ (Sc N l env i) (env.map (·.2)) x↔XZ l (env.map (·.1)) x
 | [],env,i,_,_,x=>by rw[Sc];simp[XZ]
 |f::l,env,i,hU,he,x=>by
  rw[Sc,XZ,XZ,i1y N U hN f env i (fun y hy=>hU y (by rw[XZ];exact .inl hy)) he x,d5n N U hN l env _ (fun y hy=>hU y (by rw[XZ];exact .inr hy)) he x]
end
theorem i5d(k:Int):Xi k=some (arF k):=by
 by_cases h1:k=1
 ·subst h1;rfl
 by_cases h2:k=2
 ·subst h2;rfl
 by_cases h3:k=3
 ·subst h3;rfl
 by_cases h4:k=4
 ·subst h4;rfl
 by_cases h5:k=5
 ·subst h5;rfl
 by_cases h6:k=6
 ·subst h6;rfl
 by_cases h7:k=7
 ·subst h7;rfl
 by_cases h8:k=8
 ·subst h8;rfl
 by_cases h9:k=9
 ·subst h9;rfl
 simp[Xi,Ti,Tj,Tl,arF,h1,h2,h3,h4,h5,h6,h7,h8,h9]
theorem WU(f:Ox):Pc f=some (decide (QK f.kind)):=by
 unfold Pc QK
 by_cases h:f.kind=8<;>simp[h]
def d9M(c:Int×Int)(b:Int)(r:OL×Int):Prop:=r.1.code=c.1∧(c.1=0→r=(⟨0,0⟩,c.2)∧b≤c.2∧c.2≤200)∧(c.1≠0→r.1=⟨c.1,c.2⟩)
theorem d9M.bad{c b x:Int}{r:OL×Int}(hc:c≠0)(hr:r.1=⟨c,x⟩):d9M (c,x) b r:=⟨by rw[hr],fun h=>absurd h hc,fun _=>hr⟩
theorem i4e(k:Int):arF k≤2:=by unfold arF;repeat' split<;>omega
theorem i5e{f:Ox}(h:arF f.kind<0):UY f=4:=by unfold UY;rw[if_pos h]
theorem i5f{f:Ox}(h0:¬arF f.kind<0)(h:(f.subs.length:Int)≠arF f.kind∨¬Zk f.kind f.words.length):UY f=9:=by unfold UY;rw[if_neg h0,if_pos h]
theorem i3h{f:Ox}(h0:¬arF f.kind<0)(h1:¬((f.subs.length:Int)≠arF f.kind∨¬Zk f.kind f.words.length))(h:(f.kind=2∨QK f.kind)∧¬PK f.name):UY f=10:=by unfold UY;rw[if_neg h0,if_neg h1,if_pos h]
theorem i5g{f:Ox}(h0:¬arF f.kind<0)(h1:¬((f.subs.length:Int)≠arF f.kind∨¬Zk f.kind f.words.length))(h2:¬((f.kind=2∨QK f.kind)∧¬PK f.name))(h:¬(f.kind=2∨QK f.kind)∧f.name≠ []):UY f=5:=by unfold UY;rw[if_neg h0,if_neg h1,if_neg h2,if_pos h]
open Classical in
theorem i5h{f:Ox}(h0:¬arF f.kind<0)(h1:¬((f.subs.length:Int)≠arF f.kind∨¬Zk f.kind f.words.length))(h2:¬((f.kind=2∨QK f.kind)∧¬PK f.name))(h3:¬(¬(f.kind=2∨QK f.kind)∧f.name≠ [])):UY f=if ∃w∈f.words,¬PK w then 10 else 0:=by unfold UY;rw[if_neg h0,if_neg h1,if_neg h2,if_neg h3]
theorem d3t{s:Bs}{b:Bool}(h:b=d6n s):b=true↔PK s:=by
 rw[h];unfold d6n;simp
theorem i1z{l:List Bs}(h:∀j,j<l.length→PK (Am.get l j)):¬ ∃w∈l,¬PK w:=fun⟨w,hw,hn⟩=>by
 obtain⟨j,hj,rfl⟩:=Zj.1 hw
 exact hn (h j hj)
theorem i1A:∀(m:Nat) (f:Ox),SizeOf.sizeOf f≤m→∀d b:Int,0≤d→d≤41→0≤b→b≤200→Evt (fun n=>PV n f d b false) (d9M (d6I f d b) b):=by
 intro m
 induction m with
 |zero=>intro f h;cases f;simp only[Ox.mk.sizeOf_spec]at h;omega
 |succ m ih=>
  intro f hf d b hd0 hd hb0 hb
  have hw1:wr .i64 (d+1)=d+1:=d0H (by omega) (by omega)
  have hw2:wr .i64 (b+1)=b+1:=d0H (by omega) (by omega)
  refine Evt.succ ?_
  simp only[PV,hw2,i5d,Option.bind_some]
  rw[i5a]
  refine Evt.cond (fun e=>?_) (fun e=>?_)
  ·replace e:=bx e
   rw[if_pos (by omega)]
   exact Evt.pure (d9M.bad (by decide) rfl)
  replace e:=bx e
  rw[if_neg (by omega)]
  have key:Evt (fun n=>RK (PV n) b f d false (arF f.kind)) (d9M (if UY f=0 then Zl f.subs (d+1) (b+1)else(UY f,b)) b):=by
   unfold RK
   refine Evt.cond (fun e=>?_) (fun e=>?_)
   ·replace e:=bx e
    rw[i5e e,if_neg (by decide)]
    exact Evt.pure (d9M.bad (by decide) rfl)
   replace e:=bx e
   have e0:¬arF f.kind<0:=by omega
   have k1:∀c:Bool,(c=true↔Zk f.kind f.words.length)→Evt (fun n=>QY (PV n) f (arF f.kind) b d false c) (d9M (if UY f=0 then Zl f.subs (d+1) (b+1)else(UY f,b)) b):=by
    intro c hc
    unfold QY
    refine Evt.cond (fun e=>?_) (fun e=>?_)
    ·replace e:=bx e
     rw[i5f e0 (by
      rcases e with e|e
      ·exact .inl e
      ·exact .inr fun h=>by rw[hc.2 h]at e;cases e),if_neg (by decide)]
     exact Evt.pure (d9M.bad (by decide) (by simp only[hw2]))
    replace e:=bx e
    have e1:¬((f.subs.length:Int)≠arF f.kind∨¬Zk f.kind f.words.length):=fun h=>h.elim (fun h=>h e.1) (fun h=>h (hc.1 e.2))
    have h10:f.kind≠10:=fun h=>by
     rw[h]at e0;exact e0 (by decide)
    simp only[WU]
    refine Evt.bind (P:=fun v=>v=(!(decide (f.kind=2))&&decide (QK f.kind))) (Evt.gd (fun g=>Evt.pure (by replace g:=bx g;simp[g])) (fun g=>by replace g:=bx g;simp[g])) fun v5 hv5=>?_
    have hn:(bif bif decide (f.kind=2)then true else v5 then true else decide (f.kind=10))=decide (f.kind=2∨QK f.kind):=by
     subst hv5
     by_cases h2:f.kind=2<;>simp[h2,h10]
    rw[hn]
    refine Evt.bind (P:=fun v=>(f.kind=2∨QK f.kind)→(v=true↔PK f.name)) (Evt.gd (fun g=>(d3s f.name).mono fun v hv _=>d3t hv) (fun g h=>absurd h (by simpa using g))) fun v6 hv6=>?_
    refine Evt.cond (fun e=>?_) (fun e=>?_)
    ·replace e:=bx e
     rw[i3h e0 e1 ⟨e.1,fun h=>by rw[(hv6 e.1).2 h]at e;cases e.2⟩,if_neg (by decide)]
     exact Evt.pure (d9M.bad (by decide) (by simp only[hw2]))
    have e2:¬((f.kind=2∨QK f.kind)∧¬PK f.name):=fun⟨h1,h2⟩=>by
     cases v6 with
     |true=>exact h2 ((hv6 h1).1 rfl)
     |false=>simp[h1]at e
    refine Evt.cond (fun e=>?_) (fun e=>?_)
    ·replace e:=bx e
     rw[i5g e0 e1 e2 ⟨by simpa using e.1,e.2⟩,if_neg (by decide)]
     exact Evt.pure (d9M.bad (by decide) (by simp only[hw2]))
    have e3:¬(¬(f.kind=2∨QK f.kind)∧f.name≠ []):=fun⟨h1,h2⟩=>by simp[h1,h2]at e
    have i7K:=i5h e0 e1 e2 e3
    refine Evt.Pg (Evt.scan (fun k _=>∀j,j<k→PK (Am.get f.words j)) (fun k r=>r.1=⟨10,b⟩∧∃w∈f.words,¬PK w) (fun j hj=>absurd hj (Nat.not_lt_zero _)) (fun k u hk hi=>?_)) (fun t ht=>?_) (fun r hr=>?_)
    ·unfold Ul
     refine Evt.bind (d3s _) fun v hv=>Evt.cond (fun e=>?_) (fun e=>Evt.pure ?_)
     ·replace e:=bx e
      exact Evt.pure ⟨rfl,_,get_mem hk,fun h=>by rw[(d3t hv).2 h]at e;cases e⟩
     ·replace e:=bx e
      intro j hj
      by_cases ej:j=k
      ·subst ej;exact(d3t hv).1 e
      ·exact hi j (by omega)
    ·have hall:=i1z ht
     rw[i7K,if_neg hall,if_pos rfl]
     unfold Um
     rw[hw2]
     have hsl:f.subs.length≤2:=by
      have:=i4e f.kind
      have:(f.subs.length:Int)=arF f.kind:=Classical.byContradiction fun h=>e1 (.inl h)
      omega
     refine Evt.Pg (Evt.range (fun k c=>Zl (f.subs.drop k) (d+1) c=Zl f.subs (d+1) (b+1)∧b+1≤c∧c≤200) (fun _=>False) (fun r=>d9M (Zl f.subs (d+1) (b+1)) b r) ⟨rfl,by omega,by omega⟩ (fun k c hk hj=>?_)) (fun t ht=>Evt.pure ?_) (fun r hr=>hr)
     ·obtain⟨h1,h2,h3⟩:=hj
      unfold Un
      have hsz:=Rw hk
      rw[hw1]
      rw[d8s hk,Zl]at h1
      refine Evt.bind (ih _ (by omega) _ _ (by omega) (by omega) (by omega) h3) fun v hv=>Evt.cond (fun e=>Evt.pure ?_) (fun e=>Evt.pure ?_)
      ·replace e:=bx e
       rw[hv.1]at e
       rw[if_neg e]at h1
       rw[←h1]
       exact⟨hv.1,fun h=>absurd h e,hv.2.2⟩
      ·replace e:=bx e
       rw[hv.1]at e
       rw[if_pos e]at h1
       obtain⟨hv1,hv2,hv3⟩:=hv.2.1 e
       rw[hv1]
       exact⟨h1,by show b+1≤(d6I _ _ _).2;omega,hv3⟩
     ·obtain⟨h1,h2,h3⟩:=ht.elim id False.elim
      rw[List.drop_length,Zl]at h1
      unfold Uo at*
      rw[←h1]
      exact⟨rfl,fun _=>⟨rfl,by show b≤t;omega,h3⟩,fun h=>absurd rfl h⟩
    ·obtain⟨k,_,_,_,h1,h2⟩:=hr
     rw[i7K,if_pos h2,if_neg (by decide)]
     exact d9M.bad (by decide) h1
   refine Evt.cond (fun e=>k1 _ ?_) (fun e=>Evt.cond (fun e2=>k1 _ ?_) (fun e2=>k1 _ ?_))
   ·replace e:=bx e
    unfold Zk;simp[e];omega
   ·replace e:=bx e;replace e2:=bx e2
    unfold Zk;simp[e2];omega
   ·replace e:=bx e;replace e2:=bx e2
    unfold Zk;simp[e,e2]
  refine Evt.cond (fun e=>?_) (fun e=>key)
  simp at e
noncomputable def Zm(f:Ox):OL:=if(d6I f 1 0).1=0 then⟨0,0⟩else⟨(d6I f 1 0).1,(d6I f 1 0).2⟩
theorem YI(f:Ox):(Zm f).code=0↔OkF f:=by
 rw[←d8v]
 unfold Zm
 split
 ·simp[*]
 ·simp[*]
theorem d3u{f:Ox}(h:OkF f):Zm f=⟨0,0⟩:=by unfold Zm;rw[if_pos ((d8v f).2 h)]
theorem XH(f:Ox):Evt (fun n=>QV n f) (fun r=>r=Zm f):=by
 unfold QV XI
 simp only[Option.bind_assoc,Option.bind_some]
 refine Evt.bind (i1A _ f (Nat.le_refl _) 1 0 (by omega) (by omega) (by omega) (by omega)) fun v hv=>Evt.pure ?_
 unfold Zm
 split
 ·rename_i h;rw[(hv.2.1 h).1]
 ·rename_i h;exact hv.2.2 h
abbrev FA:=OX
theorem i1B(f:Ox):UY f=0→f.subs.length≤2:=fun h=>by
 have h1:=(Uk h).1
 have:=i4e f.kind
 omega
section
variable {rest:List FA} {f:Ox} {d c:Int} {st:List FA×Int×Nat}
end
theorem QL{α:Type}[Inhabited α]{l:List α}{k:Nat}(h:k<l.length):l.take (k+1)=l.take k++[Am.get l k]:=by
 rw[List.take_add_one,List.getElem?_eq_getElem h]
 simp[Am.get,h]
abbrev IT:=Pb
mutual
def d9A:Ox→List Bs→Nat→List IT
 | .mk k n w s,ar,b=>⟨k,n,w,w.map (fun x=>decide (x∈ar)),((b+(1+Tx s):Nat):Int)⟩::ZI s (if QK k then n::ar else ar) (b+1)
def ZI:List Ox→List Bs→Nat→List IT
 | [],_,_=>[]
 |x::l,ar,b=>d9A x ar b++ZI l ar (b+ndF x)
end
mutual
theorem d2s:∀(f:Ox) (ar:List Bs) (b:Nat),(d9A f ar b).length=ndF f
 | .mk k n w s,ar,b=>by rw[d9A,ndF,List.length_cons,d6o s];omega
theorem d6o:∀(l:List Ox) (ar:List Bs) (b:Nat),(ZI l ar b).length=Tx l
 | [],_,_=>by rw[ZI,Tx];rfl
 |x::l,ar,b=>by rw[ZI,Tx,List.length_append,d2s x,d6o l]
end
theorem Zn:∀(l:List Ox) (x:Ox),Tx (l++[x])=Tx l+ndF x
 | [],x=>by simp[Tx]
 |a::l,x=>by rw[List.cons_append,Tx,Tx,Zn l x];omega
theorem d8x:∀(l m:List Ox),Tx (l++m)=Tx l+Tx m
 | [],m=>by simp[Tx]
 |a::l,m=>by rw[List.cons_append,Tx,Tx,d8x l m];omega
theorem Xj{l:List Ox}{k:Nat}(h:k<l.length):Tx (l.take k)+ndF (Am.get l k)≤Tx l:=by
 have e:l=(l.take k++[Am.get l k])++l.drop (k+1):=by
  rw[List.append_assoc,List.singleton_append, ←d8s h];exact(List.take_append_drop k l).symm
 have h2:Tx l=Tx (l.take k)+ndF (Am.get l k)+Tx (l.drop (k+1)):=by
  conv=>lhs;rw[e]
  rw[d8x,Zn]
 omega
theorem d8y{f:Ox}(h:WfF f):f.words.length≤3:=by
 have h2:=(Uk ((Uf f).1 h).1).2.1
 unfold Zk at h2
 split at h2
 ·exact h2
 ·split at h2<;>omega
theorem d4C{f:Ox}(h:WfF f){k:Nat}(hk:k<f.subs.length):WfF (Am.get f.subs k):=Qt.1 ((Uf f).1 h).2 _ (get_mem hk)
theorem d7E{f:Ox}(h:WfF f):f.subs.length≤2:=i1B f ((Uf f).1 h).1
end Go.Proofs.YtfacbpehlibilaaGreatDoor
