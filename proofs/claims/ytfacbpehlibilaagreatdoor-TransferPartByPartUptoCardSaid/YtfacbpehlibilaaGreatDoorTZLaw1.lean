import Derived.Test.YtfacbpehlibilaaGreatDoorTZLaw0
set_option linter.unusedVariables false
set_option linter.unusedSimpArgs false
namespace Go.Am
open Go
section
variable {σ ρ τ:Type} {body:Nat→σ→Option (Ctl ρ σ τ)} {s s' s'':σ} {e:Ex ρ τ}
def mz(body:Nat→σ→Option (Ctl ρ σ τ))(s s':σ):Prop:=∃k N,∀n,N≤n→∀f,bM (body n) (f+k) s=bM (body n) f s'
def Dx(body:Nat→σ→Option (Ctl ρ σ τ))(s:σ)(e:Ex ρ τ):Prop:=∃k N,∀n,N≤n→∀f,bM (body n) (f+k) s=some e
theorem mz.refl:mz body s s:=⟨0,0,fun _ _ _=>rfl⟩
theorem mz.trans(h:mz body s s')(k:mz body s' s''):mz body s s'':=by
 obtain⟨a,N,h⟩:=h
 obtain⟨b,M,k⟩:=k
 exact⟨b+a,max N M,fun n hn f=>by rw[←Nat.add_assoc,h n (by omega),k n (by omega)]⟩
theorem mz.ends(h:mz body s s')(k:Dx body s' e):Dx body s e:=by
 obtain⟨a,N,h⟩:=h
 obtain⟨b,M,k⟩:=k
 exact⟨b+a,max N M,fun n hn f=>by rw[←Nat.add_assoc,h n (by omega),k n (by omega)]⟩
theorem mz.one(h:Evt (fun n=>body n s) (fun c=>c= .nxt s')):mz body s s':=by
 obtain⟨c,rfl,N,h⟩:=h
 exact⟨1,N,fun n hn f=>by show bM (body n) (f+1) s=_;simp only[bM,h n hn]⟩
theorem Dx.brk{t:τ}(h:Evt (fun n=>body n s) (fun c=>c= .brk t)):Dx body s (.nxt t):=by
 obtain⟨c,rfl,N,h⟩:=h
 exact⟨1,N,fun n hn f=>by show bM (body n) (f+1) s=_;simp only[bM,h n hn]⟩
theorem Dx.ret{r:ρ}(h:Evt (fun n=>body n s) (fun c=>c= .ret r)):Dx body s (.ret r):=by
 obtain⟨c,rfl,N,h⟩:=h
 exact⟨1,N,fun n hn f=>by show bM (body n) (f+1) s=_;simp only[bM,h n hn]⟩
end
end Go.Am
namespace Go.Proofs.YtfacbpehlibilaaGreatDoor
open Go Go.Am
theorem get_mem{α:Type}[Inhabited α]{l:List α}{k:Nat}(h:k<l.length):Am.get l k∈l:=by
 unfold Am.get
 rw[List.getD_eq_getElem?_getD,List.getElem?_eq_getElem h]
 exact List.getElem_mem h
theorem BT{α:Type}[Inhabited α]{l:List α}{k:Nat}(h:k<l.length):l.drop k=Am.get l k::l.drop (k+1):=by
 rw[List.drop_eq_getElem_cons h]
 unfold Am.get
 rw[List.getD_eq_getElem?_getD,List.getElem?_eq_getElem h];rfl
def Live{α:Type}(st:List α×Int×Nat)(l:List α)(c:Int):Prop:=st.1.take st.2.2=l∧st.2.2=l.length∧st.2.1=c
section
variable {α:Type} {st:List α×Int×Nat} {rest:List α} {x:α} {c:Int}
theorem Live.le{l:List α}(h:Live st l c):st.2.2≤st.1.length:=by
 have h1:=congrArg List.length h.1
 rw[List.length_take]at h1
 have h2:=h.2.1
 omega
theorem Live.sp(h:Live st (rest++[x]) c):st.2.2=rest.length+1:=by rw[h.2.1];simp
theorem Live.top[Inhabited α](h:Live st (rest++[x]) c):Am.get st.1 rest.length=x:=by
 have h1:Am.get (st.1.take st.2.2) rest.length=Am.get st.1 rest.length:=vX (by rw[h.sp];omega)
 rw[←h1,h.1]
 exact Ak
end
end Go.Proofs.YtfacbpehlibilaaGreatDoor
namespace Go.Am
open Go
theorem Evt.vY{σ ρ τ:Type}{body:Nat→σ→Option (Ctl ρ σ τ)}{s0:σ}(N:Nat)(I:Nat→σ→Prop)(B:τ→Prop)(R:ρ→Prop)(h0:I 0 s0)
 (hs:∀k s,k<N→I k s→Evt (fun n=>body n s) (Jt (I (k+1)) B R)) (he:∀s,I N s→Evt (fun n=>body n s) (Jt (fun _=>False) B R)):
 Evt (fun n=>bM (body n) n s0) (ExP B R):=by
 have key:∀j k s,k+j=N→I k s→∃e,ExP B R e∧∃M,∀n,M≤n→∀f,j<f→bM (body n) f s=some e:=by
  intro j
  induction j with
  |zero=>
   intro k s hk hi
   obtain rfl:k=N:=by omega
   obtain⟨c,hc,M,hM⟩:=he s hi
   cases c with
   |nxt s'=>exact hc.elim
   |brk t=>refine⟨.nxt t,hc,M,fun n hn f hf=>?_⟩;obtain⟨g,rfl⟩:∃g,f=g+1:=⟨f-1,by omega⟩;simp only[bM,hM n hn]
   |ret x=>refine⟨.ret x,hc,M,fun n hn f hf=>?_⟩;obtain⟨g,rfl⟩:∃g,f=g+1:=⟨f-1,by omega⟩;simp only[bM,hM n hn]
  |succ j ih=>
   intro k s hk hi
   obtain⟨c,hc,M,hM⟩:=hs k s (by omega) hi
   cases c with
   |nxt s'=>
    obtain⟨e,he,L,hL⟩:=ih (k+1) s' (by omega) hc
    refine⟨e,he,max M L,fun n hn f hf=>?_⟩
    obtain⟨g,rfl⟩:∃g,f=g+1:=⟨f-1,by omega⟩
    simp only[bM,hM n (by omega)]
    exact hL n (by omega) g (by omega)
   |brk t=>refine⟨.nxt t,hc,M,fun n hn f hf=>?_⟩;obtain⟨g,rfl⟩:∃g,f=g+1:=⟨f-1,by omega⟩;simp only[bM,hM n hn]
   |ret x=>refine⟨.ret x,hc,M,fun n hn f hf=>?_⟩;obtain⟨g,rfl⟩:∃g,f=g+1:=⟨f-1,by omega⟩;simp only[bM,hM n hn]
 obtain⟨e,he,M,hM⟩:=key N 0 s0 (by omega) h0
 exact⟨e,he,max M (N+1),fun n hn=>hM n (by omega) n (by omega)⟩
end Go.Am
namespace Go.Proofs.YtfacbpehlibilaaGreatDoor
open Go Go.Am
def QK(k:Int):Prop:=k=8∨k=9
instance(k:Int):Decidable (QK k):=inferInstanceAs (Decidable (_∨_))
mutual
def ndF:u5→Nat
 | .mk _ _ _ s=>1+T6 s
def T6:List u5→Nat
 | []=>0
 |x::l=>ndF x+T6 l
end
mutual
def dpF:u5→Nat
 | .mk _ _ _ s=>1+eM s
def eM:List u5→Nat
 | []=>0
 |x::l=>max (dpF x) (eM l)
end
mutual
def nq:u5→Nat
 | .mk k _ _ s=>(if QK k then 1 else 0)+nqL s
def nqL:List u5→Nat
 | []=>0
 |x::l=>nq x+nqL l
end
mutual
def qs:u5→List Bs
 | .mk k n _ s=>(if QK k then [n]else [])++qsL s
def qsL:List u5→List Bs
 | []=>[]
 |x::l=>qs x++qsL l
end
theorem kr(f:u5):ndF f=1+T6 f.subs:=by cases f;rw[ndF];rfl
theorem Jw(f:u5):dpF f=1+eM f.subs:=by cases f;rw[dpF];rfl
theorem FE(f:u5):nq f=(if QK f.kind then 1 else 0)+nqL f.subs:=by cases f;rw[nq];rfl
theorem KB(f:u5):qs f=(if QK f.kind then [f.name]else [])++qsL f.subs:=by cases f;rw[qs];rfl
mutual
theorem nO:∀f:u5,(qs f).length=nq f
 | .mk k n w s=>by rw[qs,nq,List.length_append,Al];split<;>rfl
theorem Al:∀l:List u5,(qsL l).length=nqL l
 | []=>by rw[qsL,nqL];rfl
 |x::l=>by rw[qsL,nqL,List.length_append,nO,Al]
end
mutual
theorem oW:∀f:u5,nq f≤ndF f
 | .mk k n w s=>by
   rw[nq,ndF]
   have:=FH s
   split<;>omega
theorem FH:∀l:List u5,nqL l≤T6 l
 | []=>by rw[nqL];omega
 |x::l=>by
  rw[nqL,T6]
  have h1:=oW x
  have h2:=FH l
  omega
end
theorem I6{f:u5}{k:Nat}(h:k<f.subs.length):SizeOf.sizeOf (Am.get f.subs k)<SizeOf.sizeOf f:=by
 cases f with
 |mk a b c s=>
  have h2:Am.get s k∈s:=by
   unfold Am.get
   have h3:k<s.length:=h
   rw[List.getD_eq_getElem?_getD,List.getElem?_eq_getElem h3]
   exact List.getElem_mem h3
  have:=List.sizeOf_lt_of_mem h2
  show SizeOf.sizeOf (Am.get s k)<_
  simp only[u5.mk.sizeOf_spec]
  omega
def arF(k:Int):Int:=if k=1∨k=2∨k=3 then 0 else if k=4∨k=8∨k=9 then 1 else if k=5∨k=6∨k=7 then 2 else -1
def iE(k:Int)(n:Nat):Prop:=if k=2 then n≤3 else if k=3 then n=2 else n=0
instance(k:Int)(n:Nat):Decidable (iE k n):=by unfold iE;infer_instance
open Classical in
noncomputable def dX(f:u5):Int:=
 if arF f.kind<0 then 4
 else if(f.subs.length:Int)≠arF f.kind∨¬iE f.kind f.words.length then 9
 else if(f.kind=2∨QK f.kind)∧¬B9 f.name then 10
 else if ¬(f.kind=2∨QK f.kind)∧f.name≠ []then 5
 else if ∃w∈f.words,¬B9 w then 10
 else 0
mutual
noncomputable def zl:u5→Int→Int→Int×Int
 | .mk k n w s,d,b=>if 200<b+1∨40<d then(1,b)else if dX (.mk k n w s)=0 then kU s (d+1) (b+1)else(dX (.mk k n w s),b)
noncomputable def kU:List u5→Int→Int→Int×Int
 | [],_,b=>(0,b)
 |x::l,d,b=>if(zl x d b).1=0 then kU l d (zl x d b).2 else zl x d b
end
theorem KC(f:u5)(d b:Int):zl f d b=if 200<b+1∨40<d then(1,b)else if dX f=0 then kU f.subs (d+1) (b+1)else(dX f,b):=by
 cases f;rw[zl];rfl
mutual
def WfF:u5→Prop
 | .mk k n w s=>dX (.mk k n w s)=0∧gY s
def gY:List u5→Prop
 | []=>True
 |x::l=>WfF x∧gY l
end
theorem Z4(f:u5):WfF f↔dX f=0∧gY f.subs:=by cases f;rw[WfF];rfl
theorem N0:∀ {l:List u5},gY l↔ ∀x∈l,WfF x
 | []=>by simp[gY]
 |x::l=>by rw[gY,N0];simp
mutual
theorem FI:∀(f:u5) (d b:Int),(zl f d b).1=0→WfF f∧(zl f d b).2=b+ndF f∧b+ndF f≤200∧d-1+dpF f≤40
 | .mk k n w s,d,b,h=>by
   rw[zl]at h⊢
   split at h
   ·cases h
   ·rename_i h1
    rw[if_neg h1]
    split at h
    ·rename_i h2
     rw[if_pos h2]
     obtain⟨w1,w2,w3,w4⟩:=BU s (d+1) (b+1) h (by omega) (by omega)
     rw[WfF,ndF,dpF]
     refine⟨⟨h2,w1⟩,?_,?_,?_⟩<;>omega
    ·exact absurd h (by assumption)
theorem BU:∀(l:List u5) (d b:Int),(kU l d b).1=0→b≤200→d-1≤40→gY l∧(kU l d b).2=b+T6 l∧b+T6 l≤200∧d-1+eM l≤40
 | [],d,b,_,hb,hd=>by rw[kU,gY,T6,eM];refine⟨trivial,?_,?_,?_⟩<;>first|omega|(show b=_;omega)
 |x::l,d,b,h,hb,hd=>by
  rw[kU]at h⊢
  split at h
  ·rename_i h1
   rw[if_pos h1]
   obtain⟨w1,w2,w3,w4⟩:=FI x d b h1
   rw[w2]at h⊢
   obtain⟨v1,v2,v3,v4⟩:=BU l d (b+ndF x) h w3 hd
   rw[gY,T6,eM]
   refine⟨⟨w1,v1⟩,?_,?_,?_⟩<;>omega
  ·exact absurd h (by assumption)
end
mutual
theorem FJ:∀(f:u5) (d b:Int),WfF f→b+ndF f≤200→d-1+dpF f≤40→zl f d b=(0,b+ndF f)
 | .mk k n w s,d,b,h1,h2,h3=>by
   rw[WfF]at h1
   rw[ndF]at h2⊢
   rw[dpF]at h3
   rw[zl,if_neg (by omega),if_pos h1.1,BW s (d+1) (b+1) h1.2 (by omega) (by omega)]
   congr 1
   omega
theorem BW:∀(l:List u5) (d b:Int),gY l→b+T6 l≤200→d-1+eM l≤40→kU l d b=(0,b+T6 l)
 | [],d,b,_,_,_=>by rw[kU,T6];congr 1;omega
 |x::l,d,b,h1,h2,h3=>by
  rw[gY]at h1
  rw[T6]at h2⊢
  rw[eM]at h3
  rw[kU,FJ x d b h1.1 (by omega) (by omega),if_pos rfl,BW l d _ h1.2 (by omega) (by omega)]
  congr 1
  omega
end
def OkF(f:u5):Prop:=WfF f∧ndF f≤200∧dpF f≤40
theorem BX(f:u5):(zl f 1 0).1=0↔OkF f:=by
 refine⟨fun h=>?_,fun h=>?_⟩
 ·obtain⟨h1,h2,h3,h4⟩:=FI f 1 0 h
  exact⟨h1,by omega,by omega⟩
 ·rw[FJ f 1 0 h.1 (by have:=h.2.1;omega) (by have:=h.2.2;omega)]
theorem Z8{f:u5}(h:dX f=0):(f.subs.length:Int)=arF f.kind∧iE f.kind f.words.length∧(f.kind=2∨QK f.kind→B9 f.name)∧(¬(f.kind=2∨QK f.kind)→f.name=[])∧∀w∈f.words,B9 w:=by
 unfold dX at h
 split at h
 ·cases h
 split at h
 ·cases h
 split at h
 ·cases h
 split at h
 ·cases h
 split at h
 ·cases h
 rename_i h1 h2 h3 h4 h5
 refine⟨Classical.byContradiction fun e=>h2 (.inl e),Classical.byContradiction fun e=>h2 (.inr e),fun h=>Classical.byContradiction fun e=>h3 ⟨h,e⟩,fun h=>Classical.byContradiction fun e=>h4 ⟨h,e⟩,fun w hw=>Classical.byContradiction fun e=>h5 ⟨w,hw,e⟩⟩
theorem Io{f:u5}(h0:0≤arF f.kind)(h1:(f.subs.length:Int)=arF f.kind)(h2:iE f.kind f.words.length)(h3:f.kind=2∨QK f.kind→B9 f.name)(h4:¬(f.kind=2∨QK f.kind)→f.name=[])(h5:∀w∈f.words,B9 w):dX f=0:=by
 unfold dX
 rw[if_neg (by omega),if_neg (fun h=>h.elim (fun e=>e h1) (fun e=>e h2)),if_neg (fun h=>h.2 (h3 h.1)),if_neg (fun h=>h.2 (h4 h.1)),if_neg (fun⟨w,hw,e⟩=>e (h5 w hw))]
def sub(env:List (Bs×Bs))(w:Bs):Bs:=((env.find? (fun p=>p.1==w)).map (·.2)).getD w
theorem mP(w:Bs):sub [] w=w:=rfl
theorem K1(a b w:Bs)(env:List (Bs×Bs)):sub ((a,b)::env) w=if a=w then b else sub env w:=by
 unfold sub
 rw[List.find?_cons]
 by_cases h:a=w
 ·simp[h]
 ·have:(a==w)=false:=beq_false_of_ne h
  simp[this,h]
theorem kV{env:List (Bs×Bs)}{w:Bs}(h:∀p∈env,p.1≠w):sub env w=w:=by
 induction env with
 |nil=>rfl
 |cons p env ih=>
  obtain⟨a,b⟩:=p
  rw[K1,if_neg (h (a,b) (List.mem_cons_self ..)),ih fun q hq=>h q (List.mem_cons_of_mem _ hq)]
theorem vZ{env:List (Bs×Bs)}{w:Bs}(h:w∈env.map (·.1)):sub env w∈env.map (·.2):=by
 induction env with
 |nil=>cases h
 |cons p env ih=>
  obtain⟨a,b⟩:=p
  rw[K1]
  split
  ·exact List.mem_cons_self ..
  ·rename_i hne
   rw[List.map_cons,List.mem_cons]at h
   exact List.mem_cons_of_mem _ (ih (h.resolve_left fun e=>hne e.symm))
mutual
def ren(N:Nat→Bs):u5→List (Bs×Bs)→Nat→u5
 | .mk k n w s,env,i=>.mk k (if QK k then N i else n) (w.map (sub env)) (I7 N s (if QK k then(n,N i)::env else env) (i+if QK k then 1 else 0))
def I7(N:Nat→Bs):List u5→List (Bs×Bs)→Nat→List u5
 | [],_,_=>[]
 |x::l,env,i=>ren N x env i::I7 N l env (i+nq x)
end
theorem sH(N:Nat→Bs)(f:u5)(env:List (Bs×Bs))(i:Nat):ren N f env i= .mk f.kind (if QK f.kind then N i else f.name) (f.words.map (sub env)) (I7 N f.subs (if QK f.kind then(f.name,N i)::env else env) (i+if QK f.kind then 1 else 0)):=by
 cases f;rw[ren];rfl
theorem bP(N:Nat→Bs):∀(l:List u5) (env:List (Bs×Bs)) (i:Nat),(I7 N l env i).length=l.length
 | [],_,_=>by rw[I7]
 |x::l,env,i=>by rw[I7,List.length_cons,List.length_cons,bP N l]
mutual
theorem yu(N:Nat→Bs):∀(f:u5) (env:List (Bs×Bs)) (i:Nat),nq (ren N f env i)=nq f
 | .mk k n w s,env,i=>by rw[ren,nq,nq,FK N s]
theorem FK(N:Nat→Bs):∀(l:List u5) (env:List (Bs×Bs)) (i:Nat),nqL (I7 N l env i)=nqL l
 | [],env,i=>by rw[I7]
 |x::l,env,i=>by rw[I7,nqL,nqL,yu N x,FK N l]
end
mutual
theorem sI(N:Nat→Bs):∀(f:u5) (env:List (Bs×Bs)) (i:Nat),ndF (ren N f env i)=ndF f
 | .mk k n w s,env,i=>by rw[ren,ndF,ndF,Ao N s]
theorem Ao(N:Nat→Bs):∀(l:List u5) (env:List (Bs×Bs)) (i:Nat),T6 (I7 N l env i)=T6 l
 | [],env,i=>by rw[I7]
 |x::l,env,i=>by rw[I7,T6,T6,sI N x,Ao N l]
end
mutual
theorem uQ(N:Nat→Bs):∀(f:u5) (env:List (Bs×Bs)) (i:Nat),dpF (ren N f env i)=dpF f
 | .mk k n w s,env,i=>by rw[ren,dpF,dpF,Ap N s]
theorem Ap(N:Nat→Bs):∀(l:List u5) (env:List (Bs×Bs)) (i:Nat),eM (I7 N l env i)=eM l
 | [],env,i=>by rw[I7]
 |x::l,env,i=>by rw[I7,eM,eM,uQ N x,Ap N l]
end
def nms(N:Nat→Bs):Nat→Nat→List Bs
 | _,0=>[]
 |i,m+1=>N i::nms N (i+1) m
theorem Aq(N:Nat→Bs):∀(a b i:Nat),nms N i (a+b)=nms N i a++nms N (i+a) b
 |0,b,i=>by rw[Nat.zero_add];rfl
 |a+1,b,i=>by rw[show a+1+b=(a+b)+1 by omega,nms,nms,Aq N a b,List.cons_append,show i+1+a=i+(a+1)by omega]
mutual
theorem Oj(N:Nat→Bs):∀(f:u5) (env:List (Bs×Bs)) (i:Nat),qs (ren N f env i)=nms N i (nq f)
 | .mk k n w s,env,i=>by
   rw[ren,qs,nq,FL N s,Aq]
   by_cases h:QK k
   ·simp only[if_pos h];rfl
   ·simp only[if_neg h];rfl
theorem FL(N:Nat→Bs):∀(l:List u5) (env:List (Bs×Bs)) (i:Nat),qsL (I7 N l env i)=nms N i (nqL l)
 | [],env,i=>by rw[I7,nqL];rfl
 |x::l,env,i=>by rw[I7,qsL,nqL,Oj N x,FL N l,Aq]
end
def Idn(env:List (Bs×Bs)):Prop:=∀p∈env,p.1=p.2
theorem Ol{env:List (Bs×Bs)}(h:Idn env)(w:Bs):sub env w=w:=by
 induction env with
 |nil=>rfl
 |cons p env ih=>
  obtain⟨a,b⟩:=p
  rw[K1,ih fun q hq=>h q (List.mem_cons_of_mem _ hq)]
  split
  ·rename_i e;rw[←e];exact(h (a,b) (List.mem_cons_self ..)).symm
  ·rfl
mutual
theorem FM(N:Nat→Bs):∀(f:u5) (env env':List (Bs×Bs)) (i:Nat),Idn env'→ren N (ren N f env i) env' i=ren N f env i
 | .mk k n w s,env,env',i,h=>by
   have hw:(w.map (sub env)).map (sub env')=w.map (sub env):=by
    conv=>rhs;rw[←List.map_id (w.map (sub env))]
    exact List.map_congr_left fun x _=>Ol h x
   rw[ren,ren,hw]
   by_cases hq:QK k
   ·simp only[if_pos hq]
    rw[wg N s _ _ _ (fun p hp=>by
     rcases List.mem_cons.1 hp with rfl|hp
     ·rfl
     ·exact h p hp)]
   ·simp only[if_neg hq]
    rw[wg N s _ _ _ h]
theorem wg(N:Nat→Bs):∀(l:List u5) (env env':List (Bs×Bs)) (i:Nat),Idn env'→I7 N (I7 N l env i) env' i=I7 N l env i
 | [],env,env',i,h=>by rw[I7,I7]
 |x::l,env,env',i,h=>by
  rw[I7,I7,FM N x _ _ _ h,yu,wg N l _ _ _ h]
end
mutual
def fre:u5→List Bs→Bs→Prop
 | .mk k n w s,bd,x=>(x∈w∧x∉bd)∨W8 s (if QK k then n::bd else bd) x
def W8:List u5→List Bs→Bs→Prop
 | [],_,_=>False
 |f::l,bd,x=>fre f bd x∨W8 l bd x
end
theorem yw(f:u5)(bd:List Bs)(x:Bs):fre f bd x↔(x∈f.words∧x∉bd)∨W8 f.subs (if QK f.kind then f.name::bd else bd) x:=by cases f;rw[fre];rfl
theorem wh:∀ {l:List u5} {bd:List Bs} {x:Bs},W8 l bd x↔ ∃f∈l,fre f bd x
 | [],bd,x=>by simp[W8]
 |f::l,bd,x=>by rw[W8,wh];simp
mutual
theorem FN:∀(f:u5) (bd:List Bs) (x:Bs),fre f bd x→x∉bd
 | .mk k n w s,bd,x,h=>by
   rw[fre]at h
   rcases h with h|h
   ·exact h.2
   ·have:=BZ s _ x h
    split at this
    ·exact fun e=>this (List.mem_cons_of_mem _ e)
    ·exact this
theorem BZ:∀(l:List u5) (bd:List Bs) (x:Bs),W8 l bd x→x∉bd
 | [],bd,x,h=>by rw[W8]at h;exact h.elim
 |f::l,bd,x,h=>by
  rw[W8]at h
  exact h.elim (FN f bd x) (BZ l bd x)
end
mutual
theorem sJ(N:Nat→Bs)(U:Bs→Prop)(hN:∀i,¬U (N i)):∀(f:u5) (env:List (Bs×Bs)) (i:Nat),(∀x,fre f (env.map (·.1)) x→U x)→(∀p∈env,∃j,p.2=N j)→∀x,fre (ren N f env i) (env.map (·.2)) x↔fre f (env.map (·.1)) x
 | .mk k n w s,env,i,hU,he,x=>by
   have key:∀y∈w,(sub env y∉env.map (·.2)↔y∉env.map (·.1))∧(y∉env.map (·.1)→sub env y=y):=fun y hy=>by
    by_cases hb:y∈env.map (·.1)
    ·exact⟨⟨fun h=>absurd (vZ hb) h,fun h=>absurd hb h⟩,fun h=>absurd hb h⟩
    ·have e:sub env y=y:=kV fun p hp e=>hb (List.mem_map.2 ⟨p,hp,e⟩)
     rw[e]
     refine⟨⟨fun _=>hb,fun _ h=>?_⟩,fun _=>rfl⟩
     obtain⟨p,hp,e2⟩:=List.mem_map.1 h
     obtain⟨j,hj⟩:=he p hp
     exact hN j (by rw[←hj,e2];exact hU y (by rw[fre];exact .inl ⟨hy,hb⟩))
   have hs:W8 (I7 N s (if QK k then(n,N i)::env else env) (i+if QK k then 1 else 0)) (if QK k then N i::env.map (·.2)else env.map (·.2)) x↔W8 s (if QK k then n::env.map (·.1)else env.map (·.1)) x:=by
    by_cases hq:QK k
    ·simp only[if_pos hq]
     exact wj N U hN s ((n,N i)::env) (i+1) (fun y hy=>hU y (by rw[fre,if_pos hq];exact .inr hy)) (fun p hp=>by
      rcases List.mem_cons.1 hp with rfl|hp
      ·exact⟨i,rfl⟩
      ·exact he p hp) x
    ·simp only[if_neg hq]
     exact wj N U hN s env _ (fun y hy=>hU y (by rw[fre,if_neg hq];exact .inr hy)) he x
   rw[ren,fre,fre]
   have hn:(if QK k then(if QK k then N i else n)::env.map (·.2)else env.map (·.2))=(if QK k then N i::env.map (·.2)else env.map (·.2)):=by
    by_cases hq:QK k<;>simp[hq]
   rw[hn,hs]
   refine or_congr_left ⟨fun h=>?_,fun h=>?_⟩
   ·obtain⟨h1,h2⟩:=h
    obtain⟨y,hy,rfl⟩:=List.mem_map.1 h1
    have hk:=key y hy
    have hb:=hk.1.1 h2
    rw[hk.2 hb]
    exact⟨hy,hb⟩
   ·have hk:=key x h.1
    have e:=hk.2 h.2
    exact⟨List.mem_map.2 ⟨x,h.1,e⟩,by rw[←e];exact hk.1.2 h.2⟩
theorem wj(N:Nat→Bs)(U:Bs→Prop)(hN:∀i,¬U (N i)):∀(l:List u5) (env:List (Bs×Bs)) (i:Nat),(∀x,W8 l (env.map (·.1)) x→U x)→(∀p∈env,∃j,p.2=N j)→∀x,W8 (I7 N l env i) (env.map (·.2)) x↔W8 l (env.map (·.1)) x
 | [],env,i,_,_,x=>by rw[I7];simp[W8]
 |f::l,env,i,hU,he,x=>by
  rw[I7,W8,W8,sJ N U hN f env i (fun y hy=>hU y (by rw[W8];exact .inl hy)) he x,wj N U hN l env _ (fun y hy=>hU y (by rw[W8];exact .inr hy)) he x]
end
theorem KD(k:Int):iF k=some (arF k):=by
 by_cases h1:k=1
 ·subst h1;rfl
 by_cases h2:k=2
 ·subst h2;rfl
 by_cases h3:k=3
 ·subst h3;rfl
 by_cases h4:k=4
 ·subst h4;rfl
 by_cases h5:k=5
 ·subst h5;rfl
 by_cases h6:k=6
 ·subst h6;rfl
 by_cases h7:k=7
 ·subst h7;rfl
 by_cases h8:k=8
 ·subst h8;rfl
 by_cases h9:k=9
 ·subst h9;rfl
 simp[iF,bH,bI,bJ,arF,h1,h2,h3,h4,h5,h6,h7,h8,h9]
theorem aX(f:u5):C5 f=some (decide (QK f.kind)):=by
 unfold C5 QK
 by_cases h:f.kind=8<;>simp[h]
def DQ(c:Int×Int)(b:Int)(r:B1×Int):Prop:=r.1.code=c.1∧(c.1=0→r=(⟨0,0⟩,c.2)∧b≤c.2∧c.2≤200)∧(c.1≠0→r.1=⟨c.1,c.2⟩)
theorem DQ.bad{c b x:Int}{r:B1×Int}(hc:c≠0)(hr:r.1=⟨c,x⟩):DQ (c,x) b r:=⟨by rw[hr],fun h=>absurd h hc,fun _=>hr⟩
theorem Jx(k:Int):arF k≤2:=by unfold arF;repeat' split<;>omega
theorem KE{f:u5}(h:arF f.kind<0):dX f=4:=by unfold dX;rw[if_pos h]
theorem KF{f:u5}(h0:¬arF f.kind<0)(h:(f.subs.length:Int)≠arF f.kind∨¬iE f.kind f.words.length):dX f=9:=by unfold dX;rw[if_neg h0,if_pos h]
theorem Ip{f:u5}(h0:¬arF f.kind<0)(h1:¬((f.subs.length:Int)≠arF f.kind∨¬iE f.kind f.words.length))(h:(f.kind=2∨QK f.kind)∧¬B9 f.name):dX f=10:=by unfold dX;rw[if_neg h0,if_neg h1,if_pos h]
theorem KG{f:u5}(h0:¬arF f.kind<0)(h1:¬((f.subs.length:Int)≠arF f.kind∨¬iE f.kind f.words.length))(h2:¬((f.kind=2∨QK f.kind)∧¬B9 f.name))(h:¬(f.kind=2∨QK f.kind)∧f.name≠ []):dX f=5:=by unfold dX;rw[if_neg h0,if_neg h1,if_neg h2,if_pos h]
open Classical in
theorem KH{f:u5}(h0:¬arF f.kind<0)(h1:¬((f.subs.length:Int)≠arF f.kind∨¬iE f.kind f.words.length))(h2:¬((f.kind=2∨QK f.kind)∧¬B9 f.name))(h3:¬(¬(f.kind=2∨QK f.kind)∧f.name≠ [])):dX f=if ∃w∈f.words,¬B9 w then 10 else 0:=by unfold dX;rw[if_neg h0,if_neg h1,if_neg h2,if_neg h3]
theorem K5{s:Bs}{b:Bool}(h:b=vW s):b=true↔B9 s:=by
 rw[h];unfold vW;simp
theorem FP{l:List Bs}(h:∀j,j<l.length→B9 (Am.get l j)):¬ ∃w∈l,¬B9 w:=fun⟨w,hw,hn⟩=>by
 obtain⟨j,hj,rfl⟩:=V7.1 hw
 exact hn (h j hj)
theorem FQ:∀(m:Nat) (f:u5),SizeOf.sizeOf f≤m→∀d b:Int,0≤d→d≤41→0≤b→b≤200→Evt (fun n=>J5 n f d b false) (DQ (zl f d b) b):=by
 intro m
 induction m with
 |zero=>intro f h;cases f;simp only[u5.mk.sizeOf_spec]at h;omega
 |succ m ih=>
  intro f hf d b hd0 hd hb0 hb
  have hw1:wr .i64 (d+1)=d+1:=iy (by omega) (by omega)
  have hw2:wr .i64 (b+1)=b+1:=iy (by omega) (by omega)
  refine Evt.succ ?_
  simp only[J5,hw2,KD,Option.bind_some]
  rw[KC]
  refine Evt.cond (fun e=>?_) (fun e=>?_)
  ·replace e:=bx e
   rw[if_pos (by omega)]
   exact Evt.pure (DQ.bad (by decide) rfl)
  replace e:=bx e
  rw[if_neg (by omega)]
  have key:Evt (fun n=>W0 (J5 n) b f d false (arF f.kind)) (DQ (if dX f=0 then kU f.subs (d+1) (b+1)else(dX f,b)) b):=by
   unfold W0
   refine Evt.cond (fun e=>?_) (fun e=>?_)
   ·replace e:=bx e
    rw[KE e,if_neg (by decide)]
    exact Evt.pure (DQ.bad (by decide) rfl)
   replace e:=bx e
   have e0:¬arF f.kind<0:=by omega
   have k1:∀c:Bool,(c=true↔iE f.kind f.words.length)→Evt (fun n=>R7 (J5 n) f (arF f.kind) b d false c) (DQ (if dX f=0 then kU f.subs (d+1) (b+1)else(dX f,b)) b):=by
    intro c hc
    unfold R7
    refine Evt.cond (fun e=>?_) (fun e=>?_)
    ·replace e:=bx e
     rw[KF e0 (by
      rcases e with e|e
      ·exact .inl e
      ·exact .inr fun h=>by rw[hc.2 h]at e;cases e),if_neg (by decide)]
     exact Evt.pure (DQ.bad (by decide) (by simp only[hw2]))
    replace e:=bx e
    have e1:¬((f.subs.length:Int)≠arF f.kind∨¬iE f.kind f.words.length):=fun h=>h.elim (fun h=>h e.1) (fun h=>h (hc.1 e.2))
    have h10:f.kind≠10:=fun h=>by
     rw[h]at e0;exact e0 (by decide)
    simp only[aX]
    refine Evt.bind (P:=fun v=>v=(!(decide (f.kind=2))&&decide (QK f.kind))) (Evt.gd (fun g=>Evt.pure (by replace g:=bx g;simp[g])) (fun g=>by replace g:=bx g;simp[g])) fun v5 hv5=>?_
    have hn:(bif bif decide (f.kind=2)then true else v5 then true else decide (f.kind=10))=decide (f.kind=2∨QK f.kind):=by
     subst hv5
     by_cases h2:f.kind=2<;>simp[h2,h10]
    rw[hn]
    refine Evt.bind (P:=fun v=>(f.kind=2∨QK f.kind)→(v=true↔B9 f.name)) (Evt.gd (fun g=>(Z1 f.name).mono fun v hv _=>K5 hv) (fun g h=>absurd h (by simpa using g))) fun v6 hv6=>?_
    refine Evt.cond (fun e=>?_) (fun e=>?_)
    ·replace e:=bx e
     rw[Ip e0 e1 ⟨e.1,fun h=>by rw[(hv6 e.1).2 h]at e;cases e.2⟩,if_neg (by decide)]
     exact Evt.pure (DQ.bad (by decide) (by simp only[hw2]))
    have e2:¬((f.kind=2∨QK f.kind)∧¬B9 f.name):=fun⟨h1,h2⟩=>by
     cases v6 with
     |true=>exact h2 ((hv6 h1).1 rfl)
     |false=>simp[h1]at e
    refine Evt.cond (fun e=>?_) (fun e=>?_)
    ·replace e:=bx e
     rw[KG e0 e1 e2 ⟨by simpa using e.1,e.2⟩,if_neg (by decide)]
     exact Evt.pure (DQ.bad (by decide) (by simp only[hw2]))
    have e3:¬(¬(f.kind=2∨QK f.kind)∧f.name≠ []):=fun⟨h1,h2⟩=>by simp[h1,h2]at e
    have Om:=KH e0 e1 e2 e3
    refine Evt.C1 (Evt.scan (fun k _=>∀j,j<k→B9 (Am.get f.words j)) (fun k r=>r.1=⟨10,b⟩∧∃w∈f.words,¬B9 w) (fun j hj=>absurd hj (Nat.not_lt_zero _)) (fun k u hk hi=>?_)) (fun t ht=>?_) (fun r hr=>?_)
    ·unfold dh
     refine Evt.bind (Z1 _) fun v hv=>Evt.cond (fun e=>?_) (fun e=>Evt.pure ?_)
     ·replace e:=bx e
      exact Evt.pure ⟨rfl,_,get_mem hk,fun h=>by rw[(K5 hv).2 h]at e;cases e⟩
     ·replace e:=bx e
      intro j hj
      by_cases ej:j=k
      ·subst ej;exact(K5 hv).1 e
      ·exact hi j (by omega)
    ·have hall:=FP ht
     rw[Om,if_neg hall,if_pos rfl]
     unfold dj
     rw[hw2]
     have hsl:f.subs.length≤2:=by
      have:=Jx f.kind
      have:(f.subs.length:Int)=arF f.kind:=Classical.byContradiction fun h=>e1 (.inl h)
      omega
     refine Evt.C1 (Evt.range (fun k c=>kU (f.subs.drop k) (d+1) c=kU f.subs (d+1) (b+1)∧b+1≤c∧c≤200) (fun _=>False) (fun r=>DQ (kU f.subs (d+1) (b+1)) b r) ⟨rfl,by omega,by omega⟩ (fun k c hk hj=>?_)) (fun t ht=>Evt.pure ?_) (fun r hr=>hr)
     ·obtain⟨h1,h2,h3⟩:=hj
      unfold dn
      have hsz:=I6 hk
      rw[hw1]
      rw[BT hk,kU]at h1
      refine Evt.bind (ih _ (by omega) _ _ (by omega) (by omega) (by omega) h3) fun v hv=>Evt.cond (fun e=>Evt.pure ?_) (fun e=>Evt.pure ?_)
      ·replace e:=bx e
       rw[hv.1]at e
       rw[if_neg e]at h1
       rw[←h1]
       exact⟨hv.1,fun h=>absurd h e,hv.2.2⟩
      ·replace e:=bx e
       rw[hv.1]at e
       rw[if_pos e]at h1
       obtain⟨hv1,hv2,hv3⟩:=hv.2.1 e
       rw[hv1]
       exact⟨h1,by show b+1≤(zl _ _ _).2;omega,hv3⟩
     ·obtain⟨h1,h2,h3⟩:=ht.elim id False.elim
      rw[List.drop_length,kU]at h1
      unfold dr at*
      rw[←h1]
      exact⟨rfl,fun _=>⟨rfl,by show b≤t;omega,h3⟩,fun h=>absurd rfl h⟩
    ·obtain⟨k,_,_,_,h1,h2⟩:=hr
     rw[Om,if_pos h2,if_neg (by decide)]
     exact DQ.bad (by decide) h1
   refine Evt.cond (fun e=>k1 _ ?_) (fun e=>Evt.cond (fun e2=>k1 _ ?_) (fun e2=>k1 _ ?_))
   ·replace e:=bx e
    unfold iE;simp[e];omega
   ·replace e:=bx e;replace e2:=bx e2
    unfold iE;simp[e2];omega
   ·replace e:=bx e;replace e2:=bx e2
    unfold iE;simp[e,e2]
  refine Evt.cond (fun e=>?_) (fun e=>key)
  simp at e
noncomputable def kW(f:u5):B1:=if(zl f 1 0).1=0 then⟨0,0⟩else⟨(zl f 1 0).1,(zl f 1 0).2⟩
theorem fN(f:u5):(kW f).code=0↔OkF f:=by
 rw[←BX]
 unfold kW
 split
 ·simp[*]
 ·simp[*]
theorem nP{f:u5}(h:OkF f):kW f=⟨0,0⟩:=by unfold kW;rw[if_pos ((BX f).2 h)]
theorem R2(f:u5):Evt (fun n=>Q6 n f) (fun r=>r=kW f):=by
 unfold Q6 iX
 simp only[Option.bind_assoc,Option.bind_some]
 refine Evt.bind (FQ _ f (Nat.le_refl _) 1 0 (by omega) (by omega) (by omega) (by omega)) fun v hv=>Evt.pure ?_
 unfold kW
 split
 ·rename_i h;rw[(hv.2.1 h).1]
 ·rename_i h;exact hv.2.2 h
abbrev FA:=C8
theorem FT(f:u5):dX f=0→f.subs.length≤2:=fun h=>by
 have h1:=(Z8 h).1
 have:=Jx f.kind
 omega
section
variable {rest:List FA} {f:u5} {d c:Int} {st:List FA×Int×Nat}
end
theorem D8{α:Type}[Inhabited α]{l:List α}{k:Nat}(h:k<l.length):l.take (k+1)=l.take k++[Am.get l k]:=by
 rw[List.take_add_one,List.getElem?_eq_getElem h]
 simp[Am.get,h]
abbrev IT:=D5
mutual
def Dy:u5→List Bs→Nat→List IT
 | .mk k n w s,ar,b=>⟨k,n,w,w.map (fun x=>decide (x∈ar)),((b+(1+T6 s):Nat):Int)⟩::lQ s (if QK k then n::ar else ar) (b+1)
def lQ:List u5→List Bs→Nat→List IT
 | [],_,_=>[]
 |x::l,ar,b=>Dy x ar b++lQ l ar (b+ndF x)
end
mutual
theorem qH:∀(f:u5) (ar:List Bs) (b:Nat),(Dy f ar b).length=ndF f
 | .mk k n w s,ar,b=>by rw[Dy,ndF,List.length_cons,yx s];omega
theorem yx:∀(l:List u5) (ar:List Bs) (b:Nat),(lQ l ar b).length=T6 l
 | [],_,_=>by rw[lQ,T6];rfl
 |x::l,ar,b=>by rw[lQ,T6,List.length_append,qH x,yx l]
end
theorem gn:∀(l:List u5) (x:u5),T6 (l++[x])=T6 l+ndF x
 | [],x=>by simp[T6]
 |a::l,x=>by rw[List.cons_append,T6,T6,gn l x];omega
theorem Ca:∀(l m:List u5),T6 (l++m)=T6 l+T6 m
 | [],m=>by simp[T6]
 |a::l,m=>by rw[List.cons_append,T6,T6,Ca l m];omega
theorem bE{l:List u5}{k:Nat}(h:k<l.length):T6 (l.take k)+ndF (Am.get l k)≤T6 l:=by
 have e:l=(l.take k++[Am.get l k])++l.drop (k+1):=by
  rw[List.append_assoc,List.singleton_append, ←BT h];exact(List.take_append_drop k l).symm
 have h2:T6 l=T6 (l.take k)+ndF (Am.get l k)+T6 (l.drop (k+1)):=by
  conv=>lhs;rw[e]
  rw[Ca,gn]
 omega
theorem yA{f:u5}(h:WfF f):f.words.length≤3:=by
 have h2:=(Z8 ((Z4 f).1 h).1).2.1
 unfold iE at h2
 split at h2
 ·exact h2
 ·split at h2<;>omega
theorem sK{f:u5}(h:WfF f){k:Nat}(hk:k<f.subs.length):WfF (Am.get f.subs k):=N0.1 ((Z4 f).1 h).2 _ (get_mem hk)
theorem wm{f:u5}(h:WfF f):f.subs.length≤2:=FT f ((Z4 f).1 h).1
end Go.Proofs.YtfacbpehlibilaaGreatDoor
