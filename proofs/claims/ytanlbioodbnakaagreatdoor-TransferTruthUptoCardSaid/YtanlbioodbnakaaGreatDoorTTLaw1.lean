import Derived.Test.YtanlbioodbnakaaGreatDoorTTLaw0
set_option linter.unusedVariables false
set_option linter.unusedSimpArgs false
namespace Go.Am
open Go
section
variable {σ ρ τ:Type} {body:Nat→σ→Option (Ctl ρ σ τ)} {s s' s'':σ} {e:Ex ρ τ}
def mZ(body:Nat→σ→Option (Ctl ρ σ τ))(s s':σ):Prop:=∃k N,∀n,N≤n→∀f,Y4 (body n) (f+k) s=Y4 (body n) f s'
def CT(body:Nat→σ→Option (Ctl ρ σ τ))(s:σ)(e:Ex ρ τ):Prop:=∃k N,∀n,N≤n→∀f,Y4 (body n) (f+k) s=some e
theorem mZ.refl:mZ body s s:=⟨0,0,fun _ _ _=>rfl⟩
theorem mZ.trans(h:mZ body s s')(k:mZ body s' s''):mZ body s s'':=by
 obtain⟨a,N,h⟩:=h
 obtain⟨b,M,k⟩:=k
 exact⟨b+a,max N M,fun n hn f=>by rw[←Nat.add_assoc,h n (by omega),k n (by omega)]⟩
theorem mZ.ends(h:mZ body s s')(k:CT body s' e):CT body s e:=by
 obtain⟨a,N,h⟩:=h
 obtain⟨b,M,k⟩:=k
 exact⟨b+a,max N M,fun n hn f=>by rw[←Nat.add_assoc,h n (by omega),k n (by omega)]⟩
theorem mZ.one(h:Evt (fun n=>body n s) (fun c=>c= .nxt s')):mZ body s s':=by
 obtain⟨c,rfl,N,h⟩:=h
 exact⟨1,N,fun n hn f=>by show Y4 (body n) (f+1) s=_;simp only[Y4,h n hn]⟩
theorem CT.brk{t:τ}(h:Evt (fun n=>body n s) (fun c=>c= .brk t)):CT body s (.nxt t):=by
 obtain⟨c,rfl,N,h⟩:=h
 exact⟨1,N,fun n hn f=>by show Y4 (body n) (f+1) s=_;simp only[Y4,h n hn]⟩
theorem CT.ret{r:ρ}(h:Evt (fun n=>body n s) (fun c=>c= .ret r)):CT body s (.ret r):=by
 obtain⟨c,rfl,N,h⟩:=h
 exact⟨1,N,fun n hn f=>by show Y4 (body n) (f+1) s=_;simp only[Y4,h n hn]⟩
end
end Go.Am
namespace Go.Proofs.YtanlbioodbnakaaGreatDoor
open Go Go.Am
theorem get_mem{α:Type}[Inhabited α]{l:List α}{k:Nat}(h:k<l.length):Am.get l k∈l:=by
 unfold Am.get
 rw[List.getD_eq_getElem?_getD,List.getElem?_eq_getElem h]
 exact List.getElem_mem h
theorem Bc{α:Type}[Inhabited α]{l:List α}{k:Nat}(h:k<l.length):l.drop k=Am.get l k::l.drop (k+1):=by
 rw[List.drop_eq_getElem_cons h]
 unfold Am.get
 rw[List.getD_eq_getElem?_getD,List.getElem?_eq_getElem h];rfl
def Live{α:Type}(st:List α×Int×Nat)(l:List α)(c:Int):Prop:=st.1.take st.2.2=l∧st.2.2=l.length∧st.2.1=c
section
variable {α:Type} {st:List α×Int×Nat} {rest:List α} {x:α} {c:Int}
theorem Live.le{l:List α}(h:Live st l c):st.2.2≤st.1.length:=by
 have h1:=congrArg List.length h.1
 rw[List.length_take]at h1
 have h2:=h.2.1
 omega
theorem Live.sp(h:Live st (rest++[x]) c):st.2.2=rest.length+1:=by rw[h.2.1];simp
theorem Live.top[Inhabited α](h:Live st (rest++[x]) c):Am.get st.1 rest.length=x:=by
 have h1:Am.get (st.1.take st.2.2) rest.length=Am.get st.1 rest.length:=Bb (by rw[h.sp];omega)
 rw[←h1,h.1]
 exact zM
end
end Go.Proofs.YtanlbioodbnakaaGreatDoor
namespace Go.Am
open Go
theorem Evt.CU{σ ρ τ:Type}{body:Nat→σ→Option (Ctl ρ σ τ)}{s0:σ}(N:Nat)(I:Nat→σ→Prop)(B:τ→Prop)(R:ρ→Prop)(h0:I 0 s0)
 (hs:∀k s,k<N→I k s→Evt (fun n=>body n s) (HZ (I (k+1)) B R)) (he:∀s,I N s→Evt (fun n=>body n s) (HZ (fun _=>False) B R)):
 Evt (fun n=>Y4 (body n) n s0) (ExP B R):=by
 have key:∀j k s,k+j=N→I k s→∃e,ExP B R e∧∃M,∀n,M≤n→∀f,j<f→Y4 (body n) f s=some e:=by
  intro j
  induction j with
  |zero=>
   intro k s hk hi
   obtain rfl:k=N:=by omega
   obtain⟨c,hc,M,hM⟩:=he s hi
   cases c with
   |nxt s'=>exact hc.elim
   |brk t=>refine⟨.nxt t,hc,M,fun n hn f hf=>?_⟩;obtain⟨g,rfl⟩:∃g,f=g+1:=⟨f-1,by omega⟩;simp only[Y4,hM n hn]
   |ret x=>refine⟨.ret x,hc,M,fun n hn f hf=>?_⟩;obtain⟨g,rfl⟩:∃g,f=g+1:=⟨f-1,by omega⟩;simp only[Y4,hM n hn]
  |succ j ih=>
   intro k s hk hi
   obtain⟨c,hc,M,hM⟩:=hs k s (by omega) hi
   cases c with
   |nxt s'=>
    obtain⟨e,he,L,hL⟩:=ih (k+1) s' (by omega) hc
    refine⟨e,he,max M L,fun n hn f hf=>?_⟩
    obtain⟨g,rfl⟩:∃g,f=g+1:=⟨f-1,by omega⟩
    simp only[Y4,hM n (by omega)]
    exact hL n (by omega) g (by omega)
   |brk t=>refine⟨.nxt t,hc,M,fun n hn f hf=>?_⟩;obtain⟨g,rfl⟩:∃g,f=g+1:=⟨f-1,by omega⟩;simp only[Y4,hM n hn]
   |ret x=>refine⟨.ret x,hc,M,fun n hn f hf=>?_⟩;obtain⟨g,rfl⟩:∃g,f=g+1:=⟨f-1,by omega⟩;simp only[Y4,hM n hn]
 obtain⟨e,he,M,hM⟩:=key N 0 s0 (by omega) h0
 exact⟨e,he,max M (N+1),fun n hn=>hM n (by omega) n (by omega)⟩
end Go.Am
namespace Go.Proofs.YtanlbioodbnakaaGreatDoor
open Go Go.Am
def QK(k:Int):Prop:=k=8∨k=9
instance(k:Int):Decidable (QK k):=inferInstanceAs (Decidable (_∨_))
mutual
def ndF:u5→Nat
 | .mk _ _ _ s=>1+bT s
def bT:List u5→Nat
 | []=>0
 |x::l=>ndF x+bT l
end
mutual
def dpF:u5→Nat
 | .mk _ _ _ s=>1+jr s
def jr:List u5→Nat
 | []=>0
 |x::l=>max (dpF x) (jr l)
end
mutual
def nq:u5→Nat
 | .mk k _ _ s=>(if QK k then 1 else 0)+nqL s
def nqL:List u5→Nat
 | []=>0
 |x::l=>nq x+nqL l
end
mutual
def qs:u5→List Bs
 | .mk k n _ s=>(if QK k then [n]else [])++qsL s
def qsL:List u5→List Bs
 | []=>[]
 |x::l=>qs x++qsL l
end
theorem sK(f:u5):ndF f=1+bT f.subs:=by cases f;rw[ndF];rfl
theorem Bd(f:u5):dpF f=1+jr f.subs:=by cases f;rw[dpF];rfl
theorem KD(f:u5):nq f=(if QK f.kind then 1 else 0)+nqL f.subs:=by cases f;rw[nq];rfl
theorem QX(f:u5):qs f=(if QK f.kind then [f.name]else [])++qsL f.subs:=by cases f;rw[qs];rfl
mutual
theorem Bf:∀f:u5,(qs f).length=nq f
 | .mk k n w s=>by rw[qs,nq,List.length_append,zN];split<;>rfl
theorem zN:∀l:List u5,(qsL l).length=nqL l
 | []=>by rw[qsL,nqL];rfl
 |x::l=>by rw[qsL,nqL,List.length_append,Bf,zN]
end
mutual
theorem zO:∀f:u5,nq f≤ndF f
 | .mk k n w s=>by
   rw[nq,ndF]
   have:=EZ s
   split<;>omega
theorem EZ:∀l:List u5,nqL l≤bT l
 | []=>by rw[nqL];omega
 |x::l=>by
  rw[nqL,bT]
  have h1:=zO x
  have h2:=EZ l
  omega
end
theorem J6{f:u5}{k:Nat}(h:k<f.subs.length):SizeOf.sizeOf (Am.get f.subs k)<SizeOf.sizeOf f:=by
 cases f with
 |mk a b c s=>
  have h2:Am.get s k∈s:=by
   unfold Am.get
   have h3:k<s.length:=h
   rw[List.getD_eq_getElem?_getD,List.getElem?_eq_getElem h3]
   exact List.getElem_mem h3
  have:=List.sizeOf_lt_of_mem h2
  show SizeOf.sizeOf (Am.get s k)<_
  simp only[u5.mk.sizeOf_spec]
  omega
def arF(k:Int):Int:=if k=1∨k=2∨k=3 then 0 else if k=4∨k=8∨k=9 then 1 else if k=5∨k=6∨k=7 then 2 else -1
def hJ(k:Int)(n:Nat):Prop:=if k=2 then n≤3 else if k=3 then n=2 else n=0
instance(k:Int)(n:Nat):Decidable (hJ k n):=by unfold hJ;infer_instance
open Classical in
noncomputable def eD(f:u5):Int:=
 if arF f.kind<0 then 4
 else if(f.subs.length:Int)≠arF f.kind∨¬hJ f.kind f.words.length then 9
 else if(f.kind=2∨QK f.kind)∧¬D2 f.name then 10
 else if ¬(f.kind=2∨QK f.kind)∧f.name≠ []then 5
 else if ∃w∈f.words,¬D2 w then 10
 else 0
mutual
noncomputable def yM:u5→Int→Int→Int×Int
 | .mk k n w s,d,b=>if 200<b+1∨40<d then(1,b)else if eD (.mk k n w s)=0 then lO s (d+1) (b+1)else(eD (.mk k n w s),b)
noncomputable def lO:List u5→Int→Int→Int×Int
 | [],_,b=>(0,b)
 |x::l,d,b=>if(yM x d b).1=0 then lO l d (yM x d b).2 else yM x d b
end
theorem KE(f:u5)(d b:Int):yM f d b=if 200<b+1∨40<d then(1,b)else if eD f=0 then lO f.subs (d+1) (b+1)else(eD f,b):=by
 cases f;rw[yM];rfl
mutual
def WfF:u5→Prop
 | .mk k n w s=>eD (.mk k n w s)=0∧kE s
def kE:List u5→Prop
 | []=>True
 |x::l=>WfF x∧kE l
end
theorem Y6(f:u5):WfF f↔eD f=0∧kE f.subs:=by cases f;rw[WfF];rfl
theorem M6:∀ {l:List u5},kE l↔ ∀x∈l,WfF x
 | []=>by simp[kE]
 |x::l=>by rw[kE,M6];simp
mutual
theorem Fa:∀(f:u5) (d b:Int),(yM f d b).1=0→WfF f∧(yM f d b).2=b+ndF f∧b+ndF f≤200∧d-1+dpF f≤40
 | .mk k n w s,d,b,h=>by
   rw[yM]at h⊢
   split at h
   ·cases h
   ·rename_i h1
    rw[if_neg h1]
    split at h
    ·rename_i h2
     rw[if_pos h2]
     obtain⟨w1,w2,w3,w4⟩:=Bg s (d+1) (b+1) h (by omega) (by omega)
     rw[WfF,ndF,dpF]
     refine⟨⟨h2,w1⟩,?_,?_,?_⟩<;>omega
    ·exact absurd h (by assumption)
theorem Bg:∀(l:List u5) (d b:Int),(lO l d b).1=0→b≤200→d-1≤40→kE l∧(lO l d b).2=b+bT l∧b+bT l≤200∧d-1+jr l≤40
 | [],d,b,_,hb,hd=>by rw[lO,kE,bT,jr];refine⟨trivial,?_,?_,?_⟩<;>first|omega|(show b=_;omega)
 |x::l,d,b,h,hb,hd=>by
  rw[lO]at h⊢
  split at h
  ·rename_i h1
   rw[if_pos h1]
   obtain⟨w1,w2,w3,w4⟩:=Fa x d b h1
   rw[w2]at h⊢
   obtain⟨v1,v2,v3,v4⟩:=Bg l d (b+ndF x) h w3 hd
   rw[kE,bT,jr]
   refine⟨⟨w1,v1⟩,?_,?_,?_⟩<;>omega
  ·exact absurd h (by assumption)
end
mutual
theorem Fe:∀(f:u5) (d b:Int),WfF f→b+ndF f≤200→d-1+dpF f≤40→yM f d b=(0,b+ndF f)
 | .mk k n w s,d,b,h1,h2,h3=>by
   rw[WfF]at h1
   rw[ndF]at h2⊢
   rw[dpF]at h3
   rw[yM,if_neg (by omega),if_pos h1.1,Bh s (d+1) (b+1) h1.2 (by omega) (by omega)]
   congr 1
   omega
theorem Bh:∀(l:List u5) (d b:Int),kE l→b+bT l≤200→d-1+jr l≤40→lO l d b=(0,b+bT l)
 | [],d,b,_,_,_=>by rw[lO,bT];congr 1;omega
 |x::l,d,b,h1,h2,h3=>by
  rw[kE]at h1
  rw[bT]at h2⊢
  rw[jr]at h3
  rw[lO,Fe x d b h1.1 (by omega) (by omega),if_pos rfl,Bh l d _ h1.2 (by omega) (by omega)]
  congr 1
  omega
end
def OkF(f:u5):Prop:=WfF f∧ndF f≤200∧dpF f≤40
theorem Bj(f:u5):(yM f 1 0).1=0↔OkF f:=by
 refine⟨fun h=>?_,fun h=>?_⟩
 ·obtain⟨h1,h2,h3,h4⟩:=Fa f 1 0 h
  exact⟨h1,by omega,by omega⟩
 ·rw[Fe f 1 0 h.1 (by have:=h.2.1;omega) (by have:=h.2.2;omega)]
theorem W1{f:u5}(h:eD f=0):(f.subs.length:Int)=arF f.kind∧hJ f.kind f.words.length∧(f.kind=2∨QK f.kind→D2 f.name)∧(¬(f.kind=2∨QK f.kind)→f.name=[])∧∀w∈f.words,D2 w:=by
 unfold eD at h
 split at h
 ·cases h
 split at h
 ·cases h
 split at h
 ·cases h
 split at h
 ·cases h
 split at h
 ·cases h
 rename_i h1 h2 h3 h4 h5
 refine⟨Classical.byContradiction fun e=>h2 (.inl e),Classical.byContradiction fun e=>h2 (.inr e),fun h=>Classical.byContradiction fun e=>h3 ⟨h,e⟩,fun h=>Classical.byContradiction fun e=>h4 ⟨h,e⟩,fun w hw=>Classical.byContradiction fun e=>h5 ⟨w,hw,e⟩⟩
theorem Ij{f:u5}(h0:0≤arF f.kind)(h1:(f.subs.length:Int)=arF f.kind)(h2:hJ f.kind f.words.length)(h3:f.kind=2∨QK f.kind→D2 f.name)(h4:¬(f.kind=2∨QK f.kind)→f.name=[])(h5:∀w∈f.words,D2 w):eD f=0:=by
 unfold eD
 rw[if_neg (by omega),if_neg (fun h=>h.elim (fun e=>e h1) (fun e=>e h2)),if_neg (fun h=>h.2 (h3 h.1)),if_neg (fun h=>h.2 (h4 h.1)),if_neg (fun⟨w,hw,e⟩=>e (h5 w hw))]
def sub(env:List (Bs×Bs))(w:Bs):Bs:=((env.find? (fun p=>p.1==w)).map (·.2)).getD w
theorem pL(w:Bs):sub [] w=w:=rfl
theorem L1(a b w:Bs)(env:List (Bs×Bs)):sub ((a,b)::env) w=if a=w then b else sub env w:=by
 unfold sub
 rw[List.find?_cons]
 by_cases h:a=w
 ·simp[h]
 ·have:(a==w)=false:=beq_false_of_ne h
  simp[this,h]
theorem sL{env:List (Bs×Bs)}{w:Bs}(h:∀p∈env,p.1≠w):sub env w=w:=by
 induction env with
 |nil=>rfl
 |cons p env ih=>
  obtain⟨a,b⟩:=p
  rw[L1,if_neg (h (a,b) (List.mem_cons_self ..)),ih fun q hq=>h q (List.mem_cons_of_mem _ hq)]
theorem vV{env:List (Bs×Bs)}{w:Bs}(h:w∈env.map (·.1)):sub env w∈env.map (·.2):=by
 induction env with
 |nil=>cases h
 |cons p env ih=>
  obtain⟨a,b⟩:=p
  rw[L1]
  split
  ·exact List.mem_cons_self ..
  ·rename_i hne
   rw[List.map_cons,List.mem_cons]at h
   exact List.mem_cons_of_mem _ (ih (h.resolve_left fun e=>hne e.symm))
mutual
def ren(N:Nat→Bs):u5→List (Bs×Bs)→Nat→u5
 | .mk k n w s,env,i=>.mk k (if QK k then N i else n) (w.map (sub env)) (O8 N s (if QK k then(n,N i)::env else env) (i+if QK k then 1 else 0))
def O8(N:Nat→Bs):List u5→List (Bs×Bs)→Nat→List u5
 | [],_,_=>[]
 |x::l,env,i=>ren N x env i::O8 N l env (i+nq x)
end
theorem yd(N:Nat→Bs)(f:u5)(env:List (Bs×Bs))(i:Nat):ren N f env i= .mk f.kind (if QK f.kind then N i else f.name) (f.words.map (sub env)) (O8 N f.subs (if QK f.kind then(f.name,N i)::env else env) (i+if QK f.kind then 1 else 0)):=by
 cases f;rw[ren];rfl
theorem gy(N:Nat→Bs):∀(l:List u5) (env:List (Bs×Bs)) (i:Nat),(O8 N l env i).length=l.length
 | [],_,_=>by rw[O8]
 |x::l,env,i=>by rw[O8,List.length_cons,List.length_cons,gy N l]
mutual
theorem Bl(N:Nat→Bs):∀(f:u5) (env:List (Bs×Bs)) (i:Nat),nq (ren N f env i)=nq f
 | .mk k n w s,env,i=>by rw[ren,nq,nq,Fg N s]
theorem Fg(N:Nat→Bs):∀(l:List u5) (env:List (Bs×Bs)) (i:Nat),nqL (O8 N l env i)=nqL l
 | [],env,i=>by rw[O8]
 |x::l,env,i=>by rw[O8,nqL,nqL,Bl N x,Fg N l]
end
mutual
theorem Fh(N:Nat→Bs):∀(f:u5) (env:List (Bs×Bs)) (i:Nat),ndF (ren N f env i)=ndF f
 | .mk k n w s,env,i=>by rw[ren,ndF,ndF,Fi N s]
theorem Fi(N:Nat→Bs):∀(l:List u5) (env:List (Bs×Bs)) (i:Nat),bT (O8 N l env i)=bT l
 | [],env,i=>by rw[O8]
 |x::l,env,i=>by rw[O8,bT,bT,Fh N x,Fi N l]
end
mutual
theorem Fj(N:Nat→Bs):∀(f:u5) (env:List (Bs×Bs)) (i:Nat),dpF (ren N f env i)=dpF f
 | .mk k n w s,env,i=>by rw[ren,dpF,dpF,Fl N s]
theorem Fl(N:Nat→Bs):∀(l:List u5) (env:List (Bs×Bs)) (i:Nat),jr (O8 N l env i)=jr l
 | [],env,i=>by rw[O8]
 |x::l,env,i=>by rw[O8,jr,jr,Fj N x,Fl N l]
end
def nms(N:Nat→Bs):Nat→Nat→List Bs
 | _,0=>[]
 |i,m+1=>N i::nms N (i+1) m
theorem zP(N:Nat→Bs):∀(a b i:Nat),nms N i (a+b)=nms N i a++nms N (i+a) b
 |0,b,i=>by rw[Nat.zero_add];rfl
 |a+1,b,i=>by rw[show a+1+b=(a+b)+1 by omega,nms,nms,zP N a b,List.cons_append,show i+1+a=i+(a+1)by omega]
mutual
theorem Oe(N:Nat→Bs):∀(f:u5) (env:List (Bs×Bs)) (i:Nat),qs (ren N f env i)=nms N i (nq f)
 | .mk k n w s,env,i=>by
   rw[ren,qs,nq,Fm N s,zP]
   by_cases h:QK k
   ·simp only[if_pos h];rfl
   ·simp only[if_neg h];rfl
theorem Fm(N:Nat→Bs):∀(l:List u5) (env:List (Bs×Bs)) (i:Nat),qsL (O8 N l env i)=nms N i (nqL l)
 | [],env,i=>by rw[O8,nqL];rfl
 |x::l,env,i=>by rw[O8,qsL,nqL,Oe N x,Fm N l,zP]
end
def Idn(env:List (Bs×Bs)):Prop:=∀p∈env,p.1=p.2
theorem Og{env:List (Bs×Bs)}(h:Idn env)(w:Bs):sub env w=w:=by
 induction env with
 |nil=>rfl
 |cons p env ih=>
  obtain⟨a,b⟩:=p
  rw[L1,ih fun q hq=>h q (List.mem_cons_of_mem _ hq)]
  split
  ·rename_i e;rw[←e];exact(h (a,b) (List.mem_cons_self ..)).symm
  ·rfl
mutual
theorem KF(N:Nat→Bs):∀(f:u5) (env env':List (Bs×Bs)) (i:Nat),Idn env'→ren N (ren N f env i) env' i=ren N f env i
 | .mk k n w s,env,env',i,h=>by
   have hw:(w.map (sub env)).map (sub env')=w.map (sub env):=by
    conv=>rhs;rw[←List.map_id (w.map (sub env))]
    exact List.map_congr_left fun x _=>Og h x
   rw[ren,ren,hw]
   by_cases hq:QK k
   ·simp only[if_pos hq]
    rw[vW N s _ _ _ (fun p hp=>by
     rcases List.mem_cons.1 hp with rfl|hp
     ·rfl
     ·exact h p hp)]
   ·simp only[if_neg hq]
    rw[vW N s _ _ _ h]
theorem vW(N:Nat→Bs):∀(l:List u5) (env env':List (Bs×Bs)) (i:Nat),Idn env'→O8 N (O8 N l env i) env' i=O8 N l env i
 | [],env,env',i,h=>by rw[O8,O8]
 |x::l,env,env',i,h=>by
  rw[O8,O8,KF N x _ _ _ h,Bl,vW N l _ _ _ h]
end
mutual
def fre:u5→List Bs→Bs→Prop
 | .mk k n w s,bd,x=>(x∈w∧x∉bd)∨eP s (if QK k then n::bd else bd) x
def eP:List u5→List Bs→Bs→Prop
 | [],_,_=>False
 |f::l,bd,x=>fre f bd x∨eP l bd x
end
theorem Jq(f:u5)(bd:List Bs)(x:Bs):fre f bd x↔(x∈f.words∧x∉bd)∨eP f.subs (if QK f.kind then f.name::bd else bd) x:=by cases f;rw[fre];rfl
theorem vX:∀ {l:List u5} {bd:List Bs} {x:Bs},eP l bd x↔ ∃f∈l,fre f bd x
 | [],bd,x=>by simp[eP]
 |f::l,bd,x=>by rw[eP,vX];simp
mutual
theorem KG:∀(f:u5) (bd:List Bs) (x:Bs),fre f bd x→x∉bd
 | .mk k n w s,bd,x,h=>by
   rw[fre]at h
   rcases h with h|h
   ·exact h.2
   ·have:=Bm s _ x h
    split at this
    ·exact fun e=>this (List.mem_cons_of_mem _ e)
    ·exact this
theorem Bm:∀(l:List u5) (bd:List Bs) (x:Bs),eP l bd x→x∉bd
 | [],bd,x,h=>by rw[eP]at h;exact h.elim
 |f::l,bd,x,h=>by
  rw[eP]at h
  exact h.elim (KG f bd x) (Bm l bd x)
end
mutual
theorem zQ(N:Nat→Bs)(U:Bs→Prop)(hN:∀i,¬U (N i)):∀(f:u5) (env:List (Bs×Bs)) (i:Nat),(∀x,fre f (env.map (·.1)) x→U x)→(∀p∈env,∃j,p.2=N j)→∀x,fre (ren N f env i) (env.map (·.2)) x↔fre f (env.map (·.1)) x
 | .mk k n w s,env,i,hU,he,x=>by
   have key:∀y∈w,(sub env y∉env.map (·.2)↔y∉env.map (·.1))∧(y∉env.map (·.1)→sub env y=y):=fun y hy=>by
    by_cases hb:y∈env.map (·.1)
    ·exact⟨⟨fun h=>absurd (vV hb) h,fun h=>absurd hb h⟩,fun h=>absurd hb h⟩
    ·have e:sub env y=y:=sL fun p hp e=>hb (List.mem_map.2 ⟨p,hp,e⟩)
     rw[e]
     refine⟨⟨fun _=>hb,fun _ h=>?_⟩,fun _=>rfl⟩
     obtain⟨p,hp,e2⟩:=List.mem_map.1 h
     obtain⟨j,hj⟩:=he p hp
     exact hN j (by rw[←hj,e2];exact hU y (by rw[fre];exact .inl ⟨hy,hb⟩))
   have hs:eP (O8 N s (if QK k then(n,N i)::env else env) (i+if QK k then 1 else 0)) (if QK k then N i::env.map (·.2)else env.map (·.2)) x↔eP s (if QK k then n::env.map (·.1)else env.map (·.1)) x:=by
    by_cases hq:QK k
    ·simp only[if_pos hq]
     exact vY N U hN s ((n,N i)::env) (i+1) (fun y hy=>hU y (by rw[fre,if_pos hq];exact .inr hy)) (fun p hp=>by
      rcases List.mem_cons.1 hp with rfl|hp
      ·exact⟨i,rfl⟩
      ·exact he p hp) x
    ·simp only[if_neg hq]
     exact vY N U hN s env _ (fun y hy=>hU y (by rw[fre,if_neg hq];exact .inr hy)) he x
   rw[ren,fre,fre]
   have hn:(if QK k then(if QK k then N i else n)::env.map (·.2)else env.map (·.2))=(if QK k then N i::env.map (·.2)else env.map (·.2)):=by
    by_cases hq:QK k<;>simp[hq]
   rw[hn,hs]
   refine or_congr_left ⟨fun h=>?_,fun h=>?_⟩
   ·obtain⟨h1,h2⟩:=h
    obtain⟨y,hy,rfl⟩:=List.mem_map.1 h1
    have hk:=key y hy
    have hb:=hk.1.1 h2
    rw[hk.2 hb]
    exact⟨hy,hb⟩
   ·have hk:=key x h.1
    have e:=hk.2 h.2
    exact⟨List.mem_map.2 ⟨x,h.1,e⟩,by rw[←e];exact hk.1.2 h.2⟩
theorem vY(N:Nat→Bs)(U:Bs→Prop)(hN:∀i,¬U (N i)):∀(l:List u5) (env:List (Bs×Bs)) (i:Nat),(∀x,eP l (env.map (·.1)) x→U x)→(∀p∈env,∃j,p.2=N j)→∀x,eP (O8 N l env i) (env.map (·.2)) x↔eP l (env.map (·.1)) x
 | [],env,i,_,_,x=>by rw[O8];simp[eP]
 |f::l,env,i,hU,he,x=>by
  rw[O8,eP,eP,zQ N U hN f env i (fun y hy=>hU y (by rw[eP];exact .inl hy)) he x,vY N U hN l env _ (fun y hy=>hU y (by rw[eP];exact .inr hy)) he x]
end
theorem KH(k:Int):iT k=some (arF k):=by
 by_cases h1:k=1
 ·subst h1;rfl
 by_cases h2:k=2
 ·subst h2;rfl
 by_cases h3:k=3
 ·subst h3;rfl
 by_cases h4:k=4
 ·subst h4;rfl
 by_cases h5:k=5
 ·subst h5;rfl
 by_cases h6:k=6
 ·subst h6;rfl
 by_cases h7:k=7
 ·subst h7;rfl
 by_cases h8:k=8
 ·subst h8;rfl
 by_cases h9:k=9
 ·subst h9;rfl
 simp[iT,bn,bp,bq,arF,h1,h2,h3,h4,h5,h6,h7,h8,h9]
theorem dc(f:u5):C7 f=some (decide (QK f.kind)):=by
 unfold C7 QK
 by_cases h:f.kind=8<;>simp[h]
def Dq(c:Int×Int)(b:Int)(r:B0×Int):Prop:=r.1.code=c.1∧(c.1=0→r=(⟨0,0⟩,c.2)∧b≤c.2∧c.2≤200)∧(c.1≠0→r.1=⟨c.1,c.2⟩)
theorem Dq.bad{c b x:Int}{r:B0×Int}(hc:c≠0)(hr:r.1=⟨c,x⟩):Dq (c,x) b r:=⟨by rw[hr],fun h=>absurd h hc,fun _=>hr⟩
theorem Jr(k:Int):arF k≤2:=by unfold arF;repeat' split<;>omega
theorem KI{f:u5}(h:arF f.kind<0):eD f=4:=by unfold eD;rw[if_pos h]
theorem KJ{f:u5}(h0:¬arF f.kind<0)(h:(f.subs.length:Int)≠arF f.kind∨¬hJ f.kind f.words.length):eD f=9:=by unfold eD;rw[if_neg h0,if_pos h]
theorem Ik{f:u5}(h0:¬arF f.kind<0)(h1:¬((f.subs.length:Int)≠arF f.kind∨¬hJ f.kind f.words.length))(h:(f.kind=2∨QK f.kind)∧¬D2 f.name):eD f=10:=by unfold eD;rw[if_neg h0,if_neg h1,if_pos h]
theorem KL{f:u5}(h0:¬arF f.kind<0)(h1:¬((f.subs.length:Int)≠arF f.kind∨¬hJ f.kind f.words.length))(h2:¬((f.kind=2∨QK f.kind)∧¬D2 f.name))(h:¬(f.kind=2∨QK f.kind)∧f.name≠ []):eD f=5:=by unfold eD;rw[if_neg h0,if_neg h1,if_neg h2,if_pos h]
open Classical in
theorem KM{f:u5}(h0:¬arF f.kind<0)(h1:¬((f.subs.length:Int)≠arF f.kind∨¬hJ f.kind f.words.length))(h2:¬((f.kind=2∨QK f.kind)∧¬D2 f.name))(h3:¬(¬(f.kind=2∨QK f.kind)∧f.name≠ [])):eD f=if ∃w∈f.words,¬D2 w then 10 else 0:=by unfold eD;rw[if_neg h0,if_neg h1,if_neg h2,if_neg h3]
theorem eR{s:Bs}{b:Bool}(h:b=yc s):b=true↔D2 s:=by
 rw[h];unfold yc;simp
theorem Fo{l:List Bs}(h:∀j,j<l.length→D2 (Am.get l j)):¬ ∃w∈l,¬D2 w:=fun⟨w,hw,hn⟩=>by
 obtain⟨j,hj,rfl⟩:=bD.1 hw
 exact hn (h j hj)
theorem Fp:∀(m:Nat) (f:u5),SizeOf.sizeOf f≤m→∀d b:Int,0≤d→d≤41→0≤b→b≤200→Evt (fun n=>J0 n f d b false) (Dq (yM f d b) b):=by
 intro m
 induction m with
 |zero=>intro f h;cases f;simp only[u5.mk.sizeOf_spec]at h;omega
 |succ m ih=>
  intro f hf d b hd0 hd hb0 hb
  have hw1:wr .i64 (d+1)=d+1:=cr (by omega) (by omega)
  have hw2:wr .i64 (b+1)=b+1:=cr (by omega) (by omega)
  refine Evt.succ ?_
  simp only[J0,hw2,KH,Option.bind_some]
  rw[KE]
  refine Evt.cond (fun e=>?_) (fun e=>?_)
  ·replace e:=bx e
   rw[if_pos (by omega)]
   exact Evt.pure (Dq.bad (by decide) rfl)
  replace e:=bx e
  rw[if_neg (by omega)]
  have key:Evt (fun n=>V3 (J0 n) b f d false (arF f.kind)) (Dq (if eD f=0 then lO f.subs (d+1) (b+1)else(eD f,b)) b):=by
   unfold V3
   refine Evt.cond (fun e=>?_) (fun e=>?_)
   ·replace e:=bx e
    rw[KI e,if_neg (by decide)]
    exact Evt.pure (Dq.bad (by decide) rfl)
   replace e:=bx e
   have e0:¬arF f.kind<0:=by omega
   have k1:∀c:Bool,(c=true↔hJ f.kind f.words.length)→Evt (fun n=>Q5 (J0 n) f (arF f.kind) b d false c) (Dq (if eD f=0 then lO f.subs (d+1) (b+1)else(eD f,b)) b):=by
    intro c hc
    unfold Q5
    refine Evt.cond (fun e=>?_) (fun e=>?_)
    ·replace e:=bx e
     rw[KJ e0 (by
      rcases e with e|e
      ·exact .inl e
      ·exact .inr fun h=>by rw[hc.2 h]at e;cases e),if_neg (by decide)]
     exact Evt.pure (Dq.bad (by decide) (by simp only[hw2]))
    replace e:=bx e
    have e1:¬((f.subs.length:Int)≠arF f.kind∨¬hJ f.kind f.words.length):=fun h=>h.elim (fun h=>h e.1) (fun h=>h (hc.1 e.2))
    have h10:f.kind≠10:=fun h=>by
     rw[h]at e0;exact e0 (by decide)
    simp only[dc]
    refine Evt.bind (P:=fun v=>v=(!(decide (f.kind=2))&&decide (QK f.kind))) (Evt.gd (fun g=>Evt.pure (by replace g:=bx g;simp[g])) (fun g=>by replace g:=bx g;simp[g])) fun v5 hv5=>?_
    have hn:(bif bif decide (f.kind=2)then true else v5 then true else decide (f.kind=10))=decide (f.kind=2∨QK f.kind):=by
     subst hv5
     by_cases h2:f.kind=2<;>simp[h2,h10]
    rw[hn]
    refine Evt.bind (P:=fun v=>(f.kind=2∨QK f.kind)→(v=true↔D2 f.name)) (Evt.gd (fun g=>(dM f.name).mono fun v hv _=>eR hv) (fun g h=>absurd h (by simpa using g))) fun v6 hv6=>?_
    refine Evt.cond (fun e=>?_) (fun e=>?_)
    ·replace e:=bx e
     rw[Ik e0 e1 ⟨e.1,fun h=>by rw[(hv6 e.1).2 h]at e;cases e.2⟩,if_neg (by decide)]
     exact Evt.pure (Dq.bad (by decide) (by simp only[hw2]))
    have e2:¬((f.kind=2∨QK f.kind)∧¬D2 f.name):=fun⟨h1,h2⟩=>by
     cases v6 with
     |true=>exact h2 ((hv6 h1).1 rfl)
     |false=>simp[h1]at e
    refine Evt.cond (fun e=>?_) (fun e=>?_)
    ·replace e:=bx e
     rw[KL e0 e1 e2 ⟨by simpa using e.1,e.2⟩,if_neg (by decide)]
     exact Evt.pure (Dq.bad (by decide) (by simp only[hw2]))
    have e3:¬(¬(f.kind=2∨QK f.kind)∧f.name≠ []):=fun⟨h1,h2⟩=>by simp[h1,h2]at e
    have Oh:=KM e0 e1 e2 e3
    refine Evt.C2 (Evt.scan (fun k _=>∀j,j<k→D2 (Am.get f.words j)) (fun k r=>r.1=⟨10,b⟩∧∃w∈f.words,¬D2 w) (fun j hj=>absurd hj (Nat.not_lt_zero _)) (fun k u hk hi=>?_)) (fun t ht=>?_) (fun r hr=>?_)
    ·unfold dh
     refine Evt.bind (dM _) fun v hv=>Evt.cond (fun e=>?_) (fun e=>Evt.pure ?_)
     ·replace e:=bx e
      exact Evt.pure ⟨rfl,_,get_mem hk,fun h=>by rw[(eR hv).2 h]at e;cases e⟩
     ·replace e:=bx e
      intro j hj
      by_cases ej:j=k
      ·subst ej;exact(eR hv).1 e
      ·exact hi j (by omega)
    ·have hall:=Fo ht
     rw[Oh,if_neg hall,if_pos rfl]
     unfold dj
     rw[hw2]
     have hsl:f.subs.length≤2:=by
      have:=Jr f.kind
      have:(f.subs.length:Int)=arF f.kind:=Classical.byContradiction fun h=>e1 (.inl h)
      omega
     refine Evt.C2 (Evt.range (fun k c=>lO (f.subs.drop k) (d+1) c=lO f.subs (d+1) (b+1)∧b+1≤c∧c≤200) (fun _=>False) (fun r=>Dq (lO f.subs (d+1) (b+1)) b r) ⟨rfl,by omega,by omega⟩ (fun k c hk hj=>?_)) (fun t ht=>Evt.pure ?_) (fun r hr=>hr)
     ·obtain⟨h1,h2,h3⟩:=hj
      unfold dn
      have hsz:=J6 hk
      rw[hw1]
      rw[Bc hk,lO]at h1
      refine Evt.bind (ih _ (by omega) _ _ (by omega) (by omega) (by omega) h3) fun v hv=>Evt.cond (fun e=>Evt.pure ?_) (fun e=>Evt.pure ?_)
      ·replace e:=bx e
       rw[hv.1]at e
       rw[if_neg e]at h1
       rw[←h1]
       exact⟨hv.1,fun h=>absurd h e,hv.2.2⟩
      ·replace e:=bx e
       rw[hv.1]at e
       rw[if_pos e]at h1
       obtain⟨hv1,hv2,hv3⟩:=hv.2.1 e
       rw[hv1]
       exact⟨h1,by show b+1≤(yM _ _ _).2;omega,hv3⟩
     ·obtain⟨h1,h2,h3⟩:=ht.elim id False.elim
      rw[List.drop_length,lO]at h1
      unfold dr at*
      rw[←h1]
      exact⟨rfl,fun _=>⟨rfl,by show b≤t;omega,h3⟩,fun h=>absurd rfl h⟩
    ·obtain⟨k,_,_,_,h1,h2⟩:=hr
     rw[Oh,if_pos h2,if_neg (by decide)]
     exact Dq.bad (by decide) h1
   refine Evt.cond (fun e=>k1 _ ?_) (fun e=>Evt.cond (fun e2=>k1 _ ?_) (fun e2=>k1 _ ?_))
   ·replace e:=bx e
    unfold hJ;simp[e];omega
   ·replace e:=bx e;replace e2:=bx e2
    unfold hJ;simp[e2];omega
   ·replace e:=bx e;replace e2:=bx e2
    unfold hJ;simp[e,e2]
  refine Evt.cond (fun e=>?_) (fun e=>key)
  simp at e
noncomputable def oH(f:u5):B0:=if(yM f 1 0).1=0 then⟨0,0⟩else⟨(yM f 1 0).1,(yM f 1 0).2⟩
theorem nG(f:u5):(oH f).code=0↔OkF f:=by
 rw[←Bj]
 unfold oH
 split
 ·simp[*]
 ·simp[*]
theorem oI{f:u5}(h:OkF f):oH f=⟨0,0⟩:=by unfold oH;rw[if_pos ((Bj f).2 h)]
theorem bH(f:u5):Evt (fun n=>P2 n f) (fun r=>r=oH f):=by
 unfold P2 jt
 simp only[Option.bind_assoc,Option.bind_some]
 refine Evt.bind (Fp _ f (Nat.le_refl _) 1 0 (by omega) (by omega) (by omega) (by omega)) fun v hv=>Evt.pure ?_
 unfold oH
 split
 ·rename_i h;rw[(hv.2.1 h).1]
 ·rename_i h;exact hv.2.2 h
theorem Fq(f:u5):eD f=0→f.subs.length≤2:=fun h=>by
 have h1:=(W1 h).1
 have:=Jr f.kind
 omega
section
end
theorem F8{α:Type}[Inhabited α]{l:List α}{k:Nat}(h:k<l.length):l.take (k+1)=l.take k++[Am.get l k]:=by
 rw[List.take_add_one,List.getElem?_eq_getElem h]
 simp[Am.get,h]
theorem lP:∀(l:List u5) (x:u5),bT (l++[x])=bT l+ndF x
 | [],x=>by simp[bT]
 |a::l,x=>by rw[List.cons_append,bT,bT,lP l x];omega
theorem Bn:∀(l m:List u5),bT (l++m)=bT l+bT m
 | [],m=>by simp[bT]
 |a::l,m=>by rw[List.cons_append,bT,bT,Bn l m];omega
theorem gR{l:List u5}{k:Nat}(h:k<l.length):bT (l.take k)+ndF (Am.get l k)≤bT l:=by
 have e:l=(l.take k++[Am.get l k])++l.drop (k+1):=by
  rw[List.append_assoc,List.singleton_append, ←Bc h];exact(List.take_append_drop k l).symm
 have h2:bT l=bT (l.take k)+ndF (Am.get l k)+bT (l.drop (k+1)):=by
  conv=>lhs;rw[e]
  rw[Bn,lP]
 omega
theorem Bo{f:u5}(h:WfF f):f.words.length≤3:=by
 have h2:=(W1 ((Y6 f).1 h).1).2.1
 unfold hJ at h2
 split at h2
 ·exact h2
 ·split at h2<;>omega
theorem ng{f:u5}(h:WfF f){k:Nat}(hk:k<f.subs.length):WfF (Am.get f.subs k):=M6.1 ((Y6 f).1 h).2 _ (get_mem hk)
theorem zR{f:u5}(h:WfF f):f.subs.length≤2:=Fq f ((Y6 f).1 h).1
end Go.Proofs.YtanlbioodbnakaaGreatDoor
