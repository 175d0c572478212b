import Derived.Test.YtfacbpehlibilaaGreatDoorTVLaw4
set_option linter.unusedVariables false
set_option linter.unusedSimpArgs false
namespace Go.Proofs.YtfacbpehlibilaaGreatDoor
open Go Go.Am
section
variable (h:Bs→Bs)
mutual
theorem x3T:∀f:p6w,ArF f→ArF (prF h f)
 | .mk k n w s,hf=>by
   rw[ArF]at hf
   rw[prF,ArF,w3x,List.length_map, ←w3x]
   exact⟨hf.1,hf.2.1,hf.2.2.1,x1u s hf.2.2.2⟩
theorem x1u:∀l:List p6w,u6a l→u6a (w2t h l)
 | [],_=>by rw[w2t,u6a];trivial
 |f::l,hf=>by
  rw[u6a]at hf
  rw[w2t,u6a]
  exact⟨x3T f hf.1,x1u l hf.2⟩
end
end
section
variable {rs:List r4V}
theorem x1v:∀(l:List p6w) (c:Nat),(RPL rs l c).length=l.length
 | [],c=>by rw[RPL]
 |f::l,c=>by rw[RPL,List.length_cons,List.length_cons,x1v l]
mutual
theorem y0B(hr:∀r∈rs,w3z r):∀(f:p6w) (c:Nat),ArF f→ArF (RP rs f c)
 | .mk k n w s,c,hf=>by
   rw[RP]
   cases hm:w5j rs (.mk k n w s)with
   |some p=>exact ArF.ren _ _ _ _ (x3T _ _ (WfF.ar _ (hr _ (u9O hm).1).to.1))
   |none=>
    rw[ArF]at hf
    show ArF (.mk k n w (RPL rs s c))
    rw[ArF,x1v]
    exact⟨hf.1,hf.2.1,hf.2.2.1,x3U hr s c hf.2.2.2⟩
theorem x3U(hr:∀r∈rs,w3z r):∀(l:List p6w) (c:Nat),u6a l→u6a (RPL rs l c)
 | [],c,_=>by rw[RPL,u6a];trivial
 |f::l,c,hf=>by
  rw[u6a]at hf
  rw[RPL,u6a]
  exact⟨y0B hr f c hf.1,x3U hr l _ hf.2⟩
end
end
structure AlF(a b:p6w):Prop where
 free:fre a []=fre b []
 x3g:nq a=nq b
 same:∀(M:Nat→Bs) (j:Nat),ren M a [] j=ren M b [] j
theorem AlF.symm{a b:p6w}(h:AlF a b):AlF b a:=⟨h.free.symm,h.x3g.symm,fun M j=>(h.same M j).symm⟩
theorem AlF.trans{a b c:p6w}(h:AlF a b)(h':AlF b c):AlF a c:=⟨h.free.trans h'.free,h.x3g.trans h'.x3g,fun M j=>(h.same M j).trans (h'.same M j)⟩
theorem AlF.cf{a b:p6w}(h:AlF a b):cf a=cf b:=by
 show ren (NN (fre a [])) a [] 0=ren (NN (fre b [])) b [] 0
 rw[h.free,h.same]
theorem AlF.phi{σ:Nat→Nat}(hσ:∀i j,σ i=σ j→i=j){z:p6w}(hz:∀x,fre z [] x→r5Q x):AlF (u5W (phi σ) z) z where
 free:=w6p (x1s hσ) fun x hx=>w7R σ (hz x hx)
 x3g:=w6o _ z
 same:=fun M j=>w7C (x1s hσ) M z [] j fun x hx=>w7R σ (hz x hx)
structure y2A(r:r4V):Prop where
 good:w4P r.from_
 to:OkF r.to_
 root:¬r7r r.from_ r.from_.form
theorem w4P.x5w{s:r5b}(h:w4P s):s.parts.Nodup:=by
 have hn:(vns s).Nodup:=by
  rw[List.nodup_iff_pairwise_ne]
  rw[List.pairwise_iff_getElem]
  intro i j hi hj hij e
  refine h.uniq i j hij hj ?_
  simp only[Am.get,List.getD_eq_getElem?_getD,List.getElem?_eq_getElem hi,List.getElem?_eq_getElem hj,e]
 unfold vns at hn
 exact(List.nodup_append.1 hn).2.1
def x3V(m:List (Bs×List Bs)):Prop:=∀x l,assoc x m=some l→l.length≤100000
theorem x5x(p:Bs→Bool)(l:List Bs):(flt p l).length≤l.length:=List.length_filter_le _ _
mutual
def u5L(R:List IT):p6w→List Bs→Nat→Prop
 | .mk k n w s,bd,p=>p<R.length∧Am.get R p=⟨k,n,w,w.map (fun x=>decide (x∈bd)),((p+ndF (.mk k n w s):Nat):Int)⟩∧u0b R s (if QK k then n::bd else bd) (p+1)
def u0b(R:List IT):List p6w→List Bs→Nat→Prop
 | [],_,_=>True
 |f::l,bd,p=>u5L R f bd p∧u0b R l bd (p+ndF f)
end
theorem w7S(R:List IT)(f:p6w)(bd:List Bs)(p:Nat):u5L R f bd p↔p<R.length∧Am.get R p=⟨f.kind,f.name,f.words,f.words.map (fun x=>decide (x∈bd)),((p+ndF f:Nat):Int)⟩∧u0b R f.subs (if QK f.kind then f.name::bd else bd) (p+1):=by cases f;rw[u5L];rfl
theorem w6s{α:Type}[Inhabited α](X:List α)(y:α)(Y:List α):Am.get (X++y::Y) X.length=y:=by unfold Am.get;simp
mutual
theorem w7T:∀(f:p6w) (ar:List Bs) (X Y:List IT),u5L (X++(u0L f ar X.length++Y)) f ar X.length
 | .mk k n w s,ar,X,Y=>by
   rw[u5L]
   have e:u0L (.mk k n w s) ar X.length=⟨k,n,w,w.map (fun x=>decide (x∈ar)),((X.length+ndF (.mk k n w s):Nat):Int)⟩::u0M s (if QK k then n::ar else ar) (X.length+1):=w6e _ _ _
   refine⟨by rw[e];simp,by rw[e];exact w6s _ _ _,?_⟩
   rw[e]
   have:=w4Y s (if QK k then n::ar else ar) (X++[⟨k,n,w,w.map (fun x=>decide (x∈ar)),((X.length+ndF (.mk k n w s):Nat):Int)⟩]) Y
   rw[List.length_append,List.length_singleton,List.append_assoc]at this
   exact this
theorem w4Y:∀(l:List p6w) (ar:List Bs) (X Y:List IT),u0b (X++(u0M l ar X.length++Y)) l ar X.length
 | [],ar,X,Y=>by rw[u0b];trivial
 |f::l,ar,X,Y=>by
  rw[u0b,u0M,List.append_assoc]
  refine⟨w7T f ar X _,?_⟩
  have:=w4Y l ar (X++u0L f ar X.length) Y
  rw[List.length_append,u1c,List.append_assoc]at this
  exact this
end
theorem w4o(f:p6w)(ar:List Bs):u5L (u0L f ar 0) f ar 0:=by
 have:=w7T f ar [] []
 rw[List.nil_append,List.append_nil]at this
 exact this
mutual
theorem u5L.le{R:List IT}:∀ {f:p6w} {bd:List Bs} {p:Nat},u5L R f bd p→p+ndF f≤R.length
 | .mk k n w s,bd,p,h=>by
   rw[u5L]at h
   rw[ndF]
   cases s with
   |nil=>rw[r9s];omega
   |cons x l=>
    have:=u0b.le h.2.2 (by simp)
    omega
theorem u0b.le{R:List IT}:∀ {l:List p6w} {bd:List Bs} {p:Nat},u0b R l bd p→l≠ []→p+r9s l≤R.length
 | [],bd,p,h,hn=>absurd rfl hn
 |f::l,bd,p,h,_=>by
  rw[u0b]at h
  rw[r9s]
  cases l with
  |nil=>rw[r9s];have:=u5L.le h.1;omega
  |cons x l=>
   have:=u0b.le h.2 (by simp)
   omega
end
theorem u0b.get{R:List IT}:∀ {l:List p6w} {bd:List Bs} {p:Nat},u0b R l bd p→∀k,k<l.length→u5L R (Am.get l k) bd (p+r9s (l.take k))
 | [],_,_,_,k,hk=>by simp at hk
 |f::l,bd,p,h,0,_=>by
  rw[u0b]at h
  simpa[r9s,Am.get]using h.1
 |f::l,bd,p,h,k+1,hk=>by
  rw[u0b]at h
  have:=u0b.get h.2 k (by simpa using hk)
  rw[List.take_succ_cons,r9s, ←Nat.add_assoc]
  exact this
mutual
theorem u5L.node{R:List IT}:∀ {f:p6w} {bd:List Bs} {p:Nat},u5L R f bd p→∀j,j<ndF f→∃ar,u5L R (Am.get (r5D f) j) ar (p+j)
 | .mk k n w s,bd,p,h,0,_=>⟨bd,by rw[r5D];exact h⟩
 | .mk k n w s,bd,p,h,j+1,hj=>by
   rw[u5L]at h
   rw[ndF]at hj
   obtain⟨ar,ha⟩:=u0b.node h.2.2 j (by omega)
   refine⟨ar,?_⟩
   rw[r5D,show p+(j+1)=p+1+j by omega]
   exact ha
theorem u0b.node{R:List IT}:∀ {l:List p6w} {bd:List Bs} {p:Nat},u0b R l bd p→∀j,j<r9s l→∃ar,u5L R (Am.get (r7U l) j) ar (p+j)
 | [],bd,p,h,j,hj=>by rw[r9s]at hj;omega
 |f::l,bd,p,h,j,hj=>by
  rw[u0b]at h
  rw[r9s]at hj
  rw[r7U]
  by_cases e:j<ndF f
  ·have e1:Am.get (r5D f++r7U l) j=Am.get (r5D f) j:=by
    unfold Am.get
    rw[List.getD_eq_getElem?_getD,List.getD_eq_getElem?_getD,List.getElem?_append_left (by rw[u0s];exact e)]
   rw[e1];exact u5L.node h.1 j e
  ·have e1:Am.get (r5D f++r7U l) j=Am.get (r7U l) (j-ndF f):=by
    unfold Am.get
    rw[List.getD_eq_getElem?_getD,List.getD_eq_getElem?_getD,List.getElem?_append_right (by rw[u0s];omega),u0s]
   obtain⟨ar,ha⟩:=u0b.node h.2 (j-ndF f) (by omega)
   refine⟨ar,?_⟩
   rw[e1,show p+j=p+ndF f+(j-ndF f)by omega]
   exact ha
end
mutual
def u5X:p6w→List Bs→List (p6w×List Bs)
 | .mk k n w s,A=>(.mk k n w s,A)::u0u s (if QK k then A++[n]else A)
def u0u:List p6w→List Bs→List (p6w×List Bs)
 | [],_=>[]
 |f::l,A=>u5X f A++u0u l A
end
theorem w6t(f:p6w)(A:List Bs):u5X f A=(f,A)::u0u f.subs (if QK f.kind then A++[f.name]else A):=by cases f;rw[u5X];rfl
theorem u6O:∀(l:List p6w) (x:p6w) (A:List Bs),u0u (l++[x]) A=u0u l A++u5X x A
 | [],x,A=>by rw[List.nil_append,u0u,u0u,u0u,List.append_nil];rfl
 |f::l,x,A=>by rw[List.cons_append,u0u,u0u,u6O l,List.append_assoc]
mutual
theorem u3P:∀(f:p6w) (A:List Bs),(u5X f A).length=ndF f
 | .mk k n w s,A=>by rw[u5X,ndF,List.length_cons,w4Z s];omega
theorem w4Z:∀(l:List p6w) (A:List Bs),(u0u l A).length=r9s l
 | [],A=>by rw[u0u,r9s];rfl
 |f::l,A=>by rw[u0u,r9s,List.length_append,u3P f,w4Z l]
end
mutual
theorem w3B:∀(f:p6w) (A:List Bs),(u5X f A).map (·.1)=r5D f
 | .mk k n w s,A=>by rw[u5X,r5D,List.map_cons,w5a s]
theorem w5a:∀(l:List p6w) (A:List Bs),(u0u l A).map (·.1)=r7U l
 | [],A=>by rw[u0u,r7U];rfl
 |f::l,A=>by rw[u0u,r7U,List.map_append,w3B f,w5a l]
end
mutual
theorem x1w:∀(f:p6w) (A:List Bs),∀x∈u5X f A,∀y∈x.2,y∈A∨y∈qs f
 | .mk k n w s,A,x,hx,y,hy=>by
   rw[u5X]at hx
   have hq:=x2M (.mk k n w s)
   rcases List.mem_cons.1 hx with rfl|hx
   ·exact .inl hy
   ·have h:=w7U s _ x hx y hy
    rw[hq]
    show y∈A∨y∈(if QK k then [n]else [])++qsL s
    by_cases hk:QK k
    ·rw[if_pos hk]at h⊢
     rcases h with h|h
     ·rcases List.mem_append.1 h with h|h
      ·exact .inl h
      ·rw[List.mem_singleton.1 h]
       exact .inr (List.mem_cons_self ..)
     ·exact .inr (List.mem_cons_of_mem _ h)
    ·rw[if_neg hk]at h⊢
     exact h
theorem w7U:∀(l:List p6w) (A:List Bs),∀x∈u0u l A,∀y∈x.2,y∈A∨y∈qsL l
 | [],A,x,hx,y,hy=>by rw[u0u]at hx;cases hx
 |f::l,A,x,hx,y,hy=>by
  rw[u0u]at hx
  rw[qsL]
  rcases List.mem_append.1 hx with hx|hx
  ·exact(x1w f A x hx y hy).imp id (List.mem_append_left _)
  ·exact(w7U l A x hx y hy).imp id (List.mem_append_right _)
end
mutual
theorem w1e{R:List IT}:∀ {f:p6w} {bd:List Bs} {p:Nat},u5L R f bd p→∀i,p+ndF f≤i→r5N R i (p+ndF f)=r5N R i p
 | .mk k n w s,bd,p,h,i,hi=>by
   obtain⟨h1,h2,h3⟩:=(w7S R _ bd p).1 h
   have h3:u0b R s (if QK k then n::bd else bd) (p+1):=h3
   have hr:=u9h h3 i (by rw[ndF]at hi;omega)
   rw[ndF, ←Nat.add_assoc,hr,r5N]
   have hc:u5M R i p=false:=by
    unfold u5M
    rw[h2]
    show(bif decide ((i:Int)<((p+ndF (.mk k n w s):Nat):Int))then _ else false)=false
    rw[decide_eq_false (by omega)]
    rfl
   rw[hc,cond_false]
theorem u9h{R:List IT}:∀ {l:List p6w} {bd:List Bs} {p:Nat},u0b R l bd p→∀i,p+r9s l≤i→r5N R i (p+r9s l)=r5N R i p
 | [],bd,p,_,i,_=>by rw[r9s];rfl
 |f::l,bd,p,h,i,hi=>by
  rw[u0b]at h
  rw[r9s]at hi⊢
  rw[←Nat.add_assoc,u9h h.2 i (by omega),w1e h.1 i (by omega)]
end
mutual
theorem w5b{R:List IT}:∀ {f:p6w} {bd:List Bs} {p:Nat},u5L R f bd p→∀(A:List Bs) (j:Nat),j<ndF f→r5N R (p+j) p=A→r5N R (p+j) (p+j)=(Am.get (u5X f A) j).2
 | .mk k n w s,bd,p,h,A,j,hj,hA=>by
   obtain⟨h1,h2,h3⟩:=(w7S R _ bd p).1 h
   rw[u5X]
   cases j with
   |zero=>exact hA
   |succ j=>
    rw[ndF]at hj
    show _=(Am.get (u0u s _) j).2
    rw[show p+(j+1)=p+1+j by omega]at hA⊢
    refine w2u (l:=s) h3 _ j (by omega) ?_
    rw[r5N,hA]
    have hc:u5M R (p+1+j) p=decide (QK k):=by
     unfold u5M
     rw[h2]
     show(bif decide (((p+1+j:Nat):Int)<((p+ndF (.mk k n w s):Nat):Int))then(bif decide (k=8)then true else decide (k=9))else false)=decide (QK k)
     rw[decide_eq_true (by rw[ndF];omega),cond_true]
     unfold QK
     by_cases e1:k=8<;>by_cases e2:k=9<;>simp[e1,e2]
    rw[hc,h2]
    by_cases hk:QK k
    ·rw[decide_eq_true hk,cond_true,if_pos hk];rfl
    ·rw[decide_eq_false hk,cond_false,if_neg hk]
theorem w2u{R:List IT}:∀ {l:List p6w} {bd:List Bs} {p:Nat},u0b R l bd p→∀(A:List Bs) (j:Nat),j<r9s l→r5N R (p+j) p=A→r5N R (p+j) (p+j)=(Am.get (u0u l A) j).2
 | [],bd,p,_,A,j,hj,_=>by rw[r9s]at hj;omega
 |f::l,bd,p,h,A,j,hj,hA=>by
  rw[u0b]at h
  rw[r9s]at hj
  rw[u0u]
  by_cases hjf:j<ndF f
  ·rw[w5b h.1 A j hjf hA]
   unfold Am.get
   rw[List.getD_eq_getElem?_getD,List.getD_eq_getElem?_getD,List.getElem?_append_left (by rw[u3P];exact hjf)]
  ·have e:p+j=p+ndF f+(j-ndF f):=by omega
   have hsk:=w1e h.1 (p+j) (by omega)
   rw[hA]at hsk
   rw[e]at hsk⊢
   rw[w2u h.2 A (j-ndF f) (by omega) hsk]
   unfold Am.get
   rw[List.getD_eq_getElem?_getD,List.getD_eq_getElem?_getD,List.getElem?_append_right (by rw[u3P];omega),u3P]
end
theorem u8K(l:List IT)(i:Nat):∀k,(r5N l i k).length≤k
 |0=>Nat.le_refl _
 |k+1=>by
  have:=u8K l i k
  rw[r5N]
  cases u5M l i k
  ·rw[cond_false];omega
  ·rw[cond_true,List.length_append]
   show _+1≤_
   omega
theorem w2v(f:p6w)(j:Nat)(hj:j<ndF f):r5N (u0L f [] 0) j j=(Am.get (u5X f []) j).2:=by
 have h:=w5b (w4o f []) [] j hj (by rfl)
 rw[Nat.zero_add]at h
 exact h
def w8O(s:r5b)(v:Bs)(x:p6w×List Bs):Prop:=r7r s x.1∧x.1.name=v
def Cr(s:r5b)(L:List (p6w×List Bs))(m m':List (Bs×List Bs)):Prop:=
 ∀v,((∀x∈L,¬w8O s v x)→assoc v m'=assoc v m)∧((∃x∈L,w8O s v x)→∃l,assoc v m'=some l∧∀y,y∈l↔(∀l0,assoc v m=some l0→y∈l0)∧∀x∈L,w8O s v x→y∈x.2)
theorem Cr.nil(s m):Cr s [] m m:=fun v=>⟨fun _=>rfl,fun⟨x,hx,_⟩=>by cases hx⟩
theorem Cr.trans{s L L' m m1 m2}(h:Cr s L m m1)(k:Cr s L' m1 m2):Cr s (L++L') m m2:=fun v=>by
 obtain⟨h0,h1⟩:=h v
 obtain⟨k0,k1⟩:=k v
 refine⟨fun hn=>?_,fun _=>?_⟩
 ·rw[k0 fun x hx=>hn x (List.mem_append_right _ hx),h0 fun x hx=>hn x (List.mem_append_left _ hx)]
 ·rename_i hex
  by_cases hk:∃x∈L',w8O s v x
  ·obtain⟨l,hl,hy⟩:=k1 hk
   refine⟨l,hl,fun y=>?_⟩
   rw[hy]
   by_cases hh:∃x∈L,w8O s v x
   ·obtain⟨l1,hl1,hy1⟩:=h1 hh
    constructor
    ·rintro⟨a,b⟩
     obtain⟨a1,a2⟩:=(hy1 y).1 (a l1 hl1)
     exact⟨a1,fun x hx hp=>(List.mem_append.1 hx).elim (fun hx=>a2 x hx hp) fun hx=>b x hx hp⟩
    ·rintro⟨a,b⟩
     refine⟨fun l0 e=>?_,fun x hx hp=>b x (List.mem_append_right _ hx) hp⟩
     rw[hl1]at e
     cases e
     exact(hy1 y).2 ⟨a,fun x hx hp=>b x (List.mem_append_left _ hx) hp⟩
   ·have hn:∀x∈L,¬w8O s v x:=fun x hx hp=>hh ⟨x,hx,hp⟩
    rw[h0 hn]
    constructor
    ·rintro⟨a,b⟩
     exact⟨a,fun x hx hp=>(List.mem_append.1 hx).elim (fun hx=>absurd hp (hn x hx)) fun hx=>b x hx hp⟩
    ·rintro⟨a,b⟩
     exact⟨a,fun x hx hp=>b x (List.mem_append_right _ hx) hp⟩
  ·have hn:∀x∈L',¬w8O s v x:=fun x hx hp=>hk ⟨x,hx,hp⟩
   have hh:∃x∈L,w8O s v x:=by
    obtain⟨x,hx,hp⟩:=hex
    rcases List.mem_append.1 hx with hx|hx
    ·exact⟨x,hx,hp⟩
    ·exact absurd hp (hn x hx)
   obtain⟨l1,hl1,hy1⟩:=h1 hh
   refine⟨l1,by rw[k0 hn,hl1],fun y=>?_⟩
   rw[hy1]
   constructor
   ·rintro⟨a,b⟩
    exact⟨a,fun x hx hp=>(List.mem_append.1 hx).elim (fun hx=>b x hx hp) fun hx=>absurd hp (hn x hx)⟩
   ·rintro⟨a,b⟩
    exact⟨a,fun x hx hp=>b x (List.mem_append_left _ hx) hp⟩
theorem w6u(s:r5b):∀(b:Nat) (f:p6w),SizeOf.sizeOf f≤b→SmF f→∀(a1:List Bs) (m:List (Bs×List Bs)),a1.length+ndF f≤100000→x3V m→Evt (fun n=>r6e n f a1 s m) (fun m'=>x3V m'∧Cr s (u5X f a1) m m'):=by
 intro b
 induction b with
 |zero=>intro f h;cases f;simp only[p6w.mk.sizeOf_spec]at h;omega
 |succ b ih=>
  intro f hf hsm a1 m ha hm
  have hnd:=w0O f
  have hj1:∀(m1:List (Bs×List Bs)) (c:List Bs),x3V m1→c.length+r9s f.subs≤100000→Evt (fun n=>w2w (fun f a m=>r6e n f a s m) f m1 c) (fun m'=>x3V m'∧Cr s (u0u f.subs c) m1 m'):=fun m1 c h1 h2=>by
   unfold w2w
   refine Evt.r5r (P:=ExP (fun m'=>x3V m'∧Cr s (u0u f.subs c) m1 m') (fun _=>False)) ((Evt.range (fun k t=>x3V t∧Cr s (u0u (f.subs.take k) c) m1 t) (fun _=>False) (fun _=>False) ⟨h1,by rw[List.take_zero,u0u];exact Cr.nil s m1⟩ (fun k t hk ht=>?_)).mono fun e he=>?_) (fun t ht=>Evt.pure ht) (fun _ h=>h.elim)
   ·have hsz:=u0r hk
    have htk:=u5o hk
    unfold w5c
    refine Evt.bind (ih _ (by omega) (x3P hsm hk) c t (by omega) ht.1) fun v hv=>Evt.pure ⟨hv.1,?_⟩
    rw[r8p hk,u6O]
    exact ht.2.trans hv.2
   ·cases e with
    |ret r=>exact he
    |nxt t=>
     have h:=he.elim id False.elim
     rw[List.take_length]at h
     exact h
  have hj0:∀m1,x3V m1→Cr s [(f,a1)] m m1→Evt (fun n=>w1f (fun f a m=>r6e n f a s m) f a1 m1) (fun m'=>x3V m'∧Cr s (u5X f a1) m m'):=fun m1 h1 hc=>by
   have e:u5X f a1=[(f,a1)]++u0u f.subs (if QK f.kind then a1++[f.name]else a1):=w6t f a1
   unfold w1f
   simp only[u5H,Option.bind_some,r5E,List.isEmpty_nil,cond_true]
   refine Evt.cond (fun hq=>Evt.r9F (Evt.chk ?_ ((hj1 _ _ h1 ?_).mono fun m' h=>⟨h.1,?_⟩))) (fun hq=>(hj1 _ _ h1 (by omega)).mono fun m' h=>⟨h.1,?_⟩)
   ·rw[u4e];simp only[List.length_append,List.length_cons,List.length_nil];omega
   ·simp only[List.length_append,List.length_cons,List.length_nil];omega
   ·rw[e,if_pos (of_decide_eq_true hq)]
    exact hc.trans h.2
   ·rw[e,if_neg (of_decide_eq_false hq)]
    exact hc.trans h.2
  refine Evt.succ ?_
  simp only[r6e]
  rw[w0V]
  simp only[Option.bind_some]
  refine Evt.cond (fun e=>?_) (fun e=>hj0 m hm fun v=>⟨fun _=>rfl,fun⟨x,hx,hp⟩=>?_⟩)
  ·have hp:r7r s f:=of_decide_eq_true e
   have hl:((assoc f.name m).getD a1).length≤100000:=by
    cases h:assoc f.name m with
    |none=>rw[Option.getD_none];omega
    |some l=>exact hm _ _ h
   refine Evt.chk ⟨hp.2,by omega⟩ (hj0 _ (fun x l hx=>?_) fun v=>⟨fun hn=>?_,fun⟨x,hx,hpx⟩=>?_⟩)
   ·by_cases ex:x=f.name
    ·rw[ex,u3V]at hx
     cases hx
     have:=x5x (w1O a1) ((assoc f.name m).getD a1)
     omega
    ·rw[u6N ex]at hx
     exact hm _ _ hx
   ·have hne:v≠f.name:=fun e=>hn (f,a1) (List.mem_singleton.2 rfl) ⟨hp,e.symm⟩
    exact u6N hne _ _
   ·rw[List.mem_singleton]at hx
    subst hx
    obtain⟨_,rfl⟩:=hpx
    refine⟨_,u3V _ _ _,fun y=>?_⟩
    have hy:y∈flt (w1O a1) ((assoc f.name m).getD a1)↔y∈(assoc f.name m).getD a1∧y∈a1:=by
     unfold flt w1O
     rw[List.mem_filter]
     simp
    show y∈flt (w1O a1) ((assoc f.name m).getD a1)↔_
    rw[hy]
    cases h:assoc f.name m with
    |none=>
     constructor
     ·rintro⟨_,h2⟩
      exact⟨fun l0 e=>(by cases e),fun x hx _=>by rw[List.mem_singleton.1 hx];exact h2⟩
     ·rintro⟨_,h2⟩
      have:=h2 (f,a1) (List.mem_singleton.2 rfl) ⟨hp,rfl⟩
      exact⟨this,this⟩
    |some l=>
     constructor
     ·rintro⟨h1,h2⟩
      exact⟨fun l0 e=>(by cases e;exact h1),fun x hx _=>by rw[List.mem_singleton.1 hx];exact h2⟩
     ·rintro⟨h1,h2⟩
      exact⟨h1 l rfl,h2 (f,a1) (List.mem_singleton.2 rfl) ⟨hp,rfl⟩⟩
  ·rw[List.mem_singleton]at hx
   subst hx
   exact absurd hp.1 (of_decide_eq_false e)
theorem w8G{s:r5b}(h:w4P s):Evt (fun n=>u1A n s) (fun m=>Cr s (u5X s.form []) [] m):=by
 have:=h.form.2.1
 unfold u1A
 exact Evt.chk h.x5w ((w6u s _ s.form (Nat.le_refl _) (WfF.sm _ h.form.1) [] [] (by simp;omega) (fun x l hx=>by cases hx)).mono fun m hm=>hm.2)
def Bad(s:r5b)(need:List (Bs×List Bs))(vars:List Bs)(x:p6w×List Bs):Prop:=
 (r7r s x.1∧∃y∈(assoc x.1.name need).getD [],y∉x.2)∨∃w∈x.1.words,w∈vars∧w∉x.2
theorem w5d(r:r4V)(need:List (Bs×List Bs))(vars:List Bs):∀(m:Nat) (f:p6w),SizeOf.sizeOf f≤m→SmF f→∀bd:List Bs,bd.length+ndF f≤100000→Evt (fun n=>r5K n f bd r.from_.form.kind r.from_.form.name r.from_.form.words r.from_.form.subs r.from_.words r.from_.r5o r.from_.parts r.to_.kind r.to_.name r.to_.words r.to_.subs need vars) (fun b=>b=true↔ ∃x∈u5X f bd,Bad r.from_ need vars x):=by
 intro m
 induction m with
 |zero=>intro f h;cases f;simp only[p6w.mk.sizeOf_spec]at h;omega
 |succ m ih=>
  intro f hf hsm bd hbd
  have hnd:=w0O f
  have hj0:(¬(r7r r.from_ f∧∃y∈(assoc f.name need).getD [],y∉bd))→Evt (fun n=>r7R (r5K n) vars f bd r.from_.form.kind r.from_.form.name r.from_.form.words r.from_.form.subs r.from_.words r.from_.r5o r.from_.parts r.to_.kind r.to_.name r.to_.words r.to_.subs need ()) (fun b=>b=true↔ ∃x∈u5X f bd,Bad r.from_ need vars x):=fun hnp=>by
   have hes:∀P:p6w×List Bs→Prop,(∃x∈u5X f bd,P x)↔P (f,bd)∨∃x∈u0u f.subs (if QK f.kind then bd++[f.name]else bd),P x:=fun P=>by
    rw[w6t]
    simp
   unfold r7R
   refine Evt.r5r (Evt.scan (fun k _=>∀j,j<k→¬(Am.get f.words j∈vars∧Am.get f.words j∉bd)) (fun k b=>b=true∧(Am.get f.words k∈vars∧Am.get f.words k∉bd)) (fun j hj=>absurd hj (Nat.not_lt_zero _)) (fun k s hk hi=>?_)) (fun t ht=>?_) (fun b hb=>?_)
   ·unfold u0f
    rw[r7E,r7E]
    simp only[Option.bind_some]
    by_cases h1:Am.get f.words k∈vars
    ·rw[decide_eq_true h1]
     refine Evt.bind (P:=fun v=>v=decide (Am.get f.words k∈bd)) (Evt.gd (fun _=>Evt.pure rfl) (fun e=>by cases e)) fun v hv=>?_
     subst hv
     refine Evt.cond (fun e=>Evt.pure ⟨rfl,h1,?_⟩) (fun e=>Evt.pure fun j hj=>?_)
     ·simpa using e
     ·by_cases ej:j=k
      ·subst ej
       exact fun h=>h.2 (by simpa using e)
      ·exact hi j (by omega)
    ·rw[decide_eq_false h1]
     refine Evt.bind (P:=fun _=>True) (Evt.gd (fun e=>by cases e) (fun _=>trivial)) fun v hv=>Evt.cond (fun e=>by cases e) (fun e=>Evt.pure fun j hj=>?_)
     by_cases ej:j=k
     ·subst ej
      exact fun h=>h1 h.1
     ·exact hi j (by omega)
   ·have hnw:¬ ∃w∈f.words,w∈vars∧w∉bd:=fun⟨w,hw,h⟩=>by
     obtain⟨j,hj,rfl⟩:=r9P.1 hw
     exact ht j hj h
    have hnb:¬Bad r.from_ need vars (f,bd):=fun h=>h.elim hnp hnw
    have rest:∀bd':List Bs,bd'=(if QK f.kind then bd++[f.name]else bd)→Evt (fun n=>r7S (r5K n) f r.from_.form.kind r.from_.form.name r.from_.form.words r.from_.form.subs r.from_.words r.from_.r5o r.from_.parts r.to_.kind r.to_.name r.to_.words r.to_.subs need vars bd') (fun b=>b=true↔ ∃x∈u5X f bd,Bad r.from_ need vars x):=fun bd' hb=>by
     have hbl:bd'.length≤bd.length+1:=by rw[hb];split<;>simp
     unfold r7S r6w r7e
     refine Evt.bind (P:=fun b=>b=true↔ ∃x∈u0u f.subs bd',Bad r.from_ need vars x) (Evt.bind (P:=fun k:Int=>0≤k↔ ∃x∈u0u f.subs bd',Bad r.from_ need vars x) ?_ fun k hk=>Evt.pure (by rw[decide_eq_true_eq];exact hk)) fun v hv=>Evt.pure ?_
     ·refine Evt.r5r (Evt.scan (fun k _=>¬ ∃x∈u0u (f.subs.take k) bd',Bad r.from_ need vars x) (fun k z=>z=(k:Int)∧∃x∈u5X (Am.get f.subs k) bd',Bad r.from_ need vars x) (fun⟨x,hx,_⟩=>by rw[List.take_zero,u0u]at hx;cases hx) (fun k s hk hi=>?_)) (fun t ht=>?_) (fun z hz=>?_)
      ·have hsz:=u0r hk
       have htk:=u5o hk
       unfold r6x u1f
       refine Evt.bind (P:=fun b=>b=true↔ ∃x∈u5X (Am.get f.subs k) bd',Bad r.from_ need vars x) (Evt.bind (ih _ (by omega) (x3P hsm hk) bd' (by omega)) fun v hv=>Evt.pure hv) fun v hv=>Evt.cond (fun e=>Evt.pure ⟨rfl,hv.1 e⟩) (fun e=>Evt.pure ?_)
       rintro⟨x,hx,hbx⟩
       rw[r8p hk,u6O]at hx
       rcases List.mem_append.1 hx with hx|hx
       ·exact hi ⟨x,hx,hbx⟩
       ·have:=hv.2 ⟨x,hx,hbx⟩
        rw[e]at this
        cases this
      ·unfold r6y
       rw[List.take_length]at ht
       exact Evt.pure ⟨fun h=>by omega,fun h=>absurd h ht⟩
      ·obtain⟨k,_,hk,_,rfl,x,hx,hbx⟩:=hz
       refine⟨fun _=>⟨x,?_,hbx⟩,fun _=>by omega⟩
       have e:f.subs=f.subs.take (k+1)++f.subs.drop (k+1):=(List.take_append_drop _ _).symm
       have happ:∀(a b:List p6w) (A:List Bs),u0u (a++b) A=u0u a A++u0u b A:=fun a b A=>by
        induction a with
        |nil=>rw[List.nil_append,u0u,List.nil_append]
        |cons y a iha=>rw[List.cons_append,u0u,u0u,iha,List.append_assoc]
       rw[e,happ,r8p hk,u6O]
       exact List.mem_append_left _ (List.mem_append_right _ hx)
     ·rw[hes, ←hb]
      exact hv.trans ⟨.inr,fun h=>h.resolve_left hnb⟩
    unfold u0g
    simp only[u5H,Option.bind_some,r5E,List.isEmpty_nil,cond_true]
    refine Evt.cond (fun e=>Evt.r9F (Evt.chk ?_ (rest _ ?_))) (fun e=>rest _ ?_)
    ·rw[u4e];simp only[List.length_append,List.length_cons,List.length_nil];omega
    ·rw[if_pos (of_decide_eq_true e)]
    ·rw[if_neg (of_decide_eq_false e)]
   ·obtain⟨k,_,hk,_,rfl,hb⟩:=hb
    exact⟨fun _=>(hes _).2 (.inl (.inr ⟨_,get_mem hk,hb⟩)),fun _=>rfl⟩
  refine Evt.succ ?_
  simp only[r5K]
  show Evt (fun n=>(r7d r.from_ f).bind _) _
  rw[w0V]
  simp only[Option.bind_some]
  refine Evt.cond (fun e=>?_) (fun e=>hj0 fun h=>of_decide_eq_false e h.1)
  have hp:r7r r.from_ f:=of_decide_eq_true e
  refine Evt.r5r (Evt.scan (fun k _=>∀j,j<k→Am.get ((assoc f.name need).getD default) j∈bd) (fun k b=>b=true∧Am.get ((assoc f.name need).getD default) k∉bd) (fun j hj=>absurd hj (Nat.not_lt_zero _)) (fun k s hk hi=>?_)) (fun t ht=>?_) (fun b hb=>?_)
  ·unfold u0h
   rw[r7E]
   simp only[Option.bind_some]
   refine Evt.cond (fun e=>Evt.pure ⟨rfl,by simpa using e⟩) (fun e=>Evt.pure fun j hj=>?_)
   by_cases ej:j=k
   ·subst ej
    simpa using e
   ·exact hi j (by omega)
  ·unfold u0i
   refine hj0 fun⟨_,y,hy,hny⟩=>?_
   obtain⟨j,hj,rfl⟩:=r9P.1 hy
   exact hny (ht j hj)
  ·obtain⟨k,_,hk,_,rfl,hb⟩:=hb
   refine⟨fun _=>⟨(f,bd),by rw[w6t];exact List.mem_cons_self ..,.inl ⟨hp,_,get_mem hk,hb⟩⟩,fun _=>rfl⟩
mutual
theorem x1x:∀(f:p6w) (x:Bs),x∈qs f↔ ∃g∈r5D f,QK g.kind∧g.name=x
 | .mk k n w s,x=>by
   have hq:=x2M (.mk k n w s)
   have hq:qs (.mk k n w s)=(if QK k then [n]else [])++qsL s:=hq
   rw[hq,r5D,List.mem_append,x1y s]
   constructor
   ·rintro(h|⟨g,hg,h⟩)
    ·by_cases hk:QK k
     ·rw[if_pos hk,List.mem_singleton]at h
      exact⟨_,List.mem_cons_self ..,hk,h.symm⟩
     ·rw[if_neg hk]at h
      cases h
    ·exact⟨g,List.mem_cons_of_mem _ hg,h⟩
   ·rintro⟨g,hg,hk,h⟩
    rcases List.mem_cons.1 hg with rfl|hg
    ·have hk:QK k:=hk
     rw[if_pos hk]
     exact .inl (List.mem_singleton.2 h.symm)
    ·exact .inr ⟨g,hg,hk,h⟩
theorem x1y:∀(l:List p6w) (x:Bs),x∈qsL l↔ ∃g∈r7U l,QK g.kind∧g.name=x
 | [],x=>by rw[qsL,r7U];simp
 |f::l,x=>by
  rw[qsL,r7U,List.mem_append,x1x f,x1y l]
  constructor
  ·rintro(⟨g,hg,h⟩|⟨g,hg,h⟩)
   ·exact⟨g,List.mem_append_left _ hg,h⟩
   ·exact⟨g,List.mem_append_right _ hg,h⟩
  ·rintro⟨g,hg,h⟩
   rcases List.mem_append.1 hg with hg|hg
   ·exact .inl ⟨g,hg,h⟩
   ·exact .inr ⟨g,hg,h⟩
end
def x3h(r:r4V):Prop:=
 ∃x∈u5X r.to_ [],∃q∈qs r.from_.form,q∉x.2∧(q∈x.1.words∨(r7r r.from_ x.1∧∀z∈u5X r.from_.form [],w8O r.from_ x.1.name z→q∈z.2))
theorem w6v{r:r4V}(hg:w4P r.from_)(ht:OkF r.to_):Evt (fun n=>u0N n r) (fun b=>b=true↔x3h r):=by
 have hfn:=hg.form.2.1
 have htn:=ht.2.1
 unfold u0N
 refine Evt.bind (w8G hg) fun need y0C=>Evt.bind (w0S _ _ (Nat.le_refl _) (by omega)) fun vars x3i=>Evt.bind (w5d r need vars _ r.to_ (Nat.le_refl _) (WfF.sm _ ht.1) [] (by simp;omega)) fun b hb=>Evt.pure ?_
 subst x3i
 rw[hb]
 have key:∀x:p6w×List Bs,Bad r.from_ need (qs r.from_.form) x↔ ∃q∈qs r.from_.form,q∉x.2∧(q∈x.1.words∨(r7r r.from_ x.1∧∀z∈u5X r.from_.form [],w8O r.from_ x.1.name z→q∈z.2)):=fun x=>by
  obtain⟨n0,n1⟩:=y0C x.1.name
  constructor
  ·rintro(⟨hp,y,hy,hny⟩|⟨w,hw,hq,hn⟩)
   ·by_cases hh:∃z∈u5X r.from_.form [],w8O r.from_ x.1.name z
    ·obtain⟨l,hl,hly⟩:=n1 hh
     rw[hl]at hy
     obtain⟨_,h2⟩:=(hly y).1 hy
     obtain⟨z,hz,hhz⟩:=hh
     refine⟨y,?_,hny,.inr ⟨hp,h2⟩⟩
     rcases x1w _ _ z hz y (h2 z hz hhz)with h|h
     ·cases h
     ·exact h
    ·rw[n0 fun z hz h=>hh ⟨z,hz,h⟩]at hy
     cases hy
   ·exact⟨w,hq,hn,.inl hw⟩
  ·rintro⟨q,hq,hn,hw|⟨hp,h2⟩⟩
   ·exact .inr ⟨q,hw,hq,hn⟩
   ·obtain⟨_,g,hgf,h1,h3,h4⟩:=hg.parts _ hp.2
    rw[←w3B r.from_.form []]at hgf
    obtain⟨z,hz,rfl⟩:=List.mem_map.1 hgf
    have hhz:w8O r.from_ x.1.name z:=⟨⟨⟨h1,h4⟩,by rw[h3];exact hp.2⟩,h3⟩
    obtain⟨l,hl,hly⟩:=n1 ⟨z,hz,hhz⟩
    refine .inl ⟨hp,q,?_,hn⟩
    rw[hl]
    exact(hly q).2 ⟨fun l0 e=>(by cases e),h2⟩
 unfold x3h
 simp only[key]
theorem u8L(s:r5b)(hl:s.parts.length≤8000000){b:Nat}{f:p6w}{it:IT}(h:w8D b f it):Evt (fun n=>r6A n s it) (fun v=>v=decide (r7r s f)):=by
 obtain⟨h1,h2,h3,_⟩:=h
 unfold r6A
 by_cases hc:f.kind=2∧f.words.length=0
 ·have e:(bif (decide (it.kind=2))then(decide ((it.words.length:Int)=0))else false)=true:=by rw[h1,h3];simp[hc]
  rw[e]
  refine Evt.bind (P:=u9d s.parts f.name) (Evt.gd (fun _=>by rw[h2];exact u5q _ _ hl) (fun e=>by cases e)) fun v hv=>Evt.pure ?_
  rw[cond_true]
  exact decide_eq_decide.2 ⟨fun h=>⟨hc,hv.mem.1 h⟩,fun h=>hv.mem.2 h.2⟩
 ·have e:(bif (decide (it.kind=2))then(decide ((it.words.length:Int)=0))else false)=false:=by
   rw[h1,h3]
   by_cases k:f.kind=2
   ·have k2:¬(f.words.length:Int)=0:=fun e=>hc ⟨k,by omega⟩
    rw[decide_eq_true k,cond_true,decide_eq_false k2]
   ·rw[decide_eq_false k,cond_false]
  rw[e]
  refine Evt.bind (P:=fun _=>True) (Evt.gd (fun e=>by cases e) (fun _=>trivial)) fun v _=>Evt.pure ?_
  rw[cond_false]
  exact(decide_eq_false fun h=>hc h.1).symm
def u4N(r:r4V)(i k:Nat):Prop:=
 QK (Am.get (r5D r.from_.form) k).kind∧(Am.get (r5D r.from_.form) k).name∉ (Am.get (u5X r.to_ []) i).2∧
  ((Am.get (r5D r.from_.form) k).name∈(Am.get (r5D r.to_) i).words∨(r7r r.from_ (Am.get (r5D r.to_) i)∧∀j,j<ndF r.from_.form→r7r r.from_ (Am.get (r5D r.from_.form) j)→(Am.get (r5D r.from_.form) j).name=(Am.get (r5D r.to_) i).name→(Am.get (r5D r.from_.form) k).name∈(Am.get (u5X r.from_.form []) j).2))
theorem w1g(f:p6w)(j:Nat)(hj:j<ndF f):(Am.get (u5X f []) j).1=Am.get (r5D f) j:=by
 rw[←w3B f [],get_map (fun x:p6w×List Bs=>x.1) (by rw[u3P];exact hj)]
theorem w8H(r:r4V):(∃i k,i<ndF r.to_∧k<ndF r.from_.form∧u4N r i k)↔x3h r:=by
 constructor
 ·rintro⟨i,k,hi,hk,h1,h2,h3⟩
  refine⟨Am.get (u5X r.to_ []) i,get_mem (by rw[u3P];exact hi),_,(x1x _ _).2 ⟨_,get_mem (by rw[u0s];exact hk),h1,rfl⟩,h2,?_⟩
  rw[w1g _ _ hi]
  refine h3.imp id fun⟨hp,h⟩=>⟨hp,fun z hz hhz=>?_⟩
  obtain⟨j,hj,rfl⟩:=r9P.1 hz
  rw[u3P]at hj
  obtain⟨a,b⟩:=hhz
  rw[w1g _ _ hj]at a b
  exact h j hj a b
 ·rintro⟨x,hx,q,hq,h2,h3⟩
  obtain⟨i,hi,rfl⟩:=r9P.1 hx
  rw[u3P]at hi
  obtain⟨g,hg,hk,rfl⟩:=(x1x _ _).1 hq
  obtain⟨k,hkl,rfl⟩:=r9P.1 hg
  rw[u0s]at hkl
  rw[w1g _ _ hi]at h3
  refine⟨i,k,hi,hkl,hk,h2,h3.imp id fun⟨hp,h⟩=>⟨hp,fun j hj a b=>?_⟩⟩
  refine h _ (get_mem (by rw[u3P];exact hj)) ⟨?_,?_⟩
  ·rw[w1g _ _ hj];exact a
  ·rw[w1g _ _ hj];exact b
theorem w7V{α:Type}[Inhabited α](n:Nat)(f:Nat→α)(i:Nat)(h:i<n):Am.get (rf n f) i=f i:=by
 unfold rf
 rw[get_map f (by rw[List.length_range];exact h)]
 simp[Am.get,h]
theorem x1z{α:Type}(n:Nat)(f:Nat→α):(rf n f).length=n:=by unfold rf;simp
theorem w3C{r:r4V}(hg:w4P r.from_)(ht:OkF r.to_):Evt (fun n=>r7k n r) (fun b=>b=true↔x3h r):=by
 have hfn:=hg.form.2.1
 have htn:=ht.2.1
 have hvl:r.from_.parts.length≤8000000:=by
  have:=hg.len
  unfold vns at this
  simp only[List.length_append]at this
  omega
 have hF:∀j,j<ndF r.from_.form→w8D (0+j) (Am.get (r5D r.from_.form) j) (Am.get (u0L r.from_.form [] 0) j):=fun j hj=>u5p _ _ _ _ hj
 have hT:∀j,j<ndF r.to_→w8D (0+j) (Am.get (r5D r.to_) j) (Am.get (u0L r.to_ [] 0) j):=fun j hj=>u5p _ _ _ _ hj
 have hlF:(u0L r.from_.form [] 0).length=ndF r.from_.form:=u1c _ _ _
 have hlT:(u0L r.to_ [] 0).length=ndF r.to_:=u1c _ _ _
 have hwr:∀k:Nat,k≤200→wr .i64 ((k:Int)+1)=((k+1:Nat):Int):=fun k hk=>by rw[u0Y (by omega) (by omega)];rfl
 unfold r7k
 refine Evt.bind (u7U hg.form.1 [] (by omega) (by simp)) fun v1 e1=>Evt.bind (u7U ht.1 [] (by omega) (by simp)) fun v2 e2=>?_
 subst e1 e2
 have ha:∀f:p6w,ndF f≤200→r7l (u0L f [] 0)=some (rf (ndF f) fun i=>r5N (u0L f [] 0) i i):=fun f hf=>by
  unfold r7l
  rw[u1c,x4F ⟨by rw[u4e];omega,by omega⟩]
 rw[ha _ hfn,ha _ htn]
 simp only[Option.bind_some]
 obtain⟨AF,hAF⟩:∃x,x=rf (ndF r.from_.form) fun i=>r5N (u0L r.from_.form [] 0) i i:=⟨_,rfl⟩
 obtain⟨AT,hAT⟩:∃x,x=rf (ndF r.to_) fun i=>r5N (u0L r.to_ [] 0) i i:=⟨_,rfl⟩
 have hgF:∀j,j<ndF r.from_.form→Am.get AF j=(Am.get (u5X r.from_.form []) j).2:=fun j hj=>by rw[hAF,w7V _ _ _ hj];exact w2v _ _ hj
 have hgT:∀j,j<ndF r.to_→Am.get AT j=(Am.get (u5X r.to_ []) j).2:=fun j hj=>by rw[hAT,w7V _ _ _ hj];exact w2v _ _ hj
 have y4d:AF.length=ndF r.from_.form:=by rw[hAF,x1z]
 have y4e:AT.length=ndF r.to_:=by rw[hAT,x1z]
 rw[←hAF, ←hAT]
 refine(Evt.r5r (Q:=fun b=>b=true↔ ∃i k,i<ndF r.to_∧k<ndF r.from_.form∧u4N r i k) (Evt.u6u (ndF r.to_) (fun i s=>s=(i:Int)∧∀i' k,i'<i→k<ndF r.from_.form→¬u4N r i' k) (fun _=>∀i' k,i'<ndF r.to_→k<ndF r.from_.form→¬u4N r i' k) (fun b=>b=true∧∃i k,i<ndF r.to_∧k<ndF r.from_.form∧u4N r i k) ⟨rfl,fun i' k h=>absurd h (Nat.not_lt_zero _)⟩ (fun i s hi hs=>?_) (fun s hs=>?_)) (fun t ht=>?_) (fun b hb=>?_)).mono fun b hb=>hb.trans (w8H r)
 ·obtain⟨rfl,hs⟩:=hs
  obtain⟨t1,t2,t3,_⟩:=hT i hi
  have hTi:=hT i hi
  have y1s:(Am.get AT i).length≤8000000:=by
   rw[hAT,w7V _ _ _ hi]
   have:=u8K (u0L r.to_ [] 0) i i
   omega
  have hwl:(Am.get (r5D r.to_) i).words.length≤8000000:=by
   have:=x8k (WfF.sm _ (w3o _ ht.1 _ (get_mem (by rw[u0s];exact hi))))
   omega
  unfold r6B
  refine Evt.cond (fun _=>?_) (fun e=>by replace e:=bx e;omega)
  refine Evt.r5r (Evt.u6u (ndF r.from_.form) (fun k s=>s=(k:Int)∧∀k',k'<k→¬u4N r i k') (fun _=>∀k',k'<ndF r.from_.form→¬u4N r i k') (fun z=>z= .ret true∧∃k,k<ndF r.from_.form∧u4N r i k) ⟨rfl,fun k' h=>absurd h (Nat.not_lt_zero _)⟩ (fun k s hk hs2=>?_) (fun s hs2=>?_)) (fun t ht2=>?_) (fun z hz=>?_)
  ·obtain⟨rfl,hs2⟩:=hs2
   obtain⟨f1,f2,f3,_⟩:=hF k hk
   have hnx:¬u4N r i k→∀k',k'<k+1→¬u4N r i k':=fun h k' hk'=>by
    by_cases e:k'=k
    ·subst e;exact h
    ·exact hs2 k' (by omega)
   have x9n:¬u4N r i k→w4u (fun s:Int=>s=((k+1:Nat):Int)∧∀k',k'<k+1→¬u4N r i k') (fun _:Unit=>∀k',k'<ndF r.from_.form→¬u4N r i k') (fun z:Ctl Bool Int Unit=>z= .ret true∧∃k,k<ndF r.from_.form∧u4N r i k) (.nxt (wr .i64 ((k:Int)+1))):=fun h=>⟨hwr k (by omega),hnx h⟩
   unfold r6C
   simp only[Int.toNat_natCast,f1,f2,t3,hgT i hi]
   refine Evt.cond (fun _=>Evt.chk (by omega) (Evt.cond (fun e=>Evt.pure (x9n fun h=>?_)) (fun e=>?_))) (fun e=>by replace e:=bx e;omega)
   ·have hq:=h.1
    unfold QK at hq
    rcases hq with hq|hq<;>simp[hq]at e
   have hq:QK (Am.get (r5D r.from_.form) k).kind:=by
    unfold QK
    by_cases a:(Am.get (r5D r.from_.form) k).kind=8
    ·exact .inl a
    ·by_cases b:(Am.get (r5D r.from_.form) k).kind=9
     ·exact .inr b
     ·simp[a,b]at e
   rw[hgT i hi]at y1s
   refine Evt.chk (by omega) (Evt.bind (u5q _ _ y1s) fun v60 hv=>Evt.cond (fun e=>Evt.pure (x9n fun h=>h.2.1 (hv.mem.1 (bx e)))) (fun e=>?_))
   have hn:(Am.get (r5D r.from_.form) k).name∉ (Am.get (u5X r.to_ []) i).2:=fun h=>by
    have:=hv.mem.2 h
    replace e:=bx e
    omega
   refine Evt.chk (by omega) (Evt.bind (u5q _ _ hwl) fun v62 hv2=>Evt.cond (fun e=>Evt.pure ⟨rfl,k,hk,hq,hn,.inl (hv2.mem.1 (bx e))⟩) (fun e=>?_))
   have hnw:(Am.get (r5D r.from_.form) k).name∉ (Am.get (r5D r.to_) i).words:=fun h=>by
    have:=hv2.mem.2 h
    replace e:=bx e
    omega
   refine Evt.bind (u8L _ hvl hTi) fun v63 hv3=>?_
   subst hv3
   refine Evt.cond (fun e=>Evt.pure (x9n fun h=>?_)) (fun e=>?_)
   ·have e:¬r7r r.from_ (Am.get (r5D r.to_) i):=by simpa using e
    exact h.2.2.elim hnw fun h=>e h.1
   have hip:r7r r.from_ (Am.get (r5D r.to_) i):=by simpa using e
   refine Evt.r5r (Evt.u6u (ndF r.from_.form) (fun j s=>s.2=(j:Int)∧(s.1=true↔ ∀j',j'<j→r7r r.from_ (Am.get (r5D r.from_.form) j')→(Am.get (r5D r.from_.form) j').name=(Am.get (r5D r.to_) i).name→(Am.get (r5D r.from_.form) k).name∈(Am.get (u5X r.from_.form []) j').2)) (fun b=>b=true↔ ∀j',j'<ndF r.from_.form→r7r r.from_ (Am.get (r5D r.from_.form) j')→(Am.get (r5D r.from_.form) j').name=(Am.get (r5D r.to_) i).name→(Am.get (r5D r.from_.form) k).name∈(Am.get (u5X r.from_.form []) j').2) (fun _=>False) ⟨rfl,fun _ j' h=>absurd h (Nat.not_lt_zero _),fun _=>rfl⟩ (fun j s hj hs3=>?_) (fun s hs3=>?_)) (fun t ht3=>?_) (fun _ h=>h.elim)
   ·obtain⟨s1,s2⟩:=s
    obtain⟨h2,h1⟩:=hs3
    have h2:s2=(j:Int):=h2
    subst h2
    obtain⟨j1,j2,j3,_⟩:=hF j hj
    have y2B:(Am.get (u5X r.from_.form []) j).2.length≤8000000:=by
     rw[←hgF j hj,hAF,w7V _ _ _ hj]
     have:=u8K (u0L r.from_.form [] 0) j j
     omega
    unfold r6D
    simp only[Int.toNat_natCast,j2,t2,f2,hgF j hj]
    refine Evt.cond (fun _=>Evt.chk (by omega) (Evt.bind (u8L _ hvl (hF j hj)) fun v71 hv71=>?_)) (fun e=>by replace e:=bx e;omega)
    subst hv71
    obtain⟨C,hC⟩:∃C:Bool,C=(bif decide (r7r r.from_ (Am.get (r5D r.from_.form) j))then decide ((Am.get (r5D r.from_.form) j).name=(Am.get (r5D r.to_) i).name)else false):=⟨_,rfl⟩
    have hC2:C=true↔r7r r.from_ (Am.get (r5D r.from_.form) j)∧(Am.get (r5D r.from_.form) j).name=(Am.get (r5D r.to_) i).name:=by
     rw[hC]
     by_cases a:r7r r.from_ (Am.get (r5D r.from_.form) j)<;>simp[a]
    rw[←hC]
    refine Evt.chk (fun _=>by omega) (Evt.bind (P:=fun v=>C=true→u9d (Am.get (u5X r.from_.form []) j).2 (Am.get (r5D r.from_.form) k).name v) (Evt.gd (fun _=>(u5q _ _ y2B).mono fun v hv _=>hv) (fun e h=>by rw[e]at h;cases h)) fun v74 hv74=>?_)
    refine Evt.cond (fun e=>Evt.pure ⟨hwr j (by omega),fun h=>(by cases h),fun h=>?_⟩) (fun e=>Evt.pure ⟨hwr j (by omega),fun h j' hj' a b=>?_,fun h=>h1.2 fun j' hj'=>h j' (by omega)⟩)
    ·cases hcc:C with
     |false=>rw[hcc]at e;cases e
     |true=>
      rw[hcc]at e
      have e:v74<0:=bx e
      have:=(hv74 hcc).mem.2 (h j (by omega) (hC2.1 hcc).1 (hC2.1 hcc).2)
      omega
    ·by_cases ej:j'=j
     ·subst ej
      have hcc:=hC2.2 ⟨a,b⟩
      rw[hcc]at e
      have e:0≤v74:=bx e
      exact(hv74 hcc).mem.1 e
     ·exact h1.1 h j' (by omega) a b
   ·obtain⟨s1,s2⟩:=s
    obtain⟨h2,h1⟩:=hs3
    have h2:s2=((ndF r.from_.form:Nat):Int):=h2
    subst h2
    unfold r6D
    exact Evt.cond (fun e=>by replace e:=bx e;omega) (fun _=>Evt.pure h1)
   ·unfold r7v
    refine Evt.cond (fun e=>Evt.pure ⟨rfl,k,hk,hq,hn,.inr ⟨hip,ht3.1 e⟩⟩) (fun e=>Evt.pure (x9n fun h=>?_))
    have:=ht3.2 (h.2.2.resolve_left hnw).2
    rw[e]at this
    cases this
  ·obtain⟨rfl,hs2⟩:=hs2
   unfold r6C
   exact Evt.cond (fun e=>by replace e:=bx e;omega) (fun _=>Evt.pure hs2)
  ·unfold r7w
   refine Evt.pure ⟨hwr i (by omega),fun i' k hi' hk=>?_⟩
   by_cases e:i'=i
   ·subst e;exact ht2 k hk
   ·exact hs i' k (by omega) hk
  ·obtain⟨rfl,k,hk,h⟩:=hz
   exact⟨rfl,i,k,hi,hk,h⟩
 ·obtain⟨rfl,hs⟩:=hs
  unfold r6B
  refine Evt.cond (fun e=>by replace e:=bx e;omega) (fun _=>Evt.pure hs)
 ·unfold r7x
  refine Evt.pure ⟨fun e=>(by cases e),fun⟨i,k,hi,hk,h⟩=>absurd h (ht i k hi hk)⟩
 ·exact⟨fun _=>hb.2,fun _=>hb.1⟩
def w5k(W l:List Bs):Prop:=∃k,k<l.length∧(Am.get l k∈l.take k∨Am.get l k∈W)
theorem w5e(W l:List Bs)(x:Bs):w5k W (l++[x])↔w5k W l∨x∈l∨x∈W:=by
 have hx:Am.get (l++[x]) l.length=x:=by simp[Am.get]
 have hk:∀k,k<l.length→Am.get (l++[x]) k=Am.get l k:=fun k h=>by
  unfold Am.get
  rw[List.getD_eq_getElem?_getD,List.getD_eq_getElem?_getD,List.getElem?_append_left h]
 have ht:∀k,k≤l.length→(l++[x]).take k=l.take k:=fun k h=>List.take_append_of_le_length h
 constructor
 ·rintro⟨k,hkl,h⟩
  rw[List.length_append]at hkl
  have hkl:k<l.length+1:=hkl
  by_cases e:k=l.length
  ·subst e
   rw[hx,ht _ (Nat.le_refl _),List.take_length]at h
   exact .inr h
  ·rw[hk k (by omega),ht k (by omega)]at h
   exact .inl ⟨k,by omega,h⟩
 ·rintro(⟨k,hkl,h⟩|h)
  ·exact⟨k,by rw[List.length_append];omega,by rw[hk k hkl,ht k (by omega)];exact h⟩
  ·exact⟨l.length,by rw[List.length_append];exact Nat.lt_succ_self _,by rw[hx,ht _ (Nat.le_refl _),List.take_length];exact h⟩
theorem x3j(W:List Bs):¬w5k W []:=fun⟨k,h,_⟩=>absurd h (Nat.not_lt_zero _)
theorem x3W:∀l:List IT,(qsI l).length≤l.length
 | []=>Nat.le_refl _
 |x::l=>by
  have:=x3W l
  have e:qsI (x::l)=qsI [x]++qsI l:=w0U [x] l
  rw[e,w3p,List.length_append,List.length_cons]
  split<;>simp<;>omega
open Classical in
noncomputable def u9t(r:r4V)(v:r5d):Int:=
 if v.code≠0 then v.code else if r7r r.from_ r.from_.form then 5 else if(u4h r.to_).code≠0 then(u4h r.to_).code else if w5k r.from_.words (qs r.to_)then 7 else if x3h r then 15 else 0
def u4j(r:r4V)(c:Int):Prop:=∃v,x0R r.from_ v∧c=u9t r v
theorem u4j.uniq{r c c'}(h:u4j r c)(h':u4j r c'):c=c':=by
 obtain⟨v,hv,rfl⟩:=h
 obtain⟨v',hv',rfl⟩:=h'
 rw[hv.uniq hv']
def w3D(rs:List r4V)(k:Nat)(z:r5d):Prop:=∃c,c≠0∧u4j (Am.get rs k) c∧z=⟨c,(k:Int)⟩
def w1h(rs:List r4V)(z:r5d):Prop:=
 (40<rs.length∧z=⟨2, -1⟩)∨(rs.length≤40∧∃k,k<rs.length∧(∀j,j<k→u4j (Am.get rs j) 0)∧w3D rs k z)∨(rs.length≤40∧(∀j,j<rs.length→u4j (Am.get rs j) 0)∧z=⟨0,0⟩)
theorem w1h.uniq{rs z z'}(h:w1h rs z)(h':w1h rs z'):z=z':=by
 rcases h with⟨h1,rfl⟩|⟨h1,k,h2,h3,c,h4,h5,rfl⟩|⟨h1,h2,rfl⟩
 ·rcases h' with⟨_,rfl⟩|⟨g1,_⟩|⟨g1,_⟩
  ·rfl
  ·omega
  ·omega
 ·rcases h' with⟨g1,_⟩|⟨_,k',g2,g3,c',g4,g5,rfl⟩|⟨_,g2,_⟩
  ·omega
  ·rcases Nat.lt_trichotomy k k' with h|h|h
   ·exact absurd (h5.uniq (g3 k h)) h4
   ·subst h
    rw[h5.uniq g5]
   ·exact absurd (g5.uniq (h3 k' h)) g4
  ·exact absurd (h5.uniq (g2 k h2)) h4
 ·rcases h' with⟨g1,_⟩|⟨_,k',g2,_,c',g4,g5,_⟩|⟨_,_,rfl⟩
  ·omega
  ·exact absurd (g5.uniq (h2 k' g2)) g4
  ·rfl
theorem w5f{rs:List r4V}(hb:∀r∈rs,SB r.from_):Evt (fun n=>r9m n rs) (w1h rs):=by
 unfold r9m r6t
 refine Evt.cond (fun e=>Evt.pure (.inl ⟨by replace e:=bx e;omega,rfl⟩)) (fun e=>?_)
 replace e:=bx e
 have hlen:rs.length≤40:=by omega
 refine Evt.r5r (Evt.scan (fun k _=>∀j,j<k→u4j (Am.get rs j) 0) (fun k z=>w3D rs k z) (fun j hj=>absurd hj (Nat.not_lt_zero _)) (fun k s hk hi=>?_)) (fun t ht=>?_) (fun r hr=>?_)
 ·unfold u0j r6t
  have hm:=get_mem hk
  refine Evt.bind (w6h (hb _ hm)) fun v hv=>?_
  refine Evt.cond (fun e=>Evt.pure ?_) (fun e=>?_)
  ·have h:v.code≠0:=by simpa using e
   exact⟨v.code,h,⟨v,hv,by unfold u9t;rw[if_pos h]⟩,rfl⟩
  have h0:v.code=0:=by simpa using e
  have hs:=(hv.code h0).1
  rw[w0V]
  simp only[Option.bind_some]
  refine Evt.cond (fun hp=>Evt.pure ?_) (fun hp=>?_)
  ·have hp:r7r _ _:=of_decide_eq_true hp
   exact⟨5,by decide,⟨v,hv,by unfold u9t;rw[if_neg (fun h=>h h0),if_pos hp]⟩,rfl⟩
  have hp:=of_decide_eq_false hp
  refine Evt.bind (u4L _) fun v2 hv2=>?_
  subst hv2
  refine Evt.cond (fun e=>Evt.pure ?_) (fun e=>?_)
  ·have h:(u4h (Am.get rs k).to_).code≠0:=by simpa using e
   exact⟨_,h,⟨v,hv,by unfold u9t;rw[if_neg (fun h=>h h0),if_neg hp,if_pos h]⟩,rfl⟩
  have hf0:(u4h (Am.get rs k).to_).code=0:=by simpa using e
  have hto:OkF (Am.get rs k).to_:=(u4i _).1 hf0
  have hnt:=hto.2.1
  have hnq:=x0w (Am.get rs k).to_
  have hql:=w4E (Am.get rs k).to_
  refine Evt.bind (w0S _ _ (Nat.le_refl _) (by omega)) fun v3 hv3=>?_
  subst hv3
  refine Evt.r5r (Evt.scan (fun i _=>∀j,j<i→¬(Am.get (qs (Am.get rs k).to_) j∈(qs (Am.get rs k).to_).take j∨Am.get (qs (Am.get rs k).to_) j∈(Am.get rs k).from_.words)) (fun i r=>r= .ret ⟨7,(k:Int)⟩∧(Am.get (qs (Am.get rs k).to_) i∈(qs (Am.get rs k).to_).take i∨Am.get (qs (Am.get rs k).to_) i∈(Am.get rs k).from_.words)) (fun j hj=>absurd hj (Nat.not_lt_zero _)) (fun i s hi hI=>?_)) (fun t ht=>?_) (fun r hr=>?_)
  ·unfold u0k r6t
   rw[r7E]
   simp only[Option.bind_some,r7E]
   refine Evt.chk (by omega) ?_
   by_cases h1:Am.get (qs (Am.get rs k).to_) i∈(qs (Am.get rs k).to_).take i
   ·rw[decide_eq_true h1]
    exact Evt.bind (P:=fun _=>True) (Evt.gd (fun e=>by cases e) (fun _=>trivial)) fun v36 _=>Evt.cond (fun _=>Evt.pure ⟨rfl,.inl h1⟩) (fun e=>by cases e)
   ·rw[decide_eq_false h1]
    refine Evt.bind (P:=fun v=>v=decide (Am.get (qs (Am.get rs k).to_) i∈(Am.get rs k).from_.words)) (Evt.gd (fun _=>Evt.pure rfl) (fun e=>by cases e)) fun v36 h36=>?_
    subst h36
    refine Evt.cond (fun e=>Evt.pure ⟨rfl,.inr (of_decide_eq_true e)⟩) (fun e=>Evt.pure fun j hj=>?_)
    by_cases ej:j=i
    ·subst ej
     exact fun h=>h.elim h1 (of_decide_eq_false e)
    ·exact hI j (by omega)
  ·have hnd:¬w5k (Am.get rs k).from_.words (qs (Am.get rs k).to_):=fun⟨j,hj,h⟩=>ht j hj h
   have hc:∀c,(x3h (Am.get rs k)→c=15)→(¬x3h (Am.get rs k)→c=0)→u4j (Am.get rs k) c:=fun c h1 h2=>⟨v,hv,by
    unfold u9t
    rw[if_neg (fun h=>h h0),if_neg hp,if_neg (fun h=>h hf0),if_neg hnd]
    by_cases hu:x3h (Am.get rs k)
    ·rw[if_pos hu,h1 hu]
    ·rw[if_neg hu,h2 hu]⟩
   unfold u0l r6t
   refine Evt.bind (w6v hs.good hto) fun b hbu=>Evt.cond (fun eb=>Evt.pure ?_) (fun eb=>Evt.pure fun j hj=>?_)
   ·exact⟨15,by decide,hc 15 (fun _=>rfl) (fun h=>absurd (hbu.1 eb) h),rfl⟩
   ·by_cases ej:j=k
    ·subst ej
     exact hc 0 (fun h=>by rw[hbu.2 h]at eb;cases eb) (fun _=>rfl)
    ·exact hi j (by omega)
  ·obtain⟨i,_,hi,_,rfl,h⟩:=hr
   have hd:w5k (Am.get rs k).from_.words (qs (Am.get rs k).to_):=⟨i,hi,h⟩
   exact⟨7,by decide,⟨v,hv,by unfold u9t;rw[if_neg (fun h=>h h0),if_neg hp,if_neg (fun h=>h hf0),if_pos hd]⟩,rfl⟩
 ·unfold u0m
  exact Evt.pure (.inr (.inr ⟨hlen,ht,rfl⟩))
 ·obtain⟨k,_,hk,hi,hz⟩:=hr
  exact .inr (.inl ⟨hlen,k,hk,hi,hz⟩)
theorem w1i{rs:List r4V}{i:Nat}(hi:i<41){c:Int}(hc:u4j (Am.get rs i) c):Evt (fun _=>r5G (i:Int) c) (w4u (fun s:Int=>s=((i+1:Nat):Int)∧u4j (Am.get rs i) 0) (fun _:Unit=>False) (w3D rs i)):=by
 unfold r5G
 refine Evt.cond (fun e=>Evt.pure ⟨c,by simpa using e,hc,rfl⟩) (fun e=>Evt.pure ?_)
 have h:c=0:=by simpa using e
 subst h
 exact⟨by rw[u0Y (by omega) (by omega)];rfl,hc⟩
theorem w7W{rs:List r4V}{i:Nat}(hi:i<41){c:Int}(hc0:c≠0)(hc:u4j (Am.get rs i) c):Evt (fun n=>r5B n rs (i:Int) c) (w4u (fun s:Int=>s=((i+1:Nat):Int)∧u4j (Am.get rs i) 0) (fun _:Unit=>False) (w3D rs i)):=by
 unfold r5B
 rw[decide_eq_false hc0]
 exact Evt.bind (P:=fun _=>True) (Evt.gd (fun e=>by cases e) (fun _=>trivial)) fun v _=>Evt.cond (fun e=>by cases e) (fun _=>w1i hi hc)
theorem u8M{rs:List r4V}(hb:∀r∈rs,SB r.from_):Evt (fun n=>r6u n rs) (w1h rs):=by
 unfold r6u
 refine Evt.cond (fun e=>Evt.pure (.inl ⟨by replace e:=bx e;omega,rfl⟩)) (fun e=>?_)
 replace e:=bx e
 have hlen:rs.length≤40:=by omega
 refine Evt.r5r (Evt.u6u rs.length (fun i s=>s=(i:Int)∧∀j,j<i→u4j (Am.get rs j) 0) (fun _=>∀j,j<rs.length→u4j (Am.get rs j) 0) (fun z=>∃k,k<rs.length∧(∀j,j<k→u4j (Am.get rs j) 0)∧w3D rs k z) ⟨rfl,fun j hj=>absurd hj (Nat.not_lt_zero _)⟩ (fun i s hi hs=>?_) (fun s hs=>?_)) (fun t ht=>?_) (fun z hz=>?_)
 ·obtain⟨rfl,hs⟩:=hs
  have hm:=get_mem hi
  have hsb:=hb _ hm
  have wrap:∀ {x:Nat→Option (Ctl r5d Int Unit)},Evt x (w4u (fun s:Int=>s=((i+1:Nat):Int)∧u4j (Am.get rs i) 0) (fun _:Unit=>False) (w3D rs i))→Evt x (w4u (fun s:Int=>s=((i+1:Nat):Int)∧∀j,j<i+1→u4j (Am.get rs j) 0) (fun _:Unit=>∀j,j<rs.length→u4j (Am.get rs j) 0) (fun z=>∃k,k<rs.length∧(∀j,j<k→u4j (Am.get rs j) 0)∧w3D rs k z)):=fun h=>h.mono fun c hc=>by
   cases c with
   |nxt s=>
    obtain⟨h1,h2⟩:=hc
    refine⟨h1,fun j hj=>?_⟩
    by_cases e:j=i
    ·subst e;exact h2
    ·exact hs j (by omega)
   |brk t=>exact hc.elim
   |ret z=>exact⟨i,hi,hs,hc⟩
  refine wrap ?_
  unfold r6f
  simp only[Int.toNat_natCast]
  refine Evt.cond (fun _=>Evt.chk (by omega) (Evt.bind (w1N hsb) fun v hv=>?_)) (fun e=>by replace e:=bx e;omega)
  have j7:∀(c d:Int),c≠0→u4j (Am.get rs i) c→Evt (fun n=>r5C n rs (i:Int) (c,d)) (w4u (fun s:Int=>s=((i+1:Nat):Int)∧u4j (Am.get rs i) 0) (fun _:Unit=>False) (w3D rs i)):=fun c d h0 hc=>by
   unfold r5C
   exact Evt.cond (fun e=>absurd (of_decide_eq_true e) h0) (fun _=>w7W (by omega) h0 hc)
  have j6:∀c:Int,c≠0→u4j (Am.get rs i) c→Evt (fun n=>r5v n rs (i:Int) v c) (w4u (fun s:Int=>s=((i+1:Nat):Int)∧u4j (Am.get rs i) 0) (fun _:Unit=>False) (w3D rs i)):=fun c h0 hc=>by
   unfold r5v
   exact Evt.cond (fun e=>absurd (of_decide_eq_true e) h0) (fun _=>j7 _ _ h0 hc)
  refine Evt.cond (fun e=>?_) (fun e=>j6 _ (of_decide_eq_false e) ⟨v,hv,by unfold u9t;rw[if_pos (of_decide_eq_false e)]⟩)
  have h0:v.code=0:=of_decide_eq_true e
  have hok:=(hv.code h0).1
  have hg:=hok.good
  have hfn:=hg.form.2.1
  have hvl:(Am.get rs i).from_.parts.length≤8000000∧(Am.get rs i).from_.words.length≤8000000:=by
   have:=hg.len
   unfold vns at this
   simp only[List.length_append]at this
   omega
  have hn1:=w0O (Am.get rs i).from_.form
  have hT0:w8D (0+0) (Am.get rs i).from_.form (Am.get (u0L (Am.get rs i).from_.form [] 0) 0):=by
   have h:=u5p (Am.get rs i).from_.form [] 0 0 (by omega)
   rw[w3m]at h
   exact h
  refine Evt.bind (u7U hg.form.1 [] (by omega) (by simp)) fun v59 h59=>?_
  subst h59
  refine Evt.chk (by rw[u1c];omega) (Evt.bind (u8L _ hvl.1 hT0) fun v61 h61=>?_)
  subst h61
  refine Evt.cond (fun e=>?_) (fun e=>?_)
  ·have hp:r7r _ _:=of_decide_eq_true e
   exact j6 5 (by decide) ⟨v,hv,by unfold u9t;rw[if_neg (fun h=>h h0),if_pos hp]⟩
  have hp:=of_decide_eq_false e
  unfold r5v
  refine Evt.cond (fun _=>Evt.bind (u9c _) fun v62 h62=>?_) (fun e=>absurd h0 (of_decide_eq_false e))
  subst h62
  by_cases hf0:¬(u4h (Am.get rs i).to_).code=0
  ·simp only[Int.toNat_natCast]
   exact j7 _ _ hf0 ⟨v,hv,by unfold u9t;rw[if_neg (fun h=>h h0),if_neg hp,if_pos hf0]⟩
  replace hf0:=Classical.not_not.1 hf0
  have hto:OkF (Am.get rs i).to_:=(u4i _).1 hf0
  have hnt:=hto.2.1
  unfold r5C
  refine Evt.cond (fun _=>?_) (fun e=>absurd hf0 (of_decide_eq_false e))
  refine Evt.bind (u7U hto.1 [] (by omega) (by simp)) fun v63 h63=>?_
  subst h63
  have hlR:(u0L (Am.get rs i).to_ [] 0).length=ndF (Am.get rs i).to_:=u1c _ _ _
  obtain⟨R,hR⟩:∃R,R=u0L (Am.get rs i).to_ [] 0:=⟨_,rfl⟩
  rw[←hR]at hlR⊢
  have hqs:qsI R=qs (Am.get rs i).to_:=by rw[hR];exact w6g _ _ _
  refine Evt.r5r (Evt.u6u R.length (fun k s=>s.2.2=(k:Int)∧s.2.1=qsI (R.take k)∧(w5k (Am.get rs i).from_.words (qsI (R.take k))→s.1=7)∧(¬w5k (Am.get rs i).from_.words (qsI (R.take k))→s.1=0)) (fun c=>(w5k (Am.get rs i).from_.words (qs (Am.get rs i).to_)→c=7)∧(¬w5k (Am.get rs i).from_.words (qs (Am.get rs i).to_)→c=0)) (fun _=>False) ⟨rfl,rfl,fun h=>absurd h (x3j _),fun _=>hf0⟩ (fun k s hk hs=>?_) (fun s hs=>?_)) (fun t ht=>?_) (fun _ h=>h.elim)
  ·obtain⟨s1,s2,s3⟩:=s
   obtain⟨a1,a2,a3,a4⟩:=hs
   simp only at a1 a2 a3 a4
   subst a1 a2
   have hqt:qsI (R.take (k+1))=qsI (R.take k)++(if QK (Am.get R k).kind then [(Am.get R k).name]else []):=by rw[r8p hk,w0U,w3p]
   have hql:=x3W (R.take k)
   rw[List.length_take]at hql
   have hwr:wr .i64 ((k:Int)+1)=((k+1:Nat):Int):=by rw[u0Y (by omega) (by omega)];rfl
   unfold r6g
   simp only[Int.toNat_natCast]
   refine Evt.cond (fun _=>Evt.chk (by omega) (Evt.cond (fun e=>Evt.pure ?_) (fun e=>?_))) (fun e=>by replace e:=bx e;omega)
   ·have hq:¬QK (Am.get R k).kind:=fun h=>by
     unfold QK at h
     rcases h with h|h<;>simp[h]at e
    rw[if_neg hq,List.append_nil]at hqt
    exact⟨hwr,hqt.symm,by rw[hqt];exact a3,by rw[hqt];exact a4⟩
   have hq:QK (Am.get R k).kind:=by
    unfold QK
    by_cases a:(Am.get R k).kind=8
    ·exact .inl a
    ·by_cases b:(Am.get R k).kind=9
     ·exact .inr b
     ·simp[a,b]at e
   rw[if_pos hq]at hqt
   refine Evt.bind (w4L (qsI (R.take k)) (Am.get R k).name (by omega)) fun v97 h97=>?_
   refine Evt.bind (P:=fun v=>¬0≤v97→u9d (Am.get rs i).from_.words (Am.get R k).name v) (Evt.gd (fun _=>(u5q _ _ hvl.2).mono fun v hv _=>hv) (fun e h=>by simp[h]at e)) fun v98 h98=>?_
   refine Evt.cond (fun e=>Evt.r9F (Evt.chk ?_ (Evt.pure ?_))) (fun e=>Evt.r9F (Evt.chk ?_ (Evt.pure ?_)))
   ·rw[u4e];simp only[List.length_append,List.length_cons,List.length_nil];omega
   ·have hd:w5k (Am.get rs i).from_.words (qsI (R.take (k+1))):=by
     rw[hqt,w5e]
     refine .inr ?_
     by_cases h:0≤v97
     ·exact .inl (h97.mem.1 h)
     ·rw[decide_eq_false h,cond_false]at e
      exact .inr ((h98 h).mem.1 (of_decide_eq_true e))
    exact⟨hwr,hqt.symm,fun _=>rfl,fun h=>absurd hd h⟩
   ·rw[u4e];simp only[List.length_append,List.length_cons,List.length_nil];omega
   ·have h1:¬0≤v97:=fun h=>by rw[decide_eq_true h]at e;cases e
    have h2:¬0≤v98:=fun h=>by rw[decide_eq_false h1,decide_eq_true h]at e;cases e
    have hd:w5k (Am.get rs i).from_.words (qsI (R.take (k+1)))↔w5k (Am.get rs i).from_.words (qsI (R.take k)):=by
     rw[hqt,w5e]
     exact⟨fun h=>h.elim id fun h=>h.elim (fun h=>absurd (h97.mem.2 h) h1) fun h=>absurd ((h98 h1).mem.2 h) h2,.inl⟩
    exact⟨hwr,hqt.symm,fun h=>a3 (hd.1 h),fun h=>a4 fun h'=>h (hd.2 h')⟩
  ·obtain⟨s1,s2,s3⟩:=s
   obtain⟨a1,a2,a3,a4⟩:=hs
   simp only at a1 a2 a3 a4
   subst a1
   rw[List.take_length,hqs]at a3 a4
   unfold r6g
   exact Evt.cond (fun e=>by replace e:=bx e;omega) (fun _=>Evt.pure ⟨a3,a4⟩)
  ·unfold r6L
   have ht:(w5k (Am.get rs i).from_.words (qs (Am.get rs i).to_)→t=7)∧(¬w5k (Am.get rs i).from_.words (qs (Am.get rs i).to_)→t=0):=ht
   by_cases hd:w5k (Am.get rs i).from_.words (qs (Am.get rs i).to_)
   ·rw[ht.1 hd]
    exact w7W (by omega) (by decide) ⟨v,hv,by unfold u9t;rw[if_neg (fun h=>h h0),if_neg hp,if_neg (fun h=>h hf0),if_pos hd]⟩
   ·rw[ht.2 hd]
    unfold r5B
    rw[decide_eq_true (rfl:(0:Int)=0)]
    refine Evt.bind (P:=fun b=>b=true↔x3h (Am.get rs i)) (Evt.gd (fun _=>w3C hg hto) (fun e=>by cases e)) fun b hbu=>?_
    refine Evt.cond (fun e=>w1i (by omega) ⟨v,hv,?_⟩) (fun e=>w1i (by omega) ⟨v,hv,?_⟩)
    ·unfold u9t
     rw[if_neg (fun h=>h h0),if_neg hp,if_neg (fun h=>h hf0),if_neg hd,if_pos (hbu.1 e)]
    ·unfold u9t
     rw[if_neg (fun h=>h h0),if_neg hp,if_neg (fun h=>h hf0),if_neg hd,if_neg fun h=>by rw[hbu.2 h]at e;cases e]
 ·obtain⟨rfl,hs⟩:=hs
  unfold r6f
  exact Evt.cond (fun e=>by replace e:=bx e;omega) (fun _=>Evt.pure hs)
 ·unfold r6M
  exact Evt.pure (.inr (.inr ⟨hlen,ht,rfl⟩))
 ·exact .inr (.inl ⟨hlen,hz⟩)
theorem u9p{rs:List r4V}(hb:∀r∈rs,SB r.from_):Evt (fun n=>r5L n rs) (fun b=>b=true):=by
 unfold r5L
 refine Evt.bind u7W fun v hv=>?_
 subst hv
 refine Evt.bind (P:=w1h rs) (Evt.gd (fun _=>w5f hb) (fun e=>by cases e)) fun v2 h2=>Evt.bind (P:=w1h rs) (Evt.gd (fun _=>u8M hb) (fun e=>by cases e)) fun v3 h3=>Evt.pure ?_
 obtain rfl:=h2.uniq h3
 simp
end Go.Proofs.YtfacbpehlibilaaGreatDoor
