import Derived.Test.YtdjnbjnlnjhllaaGreatDoorFILaw4
set_option linter.unusedVariables false
set_option linter.unusedSimpArgs false
namespace Go.Proofs.YtdjnbjnlnjhllaaGreatDoor
open Go Go.Am
def z1R(s:w3W)(e:Env):List w3V:=(w6h s).map fun k=>⟨k.drop 1,txE e k,fmE e k⟩
open Classical in
theorem z4n{s:w3W}(hs:x0p s)(e:Env)(frm:List Int):Evt (fun n=>x0I n s (z1R s e,frm)) (fun r=>r=if caught s e then([],[],false)else(z1R s e,frm,true)):=by
 have hvl:=x0o s
 have hsl:=hs.len
 have hkl:=w4F s
 have hql:(qs s.form).length≤200:=by rw[x6q];have:=x7P s.form;have:=hs.form.2.1;omega
 have hol:(z1R s e).length=(w6h s).length:=List.length_map _
 have tw:∀a,a<s.words.length→(Am.get (z1R s e) a).text=txE e (46::Am.get s.words a):=fun a ha=>by
  unfold z1R
  rw[get_map _ (by omega),y3X ha]
 have tv:∀b,b<(qs s.form).length→(Am.get (z1R s e) (s.words.length+s.w4a.length+s.parts.length+b)).text=txE e (63::Am.get (qs s.form) b):=fun b hb=>by
  unfold z1R
  rw[get_map _ (by omega),y3Y hb]
 unfold x0I
 refine Evt.w4h (Evt.x1P s.words.length (fun k t=>t=(k:Int)∧∀a,a<k→∀b,b<(qs s.form).length→txE e (46::Am.get s.words a)≠txE e (63::Am.get (qs s.form) b)) (fun _=>¬caught s e) (fun r=>r=([],[],false)∧caught s e) ⟨rfl,fun a ha=>absurd ha (Nat.not_lt_zero _)⟩ (fun k t hk ht=>?_) (fun t ht=>?_)) (fun t ht=>?_) (fun r hr=>?_)
 ·obtain⟨rfl,ht⟩:=ht
  unfold w8l
  rw[z4l hs]
  refine Evt.cond (fun _=>?_) (fun e=>by replace e:=bx e;omega)
  refine Evt.w4h (Evt.x1P (qs s.form).length (fun b t=>t=((s.words.length+s.w4a.length+s.parts.length+b:Nat):Int)∧∀b',b'<b→txE e (46::Am.get s.words k)≠txE e (63::Am.get (qs s.form) b')) (fun _=>∀b',b'<(qs s.form).length→txE e (46::Am.get s.words k)≠txE e (63::Am.get (qs s.form) b')) (fun r=>r= .ret ([],[],false)∧caught s e) ⟨rfl,fun b hb=>absurd hb (Nat.not_lt_zero _)⟩ (fun b t hb hbt=>?_) (fun t hbt=>?_)) (fun u hu=>?_) (fun r hr=>?_)
  ·obtain⟨rfl,hbt⟩:=hbt
   unfold w8m
   simp only[Int.toNat_natCast,tw k hk,tv b hb]
   refine Evt.cond (fun _=>Evt.chk (by omega) (Evt.chk (by omega) (Evt.cond (fun e=>Evt.pure ⟨rfl,?_⟩) (fun e=>Evt.pure ⟨?_,fun b' hb'=>?_⟩)))) (fun e=>by replace e:=bx e;omega)
   ·replace e:=bx e
    exact⟨_,get_mem hk,List.mem_map.2 ⟨_,get_mem hb,e.symm⟩⟩
   ·rw[w5h (by omega) (by omega)];rfl
   ·replace e:=bx e
    by_cases eb:b'=b
    ·subst eb;exact e
    ·exact hbt b' (by omega)
  ·obtain⟨rfl,hbt⟩:=hbt
   unfold w8m
   exact Evt.cond (fun e=>by replace e:=bx e;omega) (fun _=>Evt.pure hbt)
  ·unfold x0u
   refine Evt.pure ⟨by rw[w5h (by omega) (by omega)];rfl,fun a ha b hb=>?_⟩
   by_cases ea:a=k
   ·subst ea;exact hu b hb
   ·exact ht a (by omega) b hb
  ·obtain⟨rfl,hc⟩:=hr
   exact⟨rfl,hc⟩
 ·obtain⟨rfl,ht⟩:=ht
  unfold w8l
  refine Evt.cond (fun e=>by replace e:=bx e;omega) (fun _=>Evt.pure fun⟨w,hw,hc⟩=>?_)
  obtain⟨x,hx,hxe⟩:=List.mem_map.1 hc
  obtain⟨a,ha,rfl⟩:=w6G.1 hw
  obtain⟨b,hb,rfl⟩:=w6G.1 hx
  exact ht a ha b hb hxe.symm
 ·have ht:¬caught s e:=ht
  unfold x0v
  refine Evt.pure ?_
  rw[if_neg ht]
 ·obtain⟨rfl,hc⟩:=hr
  rw[if_pos hc]
noncomputable def fl(s:w3W):List w3T→Nat→List w4l
 | [],_=>[]
 |x::l,b=>(if(y5O s x).2 then [⟨(b:Int),(y5O s x).1⟩]else [])++fl s l (b+1)
theorem z0E(s:w3W):∀(a c:List w3T) (b:Nat),fl s (a++c) b=fl s a b++fl s c (b+a.length)
 | [],c,b=>by simp[fl]
 |x::a,c,b=>by rw[List.cons_append,fl,fl,z0E s a c,List.append_assoc,List.length_cons,show b+1+a.length=b+(a.length+1)by omega]
mutual
theorem y9N(s:w3W):∀(g:w3T) (b:Nat),x9I s g b=fl s (w4z g) b
 | .mk k n w l,b=>by rw[x9I,w4z,fl,y2O s l]
theorem y2O(s:w3W):∀(l:List w3T) (b:Nat),x3A s l b=fl s (w6e l) b
 | [],b=>by rw[x3A,w6e];rfl
 |f::l,b=>by rw[x3A,w6e,z0E,y9N s f,y2O s l,w7W]
end
mutual
def y8x(R:List IT):w3T→Nat→Prop
 | .mk k n w s,p=>p<R.length∧(Am.get R p).kind=k∧(Am.get R p).name=n∧(Am.get R p).words=w∧(Am.get R p).end_=((p+ndF (.mk k n w s):Nat):Int)∧x7X R s (p+1)
def x7X(R:List IT):List w3T→Nat→Prop
 | [],_=>True
 |f::l,p=>y8x R f p∧x7X R l (p+ndF f)
end
theorem y1s(R:List IT)(f:w3T)(p:Nat):y8x R f p↔p<R.length∧(Am.get R p).kind=f.kind∧(Am.get R p).name=f.name∧(Am.get R p).words=f.words∧(Am.get R p).end_=((p+ndF f:Nat):Int)∧x7X R f.subs (p+1):=by cases f;rw[y8x];rfl
theorem x7X.get{R:List IT}:∀ {l:List w3T} {p:Nat},x7X R l p→∀k,k<l.length→y8x R (Am.get l k) (p+w6H (l.take k))
 | [],_,_,k,hk=>by simp at hk
 |f::l,p,h,0,_=>by
  rw[x7X]at h
  simpa[w6H,Am.get]using h.1
 |f::l,p,h,k+1,hk=>by
  rw[x7X]at h
  have:=x7X.get h.2 k (by simpa using hk)
  rw[List.take_succ_cons,w6H, ←Nat.add_assoc]
  exact this
mutual
theorem x1Z.k{R R':List IT}(hl:R'.length=R.length)(hs:∀j,j<R.length→sgI (Am.get R' j)=sgI (Am.get R j)∧(Am.get R' j).end_=(Am.get R j).end_):∀ {f:w3T} {bd:List Bs} {p:Nat},x1Z R f bd p→y8x R' f p
 | .mk k n w s,bd,p,h=>by
   rw[x1Z]at h
   rw[y8x]
   obtain⟨h1,h2,h3⟩:=h
   obtain⟨e1,e2⟩:=hs p h1
   rw[h2]at e1 e2
   unfold sgI at e1
   simp only[Prod.mk.injEq]at e1
   exact⟨by omega,e1.1,e1.2.1,e1.2.2,e2,w9g.k hl hs h3⟩
theorem w9g.k{R R':List IT}(hl:R'.length=R.length)(hs:∀j,j<R.length→sgI (Am.get R' j)=sgI (Am.get R j)∧(Am.get R' j).end_=(Am.get R j).end_):∀ {l:List w3T} {bd:List Bs} {p:Nat},w9g R l bd p→x7X R' l p
 | [],bd,p,h=>by rw[x7X];trivial
 |f::l,bd,p,h=>by
  rw[w9g]at h
  rw[x7X]
  exact⟨x1Z.k hl hs h.1,w9g.k hl hs h.2⟩
end
theorem y5T{R:List IT}(hR:R.length≤100000):∀(m:Nat) (g:w3T),SizeOf.sizeOf g≤m→WfF g→∀(p:Nat),y8x R g p→Evt (fun n=>w4R n R (p:Int)) (fun r=>r=g):=by
 intro m
 induction m with
 |zero=>intro f h;cases f;simp only[w3T.mk.sizeOf_spec]at h;omega
 |succ m ih=>
  intro g hg hwf p h
  obtain⟨hp,hk,hn,hw,he,hl⟩:=(y1s R g p).1 h
  have hws:=x6r hwf
  have hsl:=x5a hwf
  refine Evt.succ ?_
  simp only[w4R]
  refine Evt.chk (by omega) ?_
  refine Evt.w4h (Evt.x1P g.words.length (fun k s=>s=(g.words.take k,(k:Int))) (fun t=>t=g.words) (fun _=>False) (by simp) (fun k s hk hs=>?_) (fun s hs=>?_)) (fun t ht=>?_) (fun r hr=>?_)
  ·subst hs
   unfold w6k
   simp only[Int.toNat_natCast,hw]
   refine Evt.cond (fun _=>Evt.chk (by omega) (Evt.w6m (Evt.chk ?_ (Evt.pure ?_)))) (fun e=>by replace e:=bx e;omega)
   ·rw[w6d];simp only[List.length_append,List.length_take,List.length_cons,List.length_nil];omega
   ·show(_,_)=(_,_)
    rw[w4C hk,w5h (by omega) (by omega)];rfl
  ·subst hs
   unfold w6k
   simp only[Int.toNat_natCast,hw]
   refine Evt.cond (fun e=>by replace e:=bx e;omega) (fun _=>Evt.pure ?_)
   show g.words.take g.words.length=_
   rw[List.take_length]
  ·have ht:t=g.words:=ht
   subst ht
   unfold w7I
   have hw1:wr .i64 ((p:Int)+1)=((p+1:Nat):Int):=by rw[w5h (by omega) (by omega)];rfl
   rw[hw1]
   refine Evt.w4h (Evt.x1P g.subs.length (fun k s=>s=(g.subs.take k,((p+1+w6H (g.subs.take k):Nat):Int),(k:Int))) (fun t=>t=g.subs) (fun _=>False) (by simp[w6H]) (fun k s hk1 hs=>?_) (fun s hs=>?_)) (fun t ht=>?_) (fun r hr=>?_)
   ·subst hs
    have hsub:=x7X.get hl k hk1
    have hsz:=w6s hk1
    obtain⟨hp2,_,_,_,he2,_⟩:=(y1s R _ _).1 hsub
    unfold w6l
    simp only[Int.toNat_natCast,hk,x7V hwf,Option.bind_some]
    refine Evt.cond (fun _=>?_) (fun e=>by replace e:=bx e;omega)
    refine Evt.bind (ih _ (by omega) (x5j hwf hk1) _ hsub) fun v hv=>Evt.w6m (Evt.chk ?_ (Evt.chk (by omega) (Evt.pure ?_)))
    ·rw[w6d];simp only[List.length_append,List.length_take,List.length_cons,List.length_nil];omega
    ·subst hv
     show(_,_,_)=(_,_,_)
     rw[he2,w4C hk1,x1X,w5h (by omega) (by omega),Nat.add_assoc (p+1)];rfl
   ·subst hs
    unfold w6l
    simp only[Int.toNat_natCast,hk,x7V hwf,Option.bind_some]
    refine Evt.cond (fun e=>by replace e:=bx e;omega) (fun _=>Evt.pure ?_)
    show g.subs.take g.subs.length=_
    rw[List.take_length]
   ·have ht:t=g.subs:=ht
    subst ht
    unfold w7J
    refine Evt.pure ?_
    rw[Int.toNat_natCast,hk,hn]
    exact y5f g
   ·exact False.elim hr
  ·exact False.elim hr
theorem z1S{f:w3T}{k:Nat}(hk:k<f.subs.length):ndF (Am.get f.subs k)≤ndF f:=by
 have h1:=x0F hk
 rw[x3y f]
 omega
theorem y9O{R:List IT}(hR:R.length≤100000):∀(m:Nat) (g:w3T),SizeOf.sizeOf g≤m→WfF g→ndF g≤100000→∀(p:Nat),y8x R g p→Evt (fun n=>w5K n R (p:Int)) (fun r=>r=((dpF g:Nat):Int)):=by
 intro m
 induction m with
 |zero=>intro f h;cases f;simp only[w3T.mk.sizeOf_spec]at h;omega
 |succ m ih=>
  intro g hg hwf hnd p h
  obtain⟨hp,hk,hn,hw,he,hl⟩:=(y1s R g p).1 h
  have hsl:=x5a hwf
  have hdp:=y4J g
  have hdl:=z1N _ g (Nat.le_refl _)
  have z7c:=x3y g
  refine Evt.succ ?_
  simp only[w5K]
  have hw1:wr .i64 ((p:Int)+1)=((p+1:Nat):Int):=by rw[w5h (by omega) (by omega)];rfl
  rw[hw1]
  refine Evt.w4h (Evt.x1P g.subs.length (fun k s=>s=(((x4Y (g.subs.take k):Nat):Int),((p+1+w6H (g.subs.take k):Nat):Int),(k:Int))) (fun t=>t=((x4Y g.subs:Nat):Int)) (fun _=>False) (by simp[w6H,x4Y]) (fun k s hk1 hs=>?_) (fun s hs=>?_)) (fun t ht=>?_) (fun r hr=>?_)
  ·subst hs
   have hsub:=x7X.get hl k hk1
   have hsz:=w6s hk1
   have hns:=(z1S hk1)
   obtain⟨hp2,_,_,_,he2,_⟩:=(y1s R _ _).1 hsub
   have htk:=x0F hk1
   unfold w6y
   simp only[Int.toNat_natCast,hk,x7V hwf,Option.bind_some]
   refine Evt.chk (by omega) (Evt.cond (fun _=>?_) (fun e=>by replace e:=bx e;omega))
   refine Evt.bind (ih _ (by omega) (x5j hwf hk1) (by omega) _ hsub) fun v hv=>?_
   subst hv
   have hwk:wr .i64 ((k:Int)+1)=((k+1:Nat):Int):=by rw[w5h (by omega) (by omega)];rfl
   have hend:((p+1+w6H (g.subs.take k)+ndF (Am.get g.subs k):Nat):Int)=((p+1+w6H (g.subs.take (k+1)):Nat):Int):=by rw[w4C hk1,x1X,Nat.add_assoc (p+1)]
   have hdd:x4Y (g.subs.take (k+1))=max (x4Y (g.subs.take k)) (dpF (Am.get g.subs k)):=by rw[w4C hk1,x7r]
   refine Evt.cond (fun e=>Evt.chk (by omega) (Evt.pure ?_)) (fun e=>Evt.chk (by omega) (Evt.pure ?_))
   ·replace e:=bx e
    show(_,_,_)=(_,_,_)
    rw[he2,hend,hwk,hdd,Nat.max_eq_right (by omega)]
   ·replace e:=bx e
    show(_,_,_)=(_,_,_)
    rw[he2,hend,hwk,hdd,Nat.max_eq_left (by omega)]
  ·subst hs
   unfold w6y
   simp only[Int.toNat_natCast,hk,x7V hwf,Option.bind_some]
   refine Evt.chk (by omega) (Evt.cond (fun e=>by replace e:=bx e;omega) (fun _=>Evt.pure ?_))
   show((x4Y (g.subs.take g.subs.length):Nat):Int)=_
   rw[List.take_length]
  ·have ht:t=((x4Y g.subs:Nat):Int):=ht
   subst ht
   unfold w8n
   refine Evt.pure ?_
   rw[w5h (by omega) (by omega),hdp];omega
  ·exact False.elim hr
theorem y9P{r:w3T}(hwf:WfF r)(hn:ndF r≤100000){l:List IT}(hl:l.map sgI=(w4z r).map sgF):Evt (fun n=>w7Y n l) (fun l'=>l'.length=ndF r∧y8x l' r 0):=by
 have hll:l.length=ndF r:=by have:=congrArg List.length hl;rw[List.length_map,List.length_map,w7W]at this;exact this
 have hrr:(w9x r [] 0).length=ndF r:=w9V _ _ _
 have ideal:∀j,j<ndF r→sgI (Am.get (w9x r [] 0) j)=sgF (Am.get (w4z r) j)∧(Am.get (w9x r [] 0) j).end_=((j+ndF (Am.get (w4z r) j):Nat):Int):=fun j hj=>by
  have ht:=x5W r [] 0 j hj
  rw[Nat.zero_add]at ht
  refine⟨?_,ht.2.2.2.1⟩
  unfold sgI sgF
  rw[ht.1,ht.2.1,ht.2.2.1]
 have z1T:∀j,j<ndF r→∀k,k<(Am.get (w4z r) j).subs.length→j+1+w6H ((Am.get (w4z r) j).subs.take k)<ndF r∧ndF (Am.get (w4z r) (j+1+w6H ((Am.get (w4z r) j).subs.take k)))=ndF (Am.get (Am.get (w4z r) j).subs k):=fun j hj k hk=>by
  obtain⟨ar,ha⟩:=x1Z.node (x5B r []) j hj
  rw[Nat.zero_add]at ha
  obtain⟨_,_,h3⟩:=(x7q _ _ _ _).1 ha
  obtain⟨g1,g2,_⟩:=(x7q _ _ _ _).1 (w9g.get h3 k hk)
  rw[hrr]at g1
  refine⟨g1,?_⟩
  have h5:=(ideal _ g1).2
  rw[g2]at h5
  have h5:((j+1+w6H ((Am.get (w4z r) j).subs.take k)+ndF (Am.get (Am.get (w4z r) j).subs k):Nat):Int)=_:=h5
  omega
 have z1U:∀j,j<ndF r→j+ndF (Am.get (w4z r) j)≤ndF r:=fun j hj=>by
  obtain⟨ar,ha⟩:=x1Z.node (x5B r []) j hj
  have:=ha.le
  rw[hrr]at this;omega
 unfold w7Y
 have hw:wr .i64 ((l.length:Int)-1)=(l.length:Int)-1:=w5h (by omega) (by omega)
 rw[hw]
 refine Evt.w4h (Evt.x1P (ndF r) (fun k s=>∃m:Nat,s.2=(m:Int)-1∧m+k=ndF r∧s.1.length=ndF r∧(∀j,j<ndF r→sgI (Am.get s.1 j)=sgF (Am.get (w4z r) j))∧(∀j,m≤j→j<ndF r→(Am.get s.1 j).end_=((j+ndF (Am.get (w4z r) j):Nat):Int))) (fun t=>t.length=ndF r∧(∀j,j<ndF r→sgI (Am.get t j)=sgF (Am.get (w4z r) j))∧(∀j,j<ndF r→(Am.get t j).end_=((j+ndF (Am.get (w4z r) j):Nat):Int))) (fun _=>False) ⟨ndF r,by show(l.length:Int)-1=_;rw[hll],rfl,hll,fun j hj=>?_,fun j h1 h2=>absurd h1 (by omega)⟩ (fun k s hk hs=>?_) (fun s hs=>?_)) (fun t ht=>?_) (fun r hr=>?_)
 ·show sgI (Am.get l j)=_
  rw[←get_map sgI (show j<l.length by omega),hl,get_map sgF (by rw[w7W];exact hj)]
 ·obtain⟨m,hs1,hm,hs2,hs3,hs4⟩:=hs
  obtain⟨i,rfl⟩:∃i,m=i+1:=⟨m-1,by omega⟩
  have hi:i<ndF r:=by omega
  have hs1:s.2=(i:Int):=by omega
  obtain⟨L,p⟩:=s
  have hs1:p=(i:Int):=hs1
  subst hs1
  have hs2:L.length=ndF r:=hs2
  have hs3:∀j,j<ndF r→sgI (Am.get L j)=sgF (Am.get (w4z r) j):=hs3
  have hs4:∀j,i+1≤j→j<ndF r→(Am.get L j).end_=((j+ndF (Am.get (w4z r) j):Nat):Int):=hs4
  have hwg:WfF (Am.get (w4z r) i):=y1k r hwf _ (get_mem (by rw[w7W];exact hi))
  have hsl:=x5a hwg
  have hkd:(Am.get L i).kind=(Am.get (w4z r) i).kind:=congrArg Prod.fst (hs3 i hi)
  have hle:=z1U i hi
  have z7c:=x3y (Am.get (w4z r) i)
  unfold w6z
  refine Evt.cond (fun _=>?_) (fun e=>by replace e:=bx e;omega)
  have hw1:wr .i64 ((i:Int)+1)=((i+1:Nat):Int):=by rw[w5h (by omega) (by omega)];rfl
  simp only[hw1]
  refine Evt.w4h (Evt.x1P (Am.get (w4z r) i).subs.length (fun k t=>t=(((i+1+w6H ((Am.get (w4z r) i).subs.take k):Nat):Int),(k:Int))) (fun t=>t=((i+ndF (Am.get (w4z r) i):Nat):Int)) (fun _=>False) (by simp[w6H]) (fun k t hk2 ht=>?_) (fun t ht=>?_)) (fun t ht=>?_) (fun r hr=>?_)
  ·subst ht
   obtain⟨g1,g2⟩:=z1T i hi k hk2
   unfold w6A
   simp only[Int.toNat_natCast,hkd,x7V hwg,Option.bind_some]
   refine Evt.chk (by omega) (Evt.cond (fun _=>Evt.chk (by omega) (Evt.pure ?_)) (fun e=>by replace e:=bx e;omega))
   show(_,_)=(_,_)
   rw[hs4 _ (by omega) g1,g2,w4C hk2,x1X,w5h (by omega) (by omega),Nat.add_assoc (i+1)];rfl
  ·subst ht
   unfold w6A
   simp only[Int.toNat_natCast,hkd,x7V hwg,Option.bind_some]
   refine Evt.chk (by omega) (Evt.cond (fun e=>by replace e:=bx e;omega) (fun _=>Evt.pure ?_))
   show((i+1+w6H ((Am.get (w4z r) i).subs.take (Am.get (w4z r) i).subs.length):Nat):Int)=_
   rw[List.take_length,z7c,Nat.add_assoc]
  ·have ht:t=((i+ndF (Am.get (w4z r) i):Nat):Int):=ht
   subst ht
   unfold w8o
   simp only[Int.toNat_natCast]
   refine Evt.chk (by omega) (Evt.w6m (Evt.pure ⟨i,?_,by omega,by rw[List.length_set];exact hs2,fun j hj=>?_,fun j h1 h2=>?_⟩))
   ·show wr .i64 ((i:Int)-1)=_
    exact w5h (by omega) (by omega)
   ·by_cases ej:j=i
    ·subst ej
     rw[get_set_same (by omega), ←hs3 j hj];rfl
    ·rw[x3o ej];exact hs3 j hj
   ·by_cases ej:j=i
    ·subst ej
     rw[get_set_same (by omega)]
    ·rw[x3o ej];exact hs4 j (by omega) h2
  ·exact False.elim hr
 ·obtain⟨m,hs1,hm,hs2,hs3,hs4⟩:=hs
  obtain rfl:m=0:=by omega
  unfold w6z
  refine Evt.cond (fun e=>by replace e:=bx e;omega) (fun _=>Evt.pure ⟨hs2,hs3,fun j hj=>hs4 j (by omega) hj⟩)
 ·obtain⟨h1,h2,h3⟩:=ht
  unfold w8p
  refine Evt.pure ⟨h1,x1Z.k (R:=w9x r [] 0) (by omega) (fun j hj=>?_) (x5B r [])⟩
  rw[hrr]at hj
  exact⟨(h2 j hj).trans (ideal j hj).1.symm,(h3 j hj).trans (ideal j hj).2.symm⟩
 ·exact False.elim hr
mutual
def y9Q(s:w3W)(bs:List w3V):w3T→List Bs→List IT
 | .mk k n w l,bd=>if x1c s (.mk k n w l)then w9x (bOf s bs (43::n)).form [] 0 else⟨k,inm s bs (.mk k n w l),w.map (iwd s bs bd),[],0⟩::y1t s bs l (if QK k then n::bd else bd)
def y1t(s:w3W)(bs:List w3V):List w3T→List Bs→List IT
 | [],_=>[]
 |f::l,bd=>y9Q s bs f bd++y1t s bs l bd
end
theorem z1V(s:w3W)(bs:List w3V)(f:w3T)(bd:List Bs):y9Q s bs f bd=if x1c s f then w9x (bOf s bs (43::f.name)).form [] 0 else⟨f.kind,inm s bs f,f.words.map (iwd s bs bd),[],0⟩::y1t s bs f.subs (if QK f.kind then f.name::bd else bd):=by cases f;rw[y9Q];rfl
theorem z4o(f:w3T)(ar:List Bs):(w9x f ar 0).map sgI=(w4z f).map sgF:=by
 refine y0K (by rw[List.length_map,List.length_map,w9V,w7W]) fun j hj=>?_
 rw[List.length_map,w9V]at hj
 rw[get_map sgI (by rw[w9V];exact hj),get_map sgF (by rw[w7W];exact hj)]
 have ht:=x5W f ar 0 j hj
 unfold sgI sgF
 rw[ht.1,ht.2.1,ht.2.2.1]
mutual
theorem y4b(s:w3W)(bs:List w3V):∀(f:w3T) (bd:List Bs),(y9Q s bs f bd).map sgI=(w4z (x0H s bs f bd)).map sgF
 | .mk k n w l,bd=>by
   rw[y9Q,x0H]
   by_cases h:x1c s (.mk k n w l)
   ·rw[if_pos h,if_pos h];exact z4o _ _
   ·rw[if_neg h,if_neg h,w4z,List.map_cons,List.map_cons,y5j s bs l];rfl
theorem y5j(s:w3W)(bs:List w3V):∀(l:List w3T) (bd:List Bs),(y1t s bs l bd).map sgI=(w6e (w6x s bs l bd)).map sgF
 | [],bd=>by rw[y1t,w6x,w6e];rfl
 |f::l,bd=>by rw[y1t,w6x,w6e,List.map_append,List.map_append,y4b s bs f,y5j s bs l]
end
theorem y9R{s:w3W}{bs:List w3V}(hs:x0p s)(hb:x9M s bs)(f:w3T)(bd:List Bs):(y9Q s bs f bd).length≤200*ndF f:=by
 have h:=congrArg List.length (y4b s bs f bd)
 rw[List.length_map,List.length_map,w7W]at h
 have:=x7s hs hb f bd
 omega
section
variable {s:w3W} {bs:List w3V}
theorem z7d(hs:x0p s)(hb:x9M s bs){x:Bs}{j:Nat}(hj:j<(qs s.form).length)(hje:Am.get (qs s.form) j=x):Am.get bs (s.words.length+s.w4a.length+s.parts.length+j)=bOf s bs (63::x):=by
 have hkl:=w4F s
 rw[←hje, ←y3Y hj,x5k hs hb.len (by omega)]
theorem z8q(hs:x0p s)(hb:x9M s bs){x:Bs}{j:Nat}(hj:j<s.words.length)(hje:Am.get s.words j=x):Am.get bs j=bOf s bs (46::x):=by
 have hkl:=w4F s
 rw[←hje, ←y3X hj,x5k hs hb.len (by omega)]
theorem z8r(hs:x0p s)(hb:x9M s bs){x:Bs}{j:Nat}(hj:j<s.w4a.length)(hje:Am.get s.w4a j=x):Am.get bs (s.words.length+j)=bOf s bs (33::x):=by
 have hkl:=w4F s
 rw[←hje, ←y5Q hj,x5k hs hb.len (by omega)]
theorem z8s(hs:x0p s)(hb:x9M s bs){x:Bs}{j:Nat}(hj:j<s.parts.length)(hje:Am.get s.parts j=x):Am.get bs (s.words.length+s.w4a.length+j)=bOf s bs (43::x):=by
 have hkl:=w4F s
 rw[←hje, ←y8j hj,x5k hs hb.len (by omega)]
theorem y8m(hs:x0p s)(hb:x9M s bs){R:List IT}{f:w3T}(hwf:WfF f){bd:List Bs}(hbd:∀x∈bd,x∈qs s.form){i:Nat}{e1:Int}(hR:Am.get R i=⟨f.kind,f.name,f.words,f.words.map (fun x=>decide (x∈bd)),e1⟩)(out:List IT):
 Evt (fun n=>w4K (w5d n R (out,(i:Int)) s (vns s++qs s.form) bs) n ([],0)) (ExP (fun t=>t=f.words.map (iwd s bs bd)) (fun _=>False)):=by
 have hvl:=x0o s
 have hsl:=hs.len
 have hkl:=w4F s
 have hw3:=x6r hwf
 have hnl:=x7u s
 have hbl:=hb.len
 refine Evt.x1P f.words.length (fun k t=>t=((f.words.take k).map (iwd s bs bd),(k:Int))) (fun t=>t=f.words.map (iwd s bs bd)) (fun _=>False) (by simp) (fun k t hk ht=>?_) (fun t ht=>?_)
 ·subst ht
  have hsn:(f.words.take (k+1)).map (iwd s bs bd)=(f.words.take k).map (iwd s bs bd)++[iwd s bs bd (Am.get f.words k)]:=by rw[w4C hk,List.map_append];rfl
  have hwk:wr .i64 ((k:Int)+1)=((k+1:Nat):Int):=by rw[w5h (by omega) (by omega)];rfl
  unfold w5d
  simp only[Int.toNat_natCast,hR]
  refine Evt.cond (fun _=>Evt.chk (by omega) (Evt.chk (by rw[List.length_map];omega) ?_)) (fun e=>by replace e:=bx e;omega)
  rw[get_map _ hk]
  by_cases hm:Am.get f.words k∈bd
  ·rw[decide_eq_true hm]
   refine Evt.cond (fun _=>?_) (fun e=>by cases e)
   simp only[z4l hs,Int.toNat_natCast,y5i]
   refine Evt.chk (by omega) ?_
   have hql:(qs s.form).length≤200:=by rw[x6q];have:=x7P s.form;have:=hs.form.2.1;omega
   refine Evt.bind (x1m (qs s.form) (Am.get f.words k) (by omega)) fun v hv=>?_
   rcases hv with⟨hn,_⟩|⟨j,hj,hje,_,rfl⟩
   ·exact absurd (hbd _ hm) hn
   ·have hw:wr .i64 (((s.words.length+s.w4a.length+s.parts.length:Nat):Int)+(j:Int))=((s.words.length+s.w4a.length+s.parts.length+j:Nat):Int):=by rw[w5h (by omega) (by omega)];omega
    simp only[hw,Int.toNat_natCast,z7d hs hb hj hje]
    refine Evt.chk (by omega) (Evt.w6m (Evt.chk ?_ (Evt.pure ?_)))
    ·rw[w6d];simp only[List.length_append,List.length_map,List.length_take,List.length_cons,List.length_nil];omega
    ·show(_,_)=(_,_)
     rw[hsn,hwk];unfold iwd;rw[if_pos hm]
  ·rw[decide_eq_false hm]
   refine Evt.cond (fun e=>by cases e) (fun _=>?_)
   refine Evt.bind (x1m s.words (Am.get f.words k) (by omega)) fun v hv=>?_
   refine Evt.cond (fun e=>?_) (fun e=>?_)
   ·replace e:=bx e
    have hmw:Am.get f.words k∈s.words:=hv.mem.1 e
    refine Evt.bind (x1m s.words (Am.get f.words k) (by omega)) fun v2 hv2=>?_
    rcases hv2 with⟨hn,_⟩|⟨j,hj,hje,_,rfl⟩
    ·exact absurd hmw hn
    ·simp only[Int.toNat_natCast,z8q hs hb hj hje]
     refine Evt.chk (by omega) (Evt.w6m (Evt.chk ?_ (Evt.pure ?_)))
     ·rw[w6d];simp only[List.length_append,List.length_map,List.length_take,List.length_cons,List.length_nil];omega
     ·show(_,_)=(_,_)
      rw[hsn,hwk];unfold iwd;rw[if_neg hm,if_pos hmw]
   ·replace e:=bx e
    have hmw:Am.get f.words k∉s.words:=fun hm=>by have:=hv.mem.2 hm;omega
    refine Evt.w6m (Evt.chk ?_ (Evt.pure ?_))
    ·rw[w6d];simp only[List.length_append,List.length_map,List.length_take,List.length_cons,List.length_nil];omega
    ·show(_,_)=(_,_)
     rw[hsn,hwk];unfold iwd;rw[if_neg hm,if_neg hmw]
 ·subst ht
  unfold w5d
  simp only[Int.toNat_natCast,hR]
  refine Evt.cond (fun e=>by replace e:=bx e;omega) (fun _=>Evt.pure ?_)
  show(f.words.take f.words.length).map _=_
  rw[List.take_length]
theorem y9S(hs:x0p s)(hb:x9M s bs){f:w3T}(hwf:WfF f){bd:List Bs}(hbd:∀x∈bd,x∈qs s.form)(hqf:∀x∈qs f,x∈qs s.form){R:List IT}(hRl:R.length≤1000){i:Nat}(hS:x1Z R f bd i)(hpart:¬x1c s f){out:List IT}(ho:out.length≤1000000):
 Evt (fun n=>w4j n R s bs (vns s++qs s.form) (out,(i:Int))) (fun c=>c= .nxt (out++[⟨f.kind,inm s bs f,f.words.map (iwd s bs bd),[],0⟩],((i+1:Nat):Int))):=by
 have hvl:=x0o s
 have hsl:=hs.len
 have hkl:=w4F s
 have hnl:=x7u s
 have hbl:=hb.len
 have hql:(qs s.form).length≤200:=by rw[x6q];have:=x7P s.form;have:=hs.form.2.1;omega
 obtain⟨hi,hit,_⟩:=(x7q R f bd i).1 hS
 have j5:∀nm:Bs,nm=inm s bs f→Evt (fun n=>w4I n R (out,(i:Int)) s (vns s++qs s.form) bs nm) (fun c=>c= .nxt (out++[⟨f.kind,inm s bs f,f.words.map (iwd s bs bd),[],0⟩],((i+1:Nat):Int))):=fun nm hnm=>by
  subst hnm
  unfold w4I
  refine Evt.w4h (y8m hs hb hwf hbd hit out) (fun t ht=>?_) (fun r hr=>hr.elim)
  have ht:t=_:=ht
  subst ht
  unfold w6M
  simp only[Int.toNat_natCast,hit]
  refine Evt.w6m (Evt.chk ?_ (Evt.pure ?_))
  ·rw[w6d];simp only[List.length_append,List.length_cons,List.length_nil];omega
  ·rw[w5h (by omega) (by omega)];rfl
 unfold w4j
 simp only[Int.toNat_natCast,hit,nwp hs,z4m hs,y5i]
 refine Evt.cond (fun _=>Evt.chk (by omega) ?_) (fun e=>by replace e:=bx e;omega)
 refine Evt.bind (P:=fun v=>(f.kind=2∧f.words.length=0)→¬0≤v) (Evt.gd (fun _=>(x1m s.parts f.name (by omega)).mono fun v hv hh h0=>hpart ⟨hh,hv.mem.1 h0⟩) (fun hh h1=>by simp[h1.1,h1.2]at hh)) fun v0 hv0=>?_
 refine Evt.cond (fun e=>?_) (fun _=>?_)
 ·exfalso
  replace e:=bx e
  exact hv0 ⟨e.1.1,by omega⟩ e.2
 refine Evt.cond (fun e=>?_) (fun e=>?_)
 ·replace e:=bx e
  have hq:QK f.kind:=e
  have hm:f.name∈qs s.form:=hqf _ (by rw[y3G,if_pos hq];simp)
  refine Evt.chk (by omega) (Evt.bind (x1m (qs s.form) f.name (by omega)) fun v hv=>?_)
  rcases hv with⟨hn,_⟩|⟨j,hj,hje,_,rfl⟩
  ·exact absurd hm hn
  ·have hw:wr .i64 (((s.words.length+s.w4a.length+s.parts.length:Nat):Int)+(j:Int))=((s.words.length+s.w4a.length+s.parts.length+j:Nat):Int):=by rw[w5h (by omega) (by omega)];omega
   simp only[hw,Int.toNat_natCast,z7d hs hb hj hje]
   exact Evt.chk (by omega) (j5 _ (by unfold inm;rw[if_pos hq]))
 ·replace e:=bx e
  have hq:¬QK f.kind:=fun hh=>by unfold QK at hh;omega
  refine Evt.bind (P:=fun v=>f.kind=2→y0z s.w4a f.name v) (Evt.gd (fun _=>(x1m s.w4a f.name (by omega)).mono fun v hv _=>hv) (fun hh h1=>by simp[h1]at hh)) fun v hv=>?_
  refine Evt.cond (fun e=>?_) (fun e=>?_)
  ·replace e:=bx e
   have hm:f.name∈s.w4a:=(hv e.1).mem.1 e.2
   refine Evt.bind (x1m s.w4a f.name (by omega)) fun v2 hv2=>?_
   rcases hv2 with⟨hn,_⟩|⟨j,hj,hje,_,rfl⟩
   ·exact absurd hm hn
   ·have hw:wr .i64 ((s.words.length:Int)+(j:Int))=((s.words.length+j:Nat):Int):=by rw[w5h (by omega) (by omega)];omega
    simp only[hw,Int.toNat_natCast,z8r hs hb hj hje]
    exact Evt.chk (by omega) (j5 _ (by unfold inm;rw[if_neg hq,if_pos ⟨e.1,hm⟩]))
  ·have hnp:¬(f.kind=2∧f.name∈s.w4a):=fun hh=>by
    have h0:=(hv hh.1).mem.2 hh.2
    simp[hh.1,h0]at e
   exact j5 _ (by unfold inm;rw[if_neg hq,if_neg hnp])
theorem y9T(hs:x0p s)(hb:x9M s bs){f:w3T}{bd:List Bs}{R:List IT}(hRl:R.length≤1000){i:Nat}(hS:x1Z R f bd i)(hpart:x1c s f){out:List IT}(ho:out.length≤1000000):
 Evt (fun n=>w4j n R s bs (vns s++qs s.form) (out,(i:Int))) (fun c=>c= .nxt (out++w9x (bOf s bs (43::f.name)).form [] 0,((i+1:Nat):Int))):=by
 have hvl:=x0o s
 have hsl:=hs.len
 have hkl:=w4F s
 have hbl:=hb.len
 obtain⟨hi,hit,_⟩:=(x7q R f bd i).1 hS
 have hpm:=hpart.2
 have hok:=x9N hs hb hpm
 have hnd:=hok.2.1
 have hrl:(w9x (bOf s bs (43::f.name)).form [] 0).length=ndF (bOf s bs (43::f.name)).form:=w9V _ _ _
 obtain⟨⟨hk2,hw0⟩,_⟩:=hpart
 unfold w4j
 simp only[Int.toNat_natCast,hit,nwp hs]
 refine Evt.cond (fun _=>Evt.chk (by omega) ?_) (fun e=>by replace e:=bx e;omega)
 refine Evt.bind (P:=fun v=>0≤v) (Evt.gd (fun _=>(x1m s.parts f.name (by omega)).mono fun v hv=>hv.mem.2 hpm) (fun hh=>by simp[hk2,hw0]at hh)) fun v0 hv0=>?_
 refine Evt.cond (fun _=>?_) (fun e=>by simp[hk2,hw0,hv0]at e)
 refine Evt.bind (x1m s.parts f.name (by omega)) fun v hv=>?_
 rcases hv with⟨hn,_⟩|⟨q,hq,hqe,_,rfl⟩
 ·exact absurd hpm hn
 have hw:wr .i64 (((s.words.length+s.w4a.length:Nat):Int)+(q:Int))=((s.words.length+s.w4a.length+q:Nat):Int):=by rw[w5h (by omega) (by omega)];omega
 simp only[hw,Int.toNat_natCast,z8s hs hb hq hqe]
 refine Evt.chk (by omega) (Evt.bind (x8F hok.1 [] (by omega) (by simp)) fun v8 hv8=>?_)
 subst hv8
 refine Evt.w4h (Evt.x1P (w9x (bOf s bs (43::f.name)).form [] 0).length (fun k t=>t=(out++(w9x (bOf s bs (43::f.name)).form [] 0).take k,(k:Int))) (fun t=>t=out++w9x (bOf s bs (43::f.name)).form [] 0) (fun _=>False) (by simp) (fun k t hk ht=>?_) (fun t ht=>?_)) (fun t ht=>?_) (fun r hr=>hr.elim)
 ·subst ht
  unfold w5J
  simp only[Int.toNat_natCast]
  refine Evt.cond (fun _=>Evt.chk (by omega) (Evt.w6m (Evt.chk ?_ (Evt.pure ?_)))) (fun e=>by replace e:=bx e;omega)
  ·rw[w6d];simp only[List.length_append,List.length_take,List.length_cons,List.length_nil];omega
  ·show(_,_)=(_,_)
   rw[w4C hk,List.append_assoc,w5h (by omega) (by omega)];rfl
 ·subst ht
  unfold w5J
  refine Evt.cond (fun e=>by replace e:=bx e;omega) (fun _=>Evt.pure ?_)
  show out++(w9x (bOf s bs (43::f.name)).form [] 0).take (w9x (bOf s bs (43::f.name)).form [] 0).length=_
  rw[List.take_length]
 ·have ht:t=_:=ht
  subst ht
  unfold w6N
  refine Evt.pure ?_
  show Ctl.nxt (_,wr .i64 ((i:Int)+1))=_
  rw[w5h (by omega) (by omega)];rfl
theorem y8n(hs:x0p s)(hb:x9M s bs){R:List IT}(hRl:R.length≤1000):∀(m:Nat) (f:w3T),SizeOf.sizeOf f≤m→WfF f→(∀x∈qs f,x∈qs s.form)→∀(bd:List Bs),(∀x∈bd,x∈qs s.form)→∀i:Nat,x1Z R f bd i→∀out:List IT,out.length+200*ndF f≤1000000→
 x1N (fun n=>w4j n R s bs (vns s++qs s.form)) (out,(i:Int)) (out++y9Q s bs f bd,((i+ndF f:Nat):Int)):=by
 intro m
 induction m with
 |zero=>intro f h;cases f;simp only[w3T.mk.sizeOf_spec]at h;omega
 |succ m ih=>
  intro f hf hwf hqf bd hbd i hS out ho
  have hnf:=x1r ((x1W f).1 hwf).1
  have z8t:=x3y f
  rw[z1V]
  by_cases hpart:x1c s f
  ·rw[if_pos hpart]
   have hk:f.kind=2:=hpart.1.1
   have hsub:f.subs=[]:=List.length_eq_zero_iff.1 (by have:=hnf.1;rw[hk]at this;have e:arF 2=0:=(by decide);omega)
   have z8u:ndF f=1:=by rw[z8t,hsub,w6H]
   rw[z8u]
   exact x1N.one (y9T hs hb hRl hS hpart (by omega))
  ·rw[if_neg hpart]
   have hstep:=x1N.one (body:=fun n=>w4j n R s bs (vns s++qs s.form)) (y9S hs hb hwf hbd hqf hRl hS hpart (out:=out) (by omega))
   have z6q:∀x∈(if QK f.kind then f.name::bd else bd),x∈qs s.form:=fun x hx=>by
    by_cases hq:QK f.kind
    ·rw[if_pos hq]at hx
     rcases List.mem_cons.1 hx with rfl|hx
     ·exact hqf _ (by rw[y3G,if_pos hq];simp)
     ·exact hbd x hx
    ·rw[if_neg hq]at hx;exact hbd x hx
   have hqs:∀x∈qsL f.subs,x∈qs s.form:=fun x hx=>hqf x (by rw[y3G];exact List.mem_append.2 (.inr hx))
   have parts:∀(l:List w3T),(∀y∈l,SizeOf.sizeOf y≤m∧WfF y)→(∀x∈qsL l,x∈qs s.form)→∀(bd:List Bs),(∀x∈bd,x∈qs s.form)→∀i:Nat,w9g R l bd i→∀out:List IT,out.length+200*w6H l≤1000000→
    x1N (fun n=>w4j n R s bs (vns s++qs s.form)) (out,(i:Int)) (out++y1t s bs l bd,((i+w6H l:Nat):Int)):=by
    intro l
    induction l with
    |nil=>
     intro _ _ bd _ i _ out _
     rw[y1t,w6H,List.append_nil]
     exact x1N.refl
    |cons a l ihl=>
     intro ha hq bd hbd i hS out ho
     rw[w9g]at hS
     rw[qsL]at hq
     rw[w6H]at ho
     rw[y1t,w6H, ←Nat.add_assoc, ←List.append_assoc]
     have hal:=y9R hs hb a bd
     have c1:=ih a (ha a (List.mem_cons_self ..)).1 (ha a (List.mem_cons_self ..)).2 (fun x hx=>hq x (List.mem_append.2 (.inl hx))) bd hbd i hS.1 out (by omega)
     exact c1.trans (ihl (fun y hy=>ha y (List.mem_cons_of_mem _ hy)) (fun x hx=>hq x (List.mem_append.2 (.inr hx))) bd hbd _ hS.2 _ (by rw[List.length_append];omega))
   obtain⟨_,_,hSL⟩:=(x7q R f bd i).1 hS
   have k1:=parts f.subs (fun y hy=>by
    obtain⟨j,hj,rfl⟩:=w6G.1 hy
    have:=w6s hj
    exact⟨by omega,x5j hwf hj⟩) hqs _ z6q (i+1) hSL (out++[⟨f.kind,inm s bs f,f.words.map (iwd s bs bd),[],0⟩]) (by rw[List.length_append,List.length_singleton];omega)
   have h2:=hstep.trans k1
   rw[List.append_assoc,List.singleton_append,show i+1+w6H f.subs=i+ndF f by omega]at h2
   exact h2
theorem y4c(hs:x0p s)(hb:x9M s bs)(ht:z1Q s bs):Evt (fun n=>w6B n s (vns s++qs s.form) bs) (fun r=>r.length=ndF (x0H s bs s.form [])∧y8x r (x0H s bs s.form []) 0):=by
 have hnd:=hs.form.2.1
 have hrl:(w9x s.form [] 0).length=ndF s.form:=w9V _ _ _
 have hin:=x7s hs hb s.form []
 unfold w6B
 refine Evt.bind (x8F hs.form.1 [] (by omega) (by simp)) fun v1 hv1=>?_
 subst hv1
 have h1:=y8n hs hb (R:=w9x s.form [] 0) (by omega) _ s.form (Nat.le_refl _) hs.form.1 (fun x hx=>hx) [] (fun x hx=>by cases hx) 0 (x5B s.form []) [] (by simp only[List.length_nil];omega)
 rw[List.nil_append,Nat.zero_add]at h1
 have h2:x6b (fun n=>w4j n (w9x s.form [] 0) s bs (vns s++qs s.form)) (y9Q s bs s.form [],((ndF s.form:Nat):Int)) (.nxt (y9Q s bs s.form [])):=x6b.brk (by
  unfold w4j
  exact Evt.cond (fun e=>by replace e:=bx e;omega) (fun _=>Evt.pure rfl))
 refine Evt.w4h (h1.ends h2).evt (fun t ht=>?_) (fun r hr=>by cases hr)
 cases ht
 unfold w6O
 refine Evt.bind (y9P (x8J hs hb ht s.form [] hs.form.1 (fun x hx=>hx) (fun x hx=>by cases hx)) (by omega) (y4b s bs s.form [])) fun v hv=>Evt.pure hv
end
theorem y2P{s:w3W}(hs:x0p s){bs:List w3V}(hbt:∀b∈bs,b.text.length≤1048576):Evt (fun n=>w5t n s (vns s++qs s.form) bs) (fun r=>(bs.length≠(w6h s).length→r=⟨9, -2⟩)∧(bs.length=(w6h s).length→(∀j,j<bs.length→w7X s bs j=0)→r=⟨0,0⟩)∧(bs.length=(w6h s).length→¬(∀j,j<bs.length→w7X s bs j=0)→FB (w7X s bs) bs.length r)):=by
 have hvl:=x0o s
 have hsl:=hs.len
 have hkl:=w4F s
 have hk5:=x3B hs
 have hnl:=x7u s
 unfold w5t
 refine Evt.cond (fun e=>?_) (fun e=>?_)
 ·replace e:=bx e
  exact Evt.pure ⟨fun _=>rfl,fun h=>absurd h (by omega),fun h=>absurd h (by omega)⟩
 replace e:=bx e
 have hlen:bs.length=(w6h s).length:=by omega
 refine Evt.w4h (Evt.x1P bs.length (fun k t=>t=(k:Int)∧∀j,j<k→w7X s bs j=0) (fun _=>∀j,j<bs.length→w7X s bs j=0) (fun r=>FB (w7X s bs) bs.length r) ⟨rfl,fun j hj=>absurd hj (Nat.not_lt_zero _)⟩ (fun k t hk ht=>?_) (fun t ht=>?_)) (fun t ht=>?_) (fun r hr=>?_)
 ·obtain⟨rfl,hi⟩:=ht
  have bad:∀c:Int,c≠0→w7X s bs k=c→y3C (fun t:Int=>t=((k+1:Nat):Int)∧∀j,j<k+1→w7X s bs j=0) (fun _:Unit=>∀j,j<bs.length→w7X s bs j=0) (fun r=>FB (w7X s bs) bs.length r) (Ctl.ret (⟨c,(k:Int)⟩:w4b)):=fun c hc h=>⟨k,hk,hi,by rw[h];exact hc,by rw[h]⟩
  have good:w7X s bs k=0→y3C (fun t:Int=>t=((k+1:Nat):Int)∧∀j,j<k+1→w7X s bs j=0) (fun _:Unit=>∀j,j<bs.length→w7X s bs j=0) (fun r=>FB (w7X s bs) bs.length r) (Ctl.nxt (wr .i64 ((k:Int)+1))):=fun h=>⟨by rw[w5h (by omega) (by omega)];rfl,fun j hj=>by
   by_cases ej:j=k
   ·subst ej;exact h
   ·exact hi j (by omega)⟩
  unfold w4Z
  simp only[nwp hs,z4m hs,Int.toNat_natCast]
  refine Evt.cond (fun _=>Evt.chk (by omega) (Evt.chk (by omega) (Evt.cond (fun e=>Evt.pure (bad 10 (by decide) ?_)) (fun e=>?_)))) (fun e=>by replace e:=bx e;omega)
  ·replace e:=bx e
   unfold w7X;rw[if_pos e]
  replace e:=bx e
  have n1:¬(Am.get bs k).name≠Am.get (vns s++qs s.form) k:=fun h=>h e
  have htl:(Am.get bs k).text.length≤1048576:=hbt _ (get_mem hk)
  by_cases hpt:x9O s k
  ·have hp1:(bif decide (((s.words.length+s.w4a.length:Nat):Int)≤(k:Int))then decide ((k:Int)<((s.words.length+s.w4a.length+s.parts.length:Nat):Int))else false)=true:=by
    obtain⟨a,b⟩:=hpt
    rw[decide_eq_true (show((s.words.length+s.w4a.length:Nat):Int)≤(k:Int)by omega),cond_true,decide_eq_true_iff];omega
   rw[hp1]
   refine Evt.cond (fun _=>Evt.cond (fun e2=>Evt.pure (bad 5 (by decide) ?_)) (fun e2=>?_)) (fun e=>by cases e)
   ·have htx:(Am.get bs k).text≠ []:=by simpa using e2
    unfold w7X;rw[if_neg n1,if_pos hpt,if_pos htx]
   ·have htx:¬(Am.get bs k).text≠ []:=by simpa using e2
    have hst:w7X s bs k=(x4E (Am.get bs k).form).code:=by unfold w7X;rw[if_neg n1,if_pos hpt,if_neg htx]
    refine Evt.bind (x8l (Am.get bs k).form) fun w hw=>?_
    subst hw
    exact Evt.cond (fun e3=>Evt.pure (bad _ (by simpa using e3) hst)) (fun e3=>Evt.pure (good (hst.trans (by simpa using e3))))
  ·have hp1:(bif decide (((s.words.length+s.w4a.length:Nat):Int)≤(k:Int))then decide ((k:Int)<((s.words.length+s.w4a.length+s.parts.length:Nat):Int))else false)=false:=by
    by_cases a:s.words.length+s.w4a.length≤k
    ·rw[decide_eq_true (show((s.words.length+s.w4a.length:Nat):Int)≤(k:Int)by omega),cond_true,decide_eq_false_iff_not]
     exact fun h=>hpt ⟨a,by omega⟩
    ·rw[decide_eq_false (show ¬((s.words.length+s.w4a.length:Nat):Int)≤(k:Int)by omega),cond_false]
   rw[hp1]
   refine Evt.cond (fun e=>by cases e) (fun _=>?_)
   have hz:(bif (bif (bif (!decide ((Am.get bs k).form.kind=0))then true else(!decide ((Am.get bs k).form.name=[])))then true else decide (0<((Am.get bs k).form.words.length:Int)))then true else decide (0<((Am.get bs k).form.subs.length:Int)))=true↔ ¬y2N (Am.get bs k).form:=by
    unfold y2N
    by_cases a:(Am.get bs k).form.kind=0<;>by_cases b:(Am.get bs k).form.name=[]<;>simp[a,b]
    by_cases c:(Am.get bs k).form.words=[]<;>by_cases d:(Am.get bs k).form.subs=[]<;>simp[c,d,List.length_pos_iff]
   generalize hZ:(bif (bif (bif (!decide ((Am.get bs k).form.kind=0))then true else(!decide ((Am.get bs k).form.name=[])))then true else decide (0<((Am.get bs k).form.words.length:Int)))then true else decide (0<((Am.get bs k).form.subs.length:Int)))=Z at hz
   refine Evt.bind (P:=fun v=>Z=false→v=x7j (Am.get bs k).text) (Evt.gd (fun _=>(x8m (by omega)).mono fun b hb _=>hb) (fun g h=>by rw[h]at g;simp at g)) fun v15 hv15=>?_
   by_cases hok:y2N (Am.get bs k).form∧w4J (Am.get bs k).text
   ·have hZ1:Z=false:=by
     cases Z
     ·rfl
     ·exact absurd hok.1 (hz.1 rfl)
    subst hZ1
    have hv1:v15=true:=(hv15 rfl).trans (x4C hok.2)
    subst hv1
    refine Evt.cond (fun e3=>by cases e3) (fun _=>Evt.pure (good ?_))
    unfold w7X;rw[if_neg n1,if_neg hpt,if_pos hok]
   ·refine Evt.cond (fun _=>Evt.pure (bad 5 (by decide) (by unfold w7X;rw[if_neg n1,if_neg hpt,if_neg hok]))) (fun e3=>?_)
    exfalso
    cases Z
    ·have h2:v15=false:=(hv15 rfl).trans (w9U fun hn=>hok ⟨Classical.byContradiction fun h=>(by cases hz.2 h),hn⟩)
     rw[h2]at e3
     cases e3
    ·cases e3
 ·obtain⟨rfl,hi⟩:=ht
  unfold w4Z
  exact Evt.cond (fun e=>by replace e:=bx e;omega) (fun _=>Evt.pure hi)
 ·unfold w5F
  exact Evt.pure ⟨fun h=>absurd hlen h,fun _ _=>rfl,fun _ h=>absurd ht h⟩
 ·exact⟨fun h=>absurd hlen h,fun _ h=>(by obtain⟨k,hk,_,h3,_⟩:=hr;exact absurd (h k hk) h3),fun _ _=>hr⟩
theorem z4p:SmF zf:=by
 show SmF (w3T.mk 0 [] [] [])
 rw[SmF]
 exact⟨Nat.zero_le _,Nat.zero_le _,by rw[y0A];trivial⟩
theorem y5U:Evt (fun n=>w5c n zf) (fun b=>b=true):=by
 unfold w5c
 exact Evt.bind (x7p _ zf (Nat.le_refl _) z4p) fun v hv=>Evt.pure hv
theorem y3E{s:w3W}(hb:SB s){bs:List w3V}(hbt:∀b∈bs,b.text.length≤1048576):Evt (fun n=>w4v n s bs) (fun b=>b=true):=by
 unfold w4v
 refine Evt.bind x6G fun v hv=>?_
 subst hv
 refine Evt.cond (fun e=>by cases e) (fun _=>?_)
 refine Evt.bind (y4a hb bs) fun v2 ⟨w,hw,a1,a2,a3,a4⟩=>Evt.bind (x9Z hb) fun v3 hv3=>?_
 obtain rfl:=hw.uniq hv3
 have nof:∀(f:w4b) (v:w3T×w4b),v=(zf,f)→Evt (fun n=>(gd (decide (v.2.code=f.code)&&(decide (v.2.index=f.index))) (w5c n v.1) default).bind fun v4=>some (bif (decide (v.2.code=f.code)&&(decide (v.2.index=f.index)))then v4 else false)) (fun b=>b=true):=fun f v hv=>by
  subst hv
  simp only[decide_true,Bool.and_self]
  refine Evt.bind (P:=fun v=>v=true) (Evt.gd (fun _=>y5U) (fun g=>by cases g)) fun v hv=>Evt.pure ?_
  rw[hv];rfl
 refine Evt.cond (fun e=>?_) (fun e=>?_)
 ·have h0:w.code≠0:=by simpa using e
  exact nof w v2 (a1 h0)
 have h0:w.code=0:=by simpa using e
 have hs:=((hv3.code h0).1).good
 refine Evt.bind (y0c hs) fun v5 hv5=>?_
 subst hv5
 refine Evt.bind (y2P hs hbt) fun v6 ⟨b1,b2,b3⟩=>?_
 by_cases hlen:bs.length=(w6h s).length
 ·by_cases hall:∀j,j<bs.length→w7X s bs j=0
  ·have h6:=b2 hlen hall
   subst h6
   refine Evt.cond (fun e=>by simp at e) (fun _=>?_)
   obtain⟨hbn,hbx⟩:=y8l hlen hall
   have hwf:=x8J hs hbn hbx s.form [] hs.form.1 (fun x hx=>hx) (fun x hx=>by cases hx)
   have hin:=x7s hs hbn s.form []
   have hnd:=hs.form.2.1
   obtain⟨c1,c2⟩:=a4 h0 hlen hall
   refine Evt.bind (y4c hs hbn hbx) fun v8 ⟨hl8,hr8⟩=>?_
   refine Evt.bind (P:=fun v=>¬200<v8.length→v=((dpF (x0H s bs s.form []):Nat):Int)) (Evt.gd (fun g=>(y9O (by omega) _ _ (Nat.le_refl _) hwf (by omega) 0 hr8).mono fun v hv _=>hv) (fun g h=>?_)) fun v9 hv9=>?_
   ·have:¬(200:Int)<(v8.length:Int):=by omega
    simp[this]at g
   by_cases hf:fits 0 1 (x0H s bs s.form [])=true
   ·have hf2:=of_decide_eq_true hf
    have h9:=hv9 (by omega)
    subst h9
    have hok:OkF (x0H s bs s.form []):=⟨hwf,by omega,by omega⟩
    have hcf:=z6o hok
    have h2:=c2 hf
    subst h2
    refine Evt.cond (fun e=>?_) (fun _=>?_)
    ·exfalso
     have h1:¬(200:Int)<(v8.length:Int):=by omega
     have h3:¬(40:Int)<((dpF (x0H s bs s.form []):Nat):Int):=by omega
     simp[h1]at e
     omega
    ·refine Evt.bind (P:=fun v=>v=x0H s bs s.form []) (Evt.gd (fun _=>y5T (by omega) _ _ (Nat.le_refl _) hwf 0 hr8) (fun g=>by simp at g)) fun v11 hv11=>?_
     subst hv11
     refine Evt.bind (P:=fun v=>v=cf (x0H s bs s.form [])) (Evt.gd (fun _=>y2E hok) (fun g=>by simp at g)) fun v12 hv12=>?_
     subst hv12
     refine Evt.bind (P:=fun v=>v=true) (Evt.gd (fun _=>x7p _ _ (Nat.le_refl _) (WfF.sm _ hcf.1)) (fun g=>by simp at g)) fun v13 hv13=>Evt.pure ?_
     rw[hv13];rfl
   ·have hf1:fits 0 1 (x0H s bs s.form [])=false:=by simpa using hf
    have hf2:=of_decide_eq_false hf1
    refine Evt.cond (fun _=>nof ⟨1,0⟩ v2 (c1 hf1)) (fun e=>?_)
    exfalso
    by_cases h2:200<v8.length
    ·have:(200:Int)<(v8.length:Int):=by omega
     simp[this]at e
    ·have h9:=hv9 h2
     subst h9
     have h1:¬(200:Int)<(v8.length:Int):=by omega
     have h3:(40:Int)<((dpF (x0H s bs s.form []):Nat):Int):=by omega
     simp[h1]at e
     omega
  ·have h6:=b3 hlen hall
   have h2:=a3 h0 hlen v6 h6
   have hc:v6.code≠0:=by obtain⟨k,_,_,h,rfl⟩:=h6;exact h
   refine Evt.cond (fun _=>nof v6 v2 h2) (fun e=>?_)
   exact absurd (by simpa using e) hc
 ·have h6:=b1 hlen
  subst h6
  exact Evt.cond (fun _=>nof ⟨9, -2⟩ v2 (a2 h0 hlen)) (fun e=>by simp at e)
end Go.Proofs.YtdjnbjnlnjhllaaGreatDoor
