import Derived.Test.YtfacbpehlibilaaGreatDoorTALaw4
set_option linter.unusedVariables false
set_option linter.unusedSimpArgs false
namespace Go.Proofs.YtfacbpehlibilaaGreatDoor
open Go Go.Am
section
variable (h:Bs→Bs)
mutual
theorem p3W:∀f:Lr,ArF f→ArF (prF h f)
 | .mk k n w s,hf=>by
   rw[ArF]at hf
   rw[prF,ArF,i2Y,List.length_map, ←i2Y]
   exact⟨hf.1,hf.2.1,hf.2.2.1,p1h s hf.2.2.2⟩
theorem p1h:∀l:List Lr,d3Z l→d3Z (i1S h l)
 | [],_=>by rw[i1S,d3Z];trivial
 |f::l,hf=>by
  rw[d3Z]at hf
  rw[i1S,d3Z]
  exact⟨p3W f hf.1,p1h l hf.2⟩
end
end
section
variable {rs:List Wq}
theorem p1i:∀(l:List Lr) (c:Nat),(RPL rs l c).length=l.length
 | [],c=>by rw[RPL]
 |f::l,c=>by rw[RPL,List.length_cons,List.length_cons,p1i l]
mutual
theorem r0t(hr:∀r∈rs,i5X r):∀(f:Lr) (c:Nat),ArF f→ArF (RP rs f c)
 | .mk k n w s,c,hf=>by
   rw[RP]
   cases hm:i4M rs (.mk k n w s)with
   |some p=>exact ArF.ren _ _ _ _ (p3W _ _ (WfF.ar _ (hr _ (d9p hm).1).to.1))
   |none=>
    rw[ArF]at hf
    show ArF (.mk k n w (RPL rs s c))
    rw[ArF,p1i]
    exact⟨hf.1,hf.2.1,hf.2.2.1,p3X hr s c hf.2.2.2⟩
theorem p3X(hr:∀r∈rs,i5X r):∀(l:List Lr) (c:Nat),d3Z l→d3Z (RPL rs l c)
 | [],c,_=>by rw[RPL,d3Z];trivial
 |f::l,c,hf=>by
  rw[d3Z]at hf
  rw[RPL,d3Z]
  exact⟨r0t hr f c hf.1,p3X hr l _ hf.2⟩
end
end
structure AlF(a b:Lr):Prop where
 free:fre a []=fre b []
 p3d:nq a=nq b
 same:∀(M:Nat→Bs) (j:Nat),ren M a [] j=ren M b [] j
theorem AlF.symm{a b:Lr}(h:AlF a b):AlF b a:=⟨h.free.symm,h.p3d.symm,fun M j=>(h.same M j).symm⟩
theorem AlF.trans{a b c:Lr}(h:AlF a b)(h':AlF b c):AlF a c:=⟨h.free.trans h'.free,h.p3d.trans h'.p3d,fun M j=>(h.same M j).trans (h'.same M j)⟩
theorem AlF.cf{a b:Lr}(h:AlF a b):cf a=cf b:=by
 show ren (NN (fre a [])) a [] 0=ren (NN (fre b [])) b [] 0
 rw[h.free,h.same]
theorem AlF.phi{σ:Nat→Nat}(hσ:∀i j,σ i=σ j→i=j){z:Lr}(hz:∀x,fre z [] x→Xn x):AlF (d5v (phi σ) z) z where
 free:=i5U (p1f hσ) fun x hx=>i7A σ (hz x hx)
 p3d:=i5T _ z
 same:=fun M j=>i7k (p1f hσ) M z [] j fun x hx=>i7A σ (hz x hx)
def i8t:List Ws→Bs→Bs
 | [],x=>x
 |b::l,x=>if b.name=x then b.text else i8t l x
theorem i1T{l:List Ws}{x:Bs}:∀k,k≤l.length→(∀j,j<k→(Am.get l j).name≠x)→i8t l x=i8t (l.drop k) x:=by
 induction l with
 |nil=>intro k hk _;obtain rfl:k=0:=by simpa using hk
       rfl
 |cons b l ih=>
  intro k hk h
  cases k with
  |zero=>rfl
  |succ k=>
   rw[List.drop_succ_cons,i8t,if_neg (show ¬b.name=x from h 0 (by omega))]
   exact ih k (by simpa using hk) fun j hj=>h (j+1) (by omega)
theorem i3b(l:List Ws)(x:Bs):Evt (fun _=>Zw l x) (fun r=>r=i8t l x):=by
 unfold Zw
 refine Evt.WL (Evt.scan (fun k _=>∀j,j<k→(Am.get l j).name≠x) (fun k r=>(Am.get l k).name=x∧r=(Am.get l k).text) (fun j hj=>absurd hj (Nat.not_lt_zero _)) (fun k u hk hi=>?_)) (fun t ht=>?_) (fun r hr=>?_)
 ·unfold d1k
  refine Evt.cond (fun e=>Evt.pure ?_) (fun e=>Evt.pure ?_)
  ·replace e:=bx e
   exact⟨e,rfl⟩
  ·replace e:=bx e
   intro j hj
   by_cases ej:j=k
   ·subst ej;exact e
   ·exact hi j (by omega)
 ·unfold d1l
  refine Evt.pure ?_
  rw[i1T l.length (Nat.le_refl _) ht,List.drop_length]
  rfl
 ·obtain⟨k,_,hk,hi,e1,rfl⟩:=hr
  rw[i1T k (by omega) hi,List.drop_eq_getElem_cons hk,i8t]
  have e2:l[k]=Am.get l k:=by simp[Am.get,hk]
  rw[e2,if_pos e1]
structure i4A(r:Wq):Prop where
 good:d6s r.from_
 to:OkF r.to_
 root:¬Yi r.from_ r.from_.form
theorem d6s.p1j{s:Wu}(h:d6s s):s.parts.Nodup:=by
 have hn:(vns s).Nodup:=by
  rw[List.nodup_iff_pairwise_ne]
  rw[List.pairwise_iff_getElem]
  intro i j hi hj hij e
  refine h.uniq i j hij hj ?_
  simp only[Am.get,List.getD_eq_getElem?_getD,List.getElem?_eq_getElem hi,List.getElem?_eq_getElem hj,e]
 unfold vns at hn
 exact(List.nodup_append.1 hn).2.1
def p3e(m:List (Bs×List Bs)):Prop:=∀x l,assoc x m=some l→l.length≤100000
theorem p5x(p:Bs→Bool)(l:List Bs):(flt p l).length≤l.length:=List.length_filter_le _ _
theorem i8u(s:Wu):∀(b:Nat) (f:Lr),SizeOf.sizeOf f≤b→SmF f→∀(a1:List Bs) (m:List (Bs×List Bs)),a1.length+ndF f≤100000→p3e m→Evt (fun n=>Xo n f a1 s m) p3e:=by
 intro b
 induction b with
 |zero=>intro f h;cases f;simp only[Lr.mk.sizeOf_spec]at h;omega
 |succ b ih=>
  intro f hf hsm a1 m ha hm
  have hnd:=d4V f
  have hj1:∀(m1:List (Bs×List Bs)) (c:List Bs),p3e m1→c.length+Zr f.subs≤100000→Evt (fun n=>i1U (fun f a m=>Xo n f a s m) f m1 c) p3e:=fun m1 c h1 h2=>by
   unfold i1U
   refine Evt.WL (P:=ExP p3e (fun _=>False)) ((Evt.range (fun _ t=>p3e t) (fun _=>False) (fun _=>False) h1 (fun k t hk ht=>?_)).mono fun e he=>?_) (fun t ht=>Evt.pure ht) (fun _ h=>h.elim)
   ·have hsz:=XE hk
    have htk:=d0g hk
    unfold i4B
    exact Evt.bind (ih _ (by omega) (d7D hsm hk) c t (by omega) ht) fun v hv=>Evt.pure hv
   ·cases e with
    |ret r=>exact he
    |nxt t=>exact he.elim id False.elim
  have hj0:∀m1,p3e m1→Evt (fun n=>i0K (fun f a m=>Xo n f a s m) f a1 m1) p3e:=fun m1 h1=>by
   unfold i0K
   simp only[d1i,Option.bind_some,WS,List.isEmpty_nil,cond_true]
   refine Evt.cond (fun _=>Evt.Zo (Evt.chk ?_ (hj1 _ _ h1 ?_))) (fun _=>hj1 _ _ h1 (by omega))
   ·rw[Yl];simp only[List.length_append,List.length_cons,List.length_nil];omega
   ·simp only[List.length_append,List.length_cons,List.length_nil];omega
  refine Evt.succ ?_
  simp only[Xo]
  rw[d5V]
  simp only[Option.bind_some]
  refine Evt.cond (fun e=>?_) (fun _=>hj0 m hm)
  have hp:Yi s f:=of_decide_eq_true e
  have hl:((assoc f.name m).getD a1).length≤100000:=by
   cases h:assoc f.name m with
   |none=>rw[Option.getD_none];omega
   |some l=>exact hm _ _ h
  refine Evt.chk ⟨hp.2,by omega⟩ (hj0 _ fun x l hx=>?_)
  by_cases ex:x=f.name
  ·rw[ex,d2y]at hx
   cases hx
   have:=p5x (i3n a1) ((assoc f.name m).getD a1)
   omega
  ·rw[d4t ex]at hx
   exact hm _ _ hx
theorem p1k{s:Wu}(h:d6s s):Evt (fun n=>d2a n s) p3e:=by
 have:=h.form.2.1
 unfold d2a
 exact Evt.chk h.p1j (i8u s _ s.form (Nat.le_refl _) (WfF.sm _ h.form.1) [] [] (by simp;omega) (fun x l hx=>by cases hx))
theorem i5Y{r:Wq}(hr:i4A r):Evt (fun n=>d1A n r) (fun _=>True):=by
 have hfn:=hr.good.form.2.1
 have htn:=hr.to.2.1
 unfold d1A
 refine Evt.bind (p1k hr.good) fun v1 hv1=>Evt.bind (d5T _ _ (Nat.le_refl _) (by omega)) fun v2 hv2=>Evt.bind (P:=fun _=>True) ?_ fun v3 _=>Evt.pure trivial
 have key:∀(m:Nat) (f:Lr),SizeOf.sizeOf f≤m→SmF f→∀bd:List Bs,bd.length+ndF f≤100000→Evt (fun n=>Xd n f bd r.from_.form.kind r.from_.form.name r.from_.form.words r.from_.form.subs r.from_.words r.from_.WO r.from_.parts r.to_.kind r.to_.name r.to_.words r.to_.subs v1 v2) (fun _=>True):=by
  intro m
  induction m with
  |zero=>intro f h;cases f;simp only[Lr.mk.sizeOf_spec]at h;omega
  |succ m ih=>
   intro f hf hsm bd hbd
   have hnd:=d4V f
   have hj0:Evt (fun n=>YF (Xd n) v2 f bd r.from_.form.kind r.from_.form.name r.from_.form.words r.from_.form.subs r.from_.words r.from_.WO r.from_.parts r.to_.kind r.to_.name r.to_.words r.to_.subs v1 ()) (fun _=>True):=by
    unfold YF
    refine Evt.WL (P:=ExP (fun _=>True) (fun _=>True)) ((Evt.range (fun _ _=>True) (fun _=>False) (fun _=>True) trivial (fun k s hk _=>?_)).mono fun e he=>?_) (fun t _=>?_) (fun _ _=>trivial)
    ·unfold d0K
     rw[Xl,Xl]
     simp only[Option.bind_some]
     refine Evt.bind (P:=fun _=>True) (Evt.gd (fun _=>Evt.pure trivial) (fun _=>trivial)) fun v _=>Evt.cond (fun _=>Evt.pure trivial) (fun _=>Evt.pure trivial)
    ·cases e with
     |ret r=>trivial
     |nxt t=>trivial
    ·have rest:∀bd':List Bs,bd'.length≤bd.length+1→Evt (fun n=>YG (Xd n) f r.from_.form.kind r.from_.form.name r.from_.form.words r.from_.form.subs r.from_.words r.from_.WO r.from_.parts r.to_.kind r.to_.name r.to_.words r.to_.subs v1 v2 bd') (fun _=>True):=fun bd' hb=>by
      unfold YG XC XV
      refine Evt.bind (P:=fun _=>True) (Evt.bind (P:=fun _=>True) ?_ fun _ _=>Evt.pure trivial) fun _ _=>Evt.pure trivial
      refine Evt.WL (P:=ExP (fun _=>True) (fun _=>True)) ((Evt.range (fun _ _=>True) (fun _=>False) (fun _=>True) trivial (fun k s hk _=>?_)).mono fun e he=>?_) (fun t _=>Evt.pure trivial) (fun _ h=>trivial)
      ·have hsz:=XE hk
       have htk:=d0g hk
       unfold XD d1G
       refine Evt.bind (P:=fun _=>True) (Evt.bind (ih _ (by omega) (d7D hsm hk) bd' (by omega)) fun v _=>Evt.pure trivial) fun v _=>Evt.cond (fun _=>Evt.pure trivial) (fun _=>Evt.pure trivial)
      ·cases e with
       |ret r=>trivial
       |nxt t=>trivial
     unfold d0L
     simp only[d1i,Option.bind_some,WS,List.isEmpty_nil,cond_true]
     refine Evt.cond (fun _=>Evt.Zo (Evt.chk ?_ (rest _ (by simp)))) (fun _=>rest _ (by omega))
     rw[Yl];simp only[List.length_append,List.length_cons,List.length_nil];omega
   refine Evt.succ ?_
   simp only[Xd]
   show Evt (fun n=>(Xz r.from_ f).bind _) _
   rw[d5V]
   simp only[Option.bind_some]
   refine Evt.cond (fun _=>?_) (fun _=>hj0)
   refine Evt.WL (P:=ExP (fun _=>True) (fun _=>True)) ((Evt.range (fun _ _=>True) (fun _=>False) (fun _=>True) trivial (fun k s hk _=>?_)).mono fun e he=>?_) (fun t _=>?_) (fun _ _=>trivial)
   ·unfold d0M
    rw[Xl]
    simp only[Option.bind_some]
    exact Evt.cond (fun _=>Evt.pure trivial) (fun _=>Evt.pure trivial)
   ·cases e with
    |ret r=>trivial
    |nxt t=>trivial
   ·unfold d0N
    exact hj0
 exact key _ r.to_ (Nat.le_refl _) (WfF.sm _ hr.to.1) [] (by simp;omega)
theorem i4C{rs:List Wq}(hb:∀r∈rs,SB r.from_):Evt (fun n=>d0Z n rs) (fun v=>v.code=0→rs.length≤40∧∀r∈rs,i4A r):=by
 unfold d0Z Xr
 refine Evt.cond (fun _=>Evt.pure fun e=>by cases e) (fun e=>?_)
 replace e:=bx e
 have hlen:rs.length≤40:=by omega
 refine Evt.WL (Evt.scan (fun k _=>∀j,j<k→i4A (Am.get rs j)) (fun _ r=>r.code≠0) (fun j hj=>absurd hj (Nat.not_lt_zero _)) (fun k s hk hi=>?_)) (fun t ht=>?_) (fun r hr=>?_)
 ·unfold d0O Xr
  have hm:=get_mem hk
  refine Evt.bind (i5F (hb _ hm)) fun v hv=>?_
  refine Evt.cond (fun e=>Evt.pure ?_) (fun e=>?_)
  ·show v.code≠0
   simpa using e
  have hs:=(hv.code (by simpa using e)).1
  rw[d5V]
  simp only[Option.bind_some]
  refine Evt.cond (fun _=>Evt.pure (by show(5:Int)≠0;decide)) (fun hp=>?_)
  have hp:=of_decide_eq_false hp
  refine Evt.bind (d1j _) fun v hv=>?_
  subst hv
  refine Evt.cond (fun e=>Evt.pure ?_) (fun e=>?_)
  ·show(d6I (Am.get rs k).to_).code≠0
   simpa using e
  have hto:OkF (Am.get rs k).to_:=(d3W _).1 (by simpa using e)
  have hR:i4A (Am.get rs k):=⟨hs.good,hto,hp⟩
  have hnt:=hto.2.1
  have hnq:=i0r (Am.get rs k).to_
  have hql:=i0q (Am.get rs k).to_
  refine Evt.bind (d5T _ _ (Nat.le_refl _) (by omega)) fun v hv=>?_
  subst hv
  refine Evt.WL (Evt.scan (fun i _=>True) (fun _ r=>∃z:WC,r= .ret z∧z.code≠0) trivial (fun i s hi hI=>?_)) (fun t ht=>?_) (fun r hr=>?_)
  ·unfold d0P Xr
   rw[Xl]
   simp only[Option.bind_some,Xl]
   exact Evt.chk (by omega) (Evt.bind (P:=fun _=>True) (Evt.gd (fun _=>Evt.pure trivial) (fun _=>trivial)) fun v36 _=>Evt.cond (fun _=>Evt.pure ⟨_,rfl,by show(7:Int)≠0;decide⟩) (fun e=>Evt.pure trivial))
  ·unfold d0Q Xr
   refine Evt.bind (i5Y hR) fun v _=>Evt.cond (fun _=>Evt.pure (by show(15:Int)≠0;decide)) (fun _=>Evt.pure fun j hj=>?_)
   by_cases ej:j=k
   ·subst ej
    exact hR
   ·exact hi j (by omega)
  ·obtain⟨_,_,_,_,z,rfl,hz⟩:=hr
   exact hz
 ·unfold d0R
  refine Evt.pure fun _=>⟨hlen,fun r hr=>?_⟩
  obtain⟨j,hj,rfl⟩:=d1g.1 hr
  exact ht j hj
 ·obtain⟨_,_,_,_,hz⟩:=hr
  exact fun e=>absurd e hz
mutual
def hits(fr:Bs)(a:Nat):Lr→Bs→List Bs
 | .mk k n w s,p=>if k=2∧n=fr∧w.length=a then [p]else p1l fr a s p 0
def p1l(fr:Bs)(a:Nat):List Lr→Bs→Nat→List Bs
 | [],_,_=>[]
 |f::l,p,i=>hits fr a f (p++Lib.decDigits i)++p1l fr a l p (i+1)
end
section
variable (fr:Bs) (a:Nat)
mutual
theorem p3f:∀(f:Lr) (p:Bs),(hits fr a f p).Sublist (d7f f p)
 | .mk k n w s,p=>by
   rw[hits,d7f]
   split
   ·exact(List.nil_sublist _).cons_cons p
   ·exact(i4D s p 0).cons p
theorem i4D:∀(l:List Lr) (p:Bs) (i:Nat),(p1l fr a l p i).Sublist (d1z l p i)
 | [],p,i=>by rw[p1l,d1z];exact List.nil_sublist _
 |f::l,p,i=>by rw[p1l,d1z];exact(p3f f _).append (i4D l p (i+1))
end
end
section
variable {fr to:Bs} {a:Nat}
end
mutual
def occ(s:Wu):Lr→Lr→Bs→List (Bs×Bs×Lr)
 | .mk k n w l,g,p=>if Yi s (.mk k n w l)then [(n,p,g)]else i3o s l g.subs p 0
def i3o(s:Wu):List Lr→List Lr→Bs→Nat→List (Bs×Bs×Lr)
 | [],_,_,_=>[]
 |f::l,gs,p,i=>match gs with
  | []=>[]
  |g::gs=>occ s f g (p++Lib.decDigits i)++i3o s l gs p (i+1)
end
theorem p8r(s:Wu)(f g:Lr)(p:Bs):occ s f g p=if Yi s f then [(f.name,p,g)]else i3o s f.subs g.subs p 0:=by cases f;rw[occ];rfl
mutual
def p1m(s:Wu):Lr→Bs→List (Bs×Bs)
 | .mk k n w l,p=>if Yi s (.mk k n w l)then [(n,p)]else d5r s l p 0
def d5r(s:Wu):List Lr→Bs→Nat→List (Bs×Bs)
 | [],_,_=>[]
 |f::l,p,i=>p1m s f (p++Lib.decDigits i)++d5r s l p (i+1)
end
theorem p1n(s:Wu)(f:Lr)(p:Bs):p1m s f p=if Yi s f then [(f.name,p)]else d5r s f.subs p 0:=by cases f;rw[p1m];rfl
theorem d6n{a b:Option (List Ws)}{ps:List Ws}(h:cat a b=some ps):∃x y,a=some x∧b=some y∧ps=x++y:=by
 unfold cat at h
 cases a with
 |none=>cases h
 |some x=>
  cases b with
  |none=>cases h
  |some y=>cases h;exact⟨x,y,rfl,rfl,rfl⟩
mutual
theorem p1o(s:Wu):∀(f g:Lr) (bd:List Bs) (p:Bs) (ps:List Ws),pts s f bd g=some ps→∀e∈occ s f g p,(⟨43::e.1,[],e.2.2⟩:Ws)∈ps
 | .mk k n w l,g,bd,p,ps,h,e,he=>by
   rw[pts]at h
   rw[occ]at he
   by_cases hp:Yi s (.mk k n w l)
   ·rw[if_pos hp]at h he
    cases h
    rw[List.mem_singleton]at he
    subst he
    exact List.mem_singleton.2 rfl
   ·rw[if_neg hp]at h he
    by_cases hk:k≠g.kind∨w.length≠g.words.length
    ·rw[if_pos hk]at h;cases h
    ·rw[if_neg hk]at h
     obtain⟨x,y,_,h2,rfl⟩:=d6n h
     obtain⟨x2,y2,_,h4,rfl⟩:=d6n h2
     exact List.mem_append_right _ (List.mem_append_right _ (i7B s l g.subs _ p 0 y2 h4 e he))
theorem i7B(s:Wu):∀(l gs:List Lr) (bd:List Bs) (p:Bs) (i:Nat) (ps:List Ws),d6m s l bd gs=some ps→∀e∈i3o s l gs p i,(⟨43::e.1,[],e.2.2⟩:Ws)∈ps
 | [],gs,bd,p,i,ps,_,e,he=>by rw[i3o]at he;cases he
 |f::l,[],bd,p,i,ps,_,e,he=>by rw[i3o]at he;cases he
 |f::l,g::gs,bd,p,i,ps,h,e,he=>by
  rw[d6m]at h
  rw[i3o]at he
  obtain⟨x,y,h1,h2,rfl⟩:=d6n h
  rcases List.mem_append.1 he with he|he
  ·exact List.mem_append_left _ (p1o s f g bd _ x h1 e he)
  ·exact List.mem_append_right _ (i7B s l gs bd p (i+1) y h2 e he)
end
mutual
theorem p1p(s:Wu):∀(f g:Lr) (p:Bs),((occ s f g p).flatMap fun e=>d7f e.2.2 e.2.1).Sublist (d7f g p)
 | .mk k n w l,g,p=>by
   rw[occ]
   by_cases hp:Yi s (.mk k n w l)
   ·rw[if_pos hp]
    simp
   ·rw[if_neg hp,i0F]
    exact(i3c s l g.subs p 0).cons p
theorem i3c(s:Wu):∀(l gs:List Lr) (p:Bs) (i:Nat),((i3o s l gs p i).flatMap fun e=>d7f e.2.2 e.2.1).Sublist (d1z gs p i)
 | [],gs,p,i=>by rw[i3o];exact List.nil_sublist _
 |f::l,[],p,i=>by rw[i3o];exact List.nil_sublist _
 |f::l,g::gs,p,i=>by
  rw[i3o,d1z,List.flatMap_append]
  exact(p1p s f g _).append (i3c s l gs p (i+1))
end
structure r2x(g:Lr)(p:Bs)(e:Bs×Bs×Lr):Prop where
 ar:ArF e.2.2
 size:SizeOf.sizeOf e.2.2≤SizeOf.sizeOf g
 len:e.2.1.length+ndF e.2.2≤p.length+ndF g
mutual
theorem p1q(s:Wu):∀(f g:Lr) (p:Bs),ArF g→∀e∈occ s f g p,r2x g p e
 | .mk k n w l,g,p,hg,e,he=>by
   rw[occ]at he
   by_cases hp:Yi s (.mk k n w l)
   ·rw[if_pos hp,List.mem_singleton]at he
    subst he
    exact⟨hg,Nat.le_refl _,Nat.le_refl _⟩
   ·rw[if_neg hp]at he
    obtain⟨h1,h2,h3⟩:=i5Z s l g.subs p 0 ((d4Y g).1 hg).2.2.2 (by have:=((d4Y g).1 hg).2.2.1;omega) e he
    have:=d4V g
    refine⟨h1,?_,by omega⟩
    cases g with
    |mk k2 n2 w2 s2=>
     have h2:SizeOf.sizeOf e.2.2<SizeOf.sizeOf s2:=h2
     simp only[Lr.mk.sizeOf_spec]
     omega
theorem i5Z(s:Wu):∀(l gs:List Lr) (p:Bs) (i:Nat),d3Z gs→i+gs.length≤10→∀e∈i3o s l gs p i,ArF e.2.2∧SizeOf.sizeOf e.2.2<SizeOf.sizeOf gs∧e.2.1.length+ndF e.2.2≤p.length+1+Zr gs
 | [],gs,p,i,_,_,e,he=>by rw[i3o]at he;cases he
 |f::l,[],p,i,_,_,e,he=>by rw[i3o]at he;cases he
 |f::l,g::gs,p,i,hg,hi,e,he=>by
  rw[d3Z]at hg
  rw[List.length_cons]at hi
  rw[i3o]at he
  rw[Zr,List.cons.sizeOf_spec]
  rcases List.mem_append.1 he with he|he
  ·have h:=p1q s f g _ hg.1 e he
   have h2:=h.size
   have h3:=h.len
   rw[List.length_append,d3Y (by omega)]at h3
   exact⟨h.ar,by omega,by omega⟩
  ·obtain⟨h1,h2,h3⟩:=i5Z s l gs p (i+1) hg.2 (by omega) e he
   exact⟨h1,by omega,by omega⟩
end
mutual
theorem i7C(s:Wu):∀(f g:Lr) (bd:List Bs) (p q:Bs) (ps:List Ws),ArF f→ArF g→pts s f bd g=some ps→(occ s f g (p++q)).map (fun e=>(e.1,e.2.1))=(p1m s f q).map fun e=>(e.1,p++e.2)
 | .mk k n w l,g,bd,p,q,ps,hf,hg,h=>by
   rw[pts]at h
   rw[occ,p1m]
   by_cases hp:Yi s (.mk k n w l)
   ·rw[if_pos hp,if_pos hp];rfl
   ·rw[if_neg hp]at h
    rw[if_neg hp,if_neg hp]
    by_cases hk:k≠g.kind∨w.length≠g.words.length
    ·rw[if_pos hk]at h;cases h
    ·rw[if_neg hk]at h
     rw[not_or,Classical.not_not,Classical.not_not]at hk
     obtain⟨x,y,_,h2,rfl⟩:=d6n h
     obtain⟨x2,y2,_,h4,rfl⟩:=d6n h2
     rw[ArF]at hf
     have h5:=(d4Y g).1 hg
     exact i4E s l g.subs _ p q 0 y2 hf.2.2.2 h5.2.2.2 (by have a:=hf.1;have b:=h5.1;rw[hk.1]at a;omega) h4
theorem i4E(s:Wu):∀(l gs:List Lr) (bd:List Bs) (p q:Bs) (i:Nat) (ps:List Ws),d3Z l→d3Z gs→l.length=gs.length→d6m s l bd gs=some ps→(i3o s l gs (p++q) i).map (fun e=>(e.1,e.2.1))=(d5r s l q i).map fun e=>(e.1,p++e.2)
 | [],gs,bd,p,q,i,ps,_,_,_,_=>by rw[i3o,d5r];rfl
 |f::l,[],bd,p,q,i,ps,_,_,hl,_=>by simp at hl
 |f::l,g::gs,bd,p,q,i,ps,hf,hg,hl,h=>by
  rw[d3Z]at hf hg
  rw[d6m]at h
  obtain⟨x,y,h1,h2,rfl⟩:=d6n h
  rw[i3o,d5r,List.map_append,List.map_append,List.append_assoc,i7C s f g bd p (q++Lib.decDigits i) x hf.1 hg.1 h1,i4E s l gs bd p q (i+1) y hf.2 hg.2 (by simpa using hl) h2]
end
mutual
theorem p1r(s:Wu):∀(f:Lr) (q:Bs),ArF f→∀x∈ZH f,Yi s x→∃r,(x.name,r)∈p1m s f q
 | .mk k n w l,q,hf,x,hx,hp=>by
   rw[ArF]at hf
   rw[ZH]at hx
   rw[p1m]
   by_cases h:Yi s (.mk k n w l)
   ·rw[if_pos h]
    have hk:k=2:=h.1.1
    have e:arF 2=0:=rfl
    have hl:l=[]:=List.length_eq_zero_iff.1 (by have:=hf.1;rw[hk,e]at this;omega)
    subst hl
    rw[ZL,List.mem_singleton]at hx
    subst hx
    exact⟨q,List.mem_singleton.2 rfl⟩
   ·rw[if_neg h]
    rcases List.mem_cons.1 hx with rfl|hx
    ·exact absurd hp h
    ·exact i7D s l q 0 hf.2.2.2 x hx hp
theorem i7D(s:Wu):∀(l:List Lr) (q:Bs) (i:Nat),d3Z l→∀x∈ZL l,Yi s x→∃r,(x.name,r)∈d5r s l q i
 | [],q,i,_,x,hx,_=>by rw[ZL]at hx;cases hx
 |f::l,q,i,hf,x,hx,hp=>by
  rw[d3Z]at hf
  rw[ZL]at hx
  rw[d5r]
  rcases List.mem_append.1 hx with hx|hx
  ·obtain⟨r,hr⟩:=p1r s f _ hf.1 x hx hp
   exact⟨r,List.mem_append_left _ hr⟩
  ·obtain⟨r,hr⟩:=i7D s l q (i+1) hf.2 x hx hp
   exact⟨r,List.mem_append_right _ hr⟩
end
theorem i4F{V:Type}(x:Bs):∀a b:List (Bs×V),assoc x (a++b)=(assoc x a).or (assoc x b)
 | [],b=>by simp[assoc]
 |(k,v)::a,b=>by
  rw[List.cons_append,assoc,assoc]
  split
  ·rfl
  ·exact i4F x a b
theorem i1V{V:Type}{x:Bs}{v:V}:∀ {m:List (Bs×V)},assoc x m=some v→(x,v)∈m
 |(a,u)::m,h=>by
  rw[assoc]at h
  split at h
  ·rename_i e
   cases h
   rw[e]
   exact List.mem_cons_self ..
  ·exact List.mem_cons_of_mem _ (i1V h)
theorem i7E{V:Type}{x:Bs}{v:V}:∀ {m:List (Bs×V)},(x,v)∈m→∃u,assoc x m=some u
 |(a,u)::m,h=>by
  rw[assoc]
  by_cases e:x=a
  ·exact⟨u,if_pos e⟩
  ·rw[if_neg e]
   rcases List.mem_cons.1 h with h|h
   ·cases h;exact absurd rfl e
   ·exact i7E h
theorem p1s(s:Wu):∀(b:Nat) (f:Lr),SizeOf.sizeOf f≤b→ArF f→∀(q:Bs) (m:List (Bs×Bs)),q.length+ndF f≤100000→
 Evt (fun n=>Yj n f q m s.form.kind s.form.name s.form.words s.form.subs s.words s.WO s.parts) (fun r=>∀x,assoc x r=(assoc x m).or (assoc x (p1m s f q))):=by
 intro b
 induction b with
 |zero=>intro f h;cases f;simp only[Lr.mk.sizeOf_spec]at h;omega
 |succ b ih=>
  intro f hf har q m hq
  have hsl:=((d4Y f).1 har).2.2.1
  have hnd:=d4V f
  have hj:∀m1,Evt (fun n=>Zp (Yj n) q f s.form.kind s.form.name s.form.words s.form.subs s.words s.WO s.parts m1) (fun r=>∀x,assoc x r=(assoc x m1).or (assoc x (d5r s f.subs q 0))):=fun m1=>by
   unfold Zp
   refine Evt.WL (P:=ExP (fun t=>∀x,assoc x t=(assoc x m1).or (assoc x (d5r s f.subs q 0))) (fun _=>False)) ((Evt.range (fun k t=>∀x,assoc x t=(assoc x m1).or (assoc x (d5r s (f.subs.take k) q 0))) (fun _=>False) (fun _=>False) (fun x=>by rw[List.take_zero,d5r];simp[assoc]) (fun k t hk ht=>?_)).mono fun e he=>?_) (fun t ht=>?_) (fun _ h=>h.elim)
   ·have hsz:=XE hk
    have htk:=d0g hk
    have hd:=d3Y (k:=k) (by omega)
    have hlk:(f.subs.take k).length=k:=by rw[List.length_take];omega
    unfold d1H
    simp only[i0y (m:=k) (by omega),Option.bind_some]
    refine Evt.chk (by unfold Yk;omega) (Evt.bind (ih _ (by omega) (i4u har hk) _ t ?_) fun v hv=>Evt.pure fun x=>?_)
    ·show(q++Lib.decDigits k).length+_≤_
     rw[List.length_append];omega
    ·have hsn:∀(l:List Lr) (y:Lr) (i:Nat),d5r s (l++[y]) q i=d5r s l q i++p1m s y (q++Lib.decDigits (i+l.length)):=fun l=>by
      induction l with
      |nil=>intro y i;simp[d5r]
      |cons a l ihl=>intro y i;rw[List.cons_append,d5r,d5r,ihl,List.append_assoc,List.length_cons,show i+1+l.length=i+(l.length+1)by omega]
     rw[hv,ht,Xq hk,hsn,i4F,hlk,Nat.zero_add,Option.or_assoc]
     rfl
   ·cases e with
    |ret r=>exact he
    |nxt t=>
     have:=he.elim id False.elim
     rw[List.take_length]at this
     exact this
   ·unfold d1I
    exact Evt.pure ht
  refine Evt.succ ?_
  simp only[Yj]
  show Evt (fun n=>(gd (!(assoc f.name m).isSome) (Xz s f) default).bind _) _
  rw[d5V]
  refine Evt.bind (P:=fun v=>(assoc f.name m).isSome=false→v=decide (Yi s f)) (Evt.gd (fun _=>Evt.pure fun _=>rfl) (fun e h=>by rw[h]at e;cases e)) fun v hv=>?_
  refine Evt.cond (fun e=>?_) (fun e=>(hj m).mono fun r hr x=>?_)
  ·cases hs:(assoc f.name m).isSome with
   |true=>rw[hs]at e;cases e
   |false=>
    rw[hs,hv hs]at e
    have hp:Yi s f:=by simpa using e
    have hn:assoc f.name m=none:=by simpa using hs
    have e2:arF 2=0:=rfl
    have hl:f.subs=[]:=List.length_eq_zero_iff.1 (by have:=((d4Y f).1 har).1;rw[hp.1.1,e2]at this;omega)
    refine Evt.Zo ((hj _).mono fun r hr x=>?_)
    rw[hr x,hl,d5r,p1n,if_pos hp]
    by_cases ex:x=f.name
    ·rw[ex,d2y,hn]
     simp[assoc]
    ·rw[d4t ex]
     simp[assoc,ex]
  ·rw[hr x,p1n]
   cases hs:(assoc f.name m).isSome with
   |true=>
    by_cases hp:Yi s f
    ·have e2:arF 2=0:=rfl
     have hl:f.subs=[]:=List.length_eq_zero_iff.1 (by have:=((d4Y f).1 har).1;rw[hp.1.1,e2]at this;omega)
     rw[if_pos hp,hl,d5r]
     by_cases ex:x=f.name
     ·rw[ex]
      obtain⟨u,hu⟩:=Option.isSome_iff_exists.1 hs
      rw[hu];rfl
     ·simp[assoc,ex]
    ·rw[if_neg hp]
   |false=>
    rw[hs,hv hs]at e
    have hp:¬Yi s f:=by simpa using e
    rw[if_neg hp]
theorem p3g{s:Wu}(h:d6s s):Evt (fun n=>d2R n s) (fun r=>∀x,assoc x r=assoc x (p1m s s.form [])):=by
 have:=h.form.2.1
 unfold d2R
 refine Evt.bind (p1s s _ s.form (Nat.le_refl _) (WfF.ar _ h.form.1) [] [] (by simp;omega)) fun v hv=>Evt.pure fun x=>?_
 rw[hv x]
 simp[assoc]
structure i6a(s:Wu)(g:Lr)(path:Bs)(pf:Bs→Lr)(pq:Bs→Bs):Prop where
 ar:∀v∈s.parts,ArF (pf v)
 size:∀v∈s.parts,SizeOf.sizeOf (pf v)<SizeOf.sizeOf g
 len:∀v∈s.parts,(pq v).length+ndF (pf v)≤path.length+ndF g
 sub:∀v∈s.parts,∀q∈d7f (pf v) (pq v),q∈d1z g.subs path 0
 dis:∀v∈s.parts,∀w∈s.parts,v≠w→∀q∈d7f (pf v) (pq v),q∉d7f (pf w) (pq w)
theorem i7F{α:Type}{h:α→List Bs}:∀ {l:List α},(l.flatMap h).Nodup→∀a∈l,∀b∈l,a≠b→∀q∈h a,q∉h b
 | [],_,a,ha,_,_,_,_,_,_=>by cases ha
 |c::l,hn,a,ha,b,hb,hab,q,hq,hq2=>by
  rw[List.flatMap_cons,List.nodup_append]at hn
  rcases List.mem_cons.1 ha with e1|h1
  ·rcases List.mem_cons.1 hb with e2|h2
   ·exact hab (e1.trans e2.symm)
   ·subst e1
    exact hn.2.2 q hq q (List.mem_flatMap.2 ⟨b,h2,hq2⟩) rfl
  ·rcases List.mem_cons.1 hb with e2|h2
   ·subst e2
    exact hn.2.2 q hq2 q (List.mem_flatMap.2 ⟨a,h1,hq⟩) rfl
   ·exact i7F hn.2.1 a h1 b h2 hab q hq hq2
theorem p3h{s:Wu}(h:d6s s)(r0u:¬Yi s s.form){g:Lr}(hg:ArF g){ps:List Ws}(hps:pts s s.form [] g=some ps){e:Env}(he:d1x [] ps=some e){first:List (Bs×Bs)}(hfi:∀x,assoc x first=assoc x (p1m s s.form []))(path:Bs):
 i6a s g path (fun v=>fmE e (43::v)) (fun v=>path++(assoc v first).getD default):=by
 have har:=WfF.ar _ h.form.1
 have key:∀v∈s.parts,(v,path++(assoc v first).getD default,fmE e (43::v))∈occ s s.form g path:=fun v hv=>by
  obtain⟨_,x,hx,h1,h2,h3⟩:=h.parts v hv
  obtain⟨r,hr⟩:=p1r s s.form [] har x hx ⟨⟨h1,h3⟩,by rw[h2];exact hv⟩
  rw[h2]at hr
  obtain⟨u,hu⟩:=i7E hr
  have hm:=i1V hu
  have p8s:=i7C s s.form g [] path [] ps har hg hps
  rw[List.append_nil]at p8s
  have hm2:(v,path++u)∈(occ s s.form g path).map (fun e=>(e.1,e.2.1)):=by
   rw[p8s]
   exact List.mem_map.2 ⟨(v,u),hm,rfl⟩
  obtain⟨o,ho,eo⟩:=List.mem_map.1 hm2
  obtain⟨o1,o2,o3⟩:=o
  simp only[Prod.mk.injEq]at eo
  obtain⟨rfl,rfl⟩:=eo
  have hb:=(d4u _ _ _ he).1 _ (p1o s s.form g [] path ps hps _ ho)
  have e3:fmE e (43::o1)=o3:=by
   unfold fmE
   rw[show assoc (43::o1) e=some ⟨43::o1,[],o3⟩from hb]
   rfl
  rw[e3,hfi,hu]
  exact ho
 have r0v:=p8r s s.form g path
 rw[if_neg r0u]at r0v
 have hsub:=i3c s s.form.subs g.subs path 0
 rw[←r0v]at hsub
 have hnd:((occ s s.form g path).flatMap fun e=>d7f e.2.2 e.2.1).Nodup:=(i0G g path (ArF.sm g hg)).sublist (p1p s s.form g path)
 refine⟨fun v hv=>(p1q s s.form g path hg _ (key v hv)).ar,fun v hv=>?_,fun v hv=>(p1q s s.form g path hg _ (key v hv)).len,fun v hv q hq=>hsub.subset (List.mem_flatMap.2 ⟨_,key v hv,hq⟩),fun v hv w hw hvw q hq hq2=>?_⟩
 ·have h0:=key v hv
  rw[r0v]at h0
  have h2:=(i5Z s s.form.subs g.subs path 0 ((d4Y g).1 hg).2.2.2 (by have:=((d4Y g).1 hg).2.2.1;omega) _ h0).2.1
  cases g with
  |mk k2 n2 w2 s2=>
   have h2:SizeOf.sizeOf (fmE e (43::v))<SizeOf.sizeOf s2:=h2
   simp only[Lr.mk.sizeOf_spec]
   omega
 ·exact i7F hnd _ (key v hv) _ (key w hw) (fun e=>hvw (congrArg Prod.fst e)) q hq hq2
theorem d9q:∀ {l m:List Bs},l.Nodup→(∀x∈l,x∈m)→l.length≤m.length
 | [],m,_,_=>Nat.zero_le _
 |x::l,m,h,hs=>by
  rw[List.nodup_cons]at h
  have hx:=hs x (List.mem_cons_self ..)
  have h1:=d9q (l:=l) (m:=m.erase x) h.2 fun y hy=>(List.mem_erase_of_ne (fun e=>h.1 (by rw[←e];exact hy))).2 (hs y (List.mem_cons_of_mem _ hy))
  rw[List.length_erase_of_mem hx]at h1
  have h2:=List.length_pos_of_mem hx
  rw[List.length_cons];omega
structure p3Y(x:Wr):Prop where
 eq:x=szF x.form
 ar:ArF x.form
 nd:ndF x.form≤200
 dp:dpF x.form≤40
theorem p8t(x:Wr):Wr.mk (Lr.mk x.form.kind x.form.name x.form.words x.form.subs) x.nodes x.depth=x:=by
 cases x with
 |mk f a b=>cases f;rfl
structure Nt(mp:List (Bs×Int))(u:List Wp)(c:Nat)(Q:List Bs)(u2:List Wp)(c2:Int):Prop where
 app:∃hs:List Wp,u2=u++hs∧hs.map (·.at_)=Q.map fun q=>(assoc q mp).getD default
 nd:Q.Nodup
 cnt:∃k:Nat,c2=(k:Int)∧k≤c+200*Q.length
theorem Nt.len{mp u c Q u2 c2}(h:Nt mp u c Q u2 c2):u2.length=u.length+Q.length:=by
 obtain⟨hs,rfl,e⟩:=h.app
 have:=congrArg List.length e
 rw[List.length_map,List.length_map]at this
 rw[List.length_append,this]
theorem Nt.nil(mp u)(c:Nat):Nt mp u c [] u (c:Int):=⟨⟨[],by simp,rfl⟩,List.nodup_nil,c,rfl,by simp⟩
theorem Nt.trans{mp u}{c:Nat}{Q u2}{c2:Nat}{Q2 u3 c3}(h:Nt mp u c Q u2 (c2:Int))(h2:Nt mp u2 c2 Q2 u3 c3)(hd:∀q∈Q,q∉Q2):Nt mp u c (Q++Q2) u3 c3:=by
 obtain⟨hs,rfl,e⟩:=h.app
 obtain⟨hs2,rfl,e2⟩:=h2.app
 obtain⟨k,hk,hk2⟩:=h.cnt
 obtain⟨k2,rfl,hk3⟩:=h2.cnt
 refine⟨⟨hs++hs2,by rw[List.append_assoc],by rw[List.map_append,List.map_append,e,e2]⟩,List.nodup_append.2 ⟨h.nd,h2.nd,fun a ha b hb e=>hd a ha (e▸hb)⟩,k2,rfl,?_⟩
 rw[List.length_append]
 omega
def ApG(f:Lr)(path:Bs)(c:Nat)(mp:List (Bs×Int))(u:List Wp)(x:Wr×Bool×Int×List Wp):Prop:=
 x.2.1=true→p3Y x.1∧∃Q,Nt mp u c Q x.2.2.2 x.2.2.1∧∀q∈Q,q∈d7f f path
def i4G(s:Wu)(pf:Bs→Lr)(pq:Bs→Bs)(rs:List Wq)(mp:List (Bs×Int))(self:Nat→Lr→Bs→List Wq→Int→List (Bs×Int)→List Wp→Option (Wr×Bool×Int×List Wp)):Prop:=
 ∀v∈s.parts,∀(c:Nat) (u:List Wp),u.length+ndF (pf v)≤100000→c+200*ndF (pf v)≤500000→Evt (fun n=>self n (pf v) (pq v) rs (c:Int) mp u) (ApG (pf v) (pq v) c mp u)
theorem i4G.sh{s pf pq rs mp self}(h:i4G s pf pq rs mp self):i4G s pf pq rs mp (fun n=>self (n+1)):=fun v hv c u h1 h2=>by
 obtain⟨x,hx,N,hN⟩:=h v hv c u h1 h2
 exact⟨x,hx,N,fun n hn=>hN (n+1) (by omega)⟩
structure PSt(s:Wu)(pf:Bs→Lr)(pq:Bs→Bs)(mp:List (Bs×Int))(u0:List Wp)(c0:Nat)(dn:List (Bs×Wr))(u:List Wp)(c:Int):Prop where
 nt:∃Q,Nt mp u0 c0 Q u c∧∀q∈Q,∃v∈s.parts,(assoc v dn).isSome∧q∈d7f (pf v) (pq v)
 ok:∀v z,assoc v dn=some z→p3Y z
def BL(s:Wu)(e:Env):List Ws:=(d3A s).map fun k=>⟨k.drop 1,txE e k,fmE e k⟩
theorem p3Z(s:Wu)(e:Env):(BL s e).length=s.words.length+s.WO.length+s.parts.length+nq s.form:=by
 unfold BL d3A
 simp only[List.length_map,List.length_append,i0q]
theorem p1t(s:Wu)(e:Env):((BL s e).drop (s.words.length+s.WO.length)).take s.parts.length=s.parts.map fun v=>(⟨v,txE e (43::v),fmE e (43::v)⟩:Ws):=by
 have h:BL s e=(s.words.map (fun v=>(⟨v,txE e (46::v),fmE e (46::v)⟩:Ws))++s.WO.map fun v=>⟨v,txE e (33::v),fmE e (33::v)⟩)++(s.parts.map (fun v=>⟨v,txE e (43::v),fmE e (43::v)⟩)++(qs s.form).map fun v=>⟨v,txE e (63::v),fmE e (63::v)⟩):=by
  unfold BL d3A
  simp[List.map_map,Function.comp_def]
 rw[h,List.drop_left' (by simp),List.take_left' (by simp)]
theorem d6s.p1D{s:Wu}(h:d6s s):s.words.length+s.WO.length+s.parts.length≤1000:=by
 have:=h.len
 unfold vns at this
 simp only[List.length_append]at this
 omega
theorem p1u{s:Wu}(h:d6s s):wr .i64 ((s.words.length:Int)+(s.WO.length:Int))=((s.words.length+s.WO.length:Nat):Int):=by
 have:=h.p1D
 rw[d6p (by omega) (by omega)];omega
theorem p3i{s:Wu}(h:d6s s):wr .i64 (((s.words.length+s.WO.length:Nat):Int)+(s.parts.length:Int))=((s.words.length+s.WO.length+s.parts.length:Nat):Int):=by
 have:=h.p1D
 rw[d6p (by omega) (by omega)];omega
theorem i8v{s:Wu}(hs:d6s s){g:Lr}{path:Bs}{e:Env}{first:List (Bs×Bs)}(hpa:i6a s g path (fun v=>fmE e (43::v)) (fun v=>path++(assoc v first).getD default))(hpl:path.length+ndF g≤100000)(rs:List Wq)(mp:List (Bs×Int)){u0:List Wp}{c0:Nat}(hu:u0.length+Zr g.subs≤100000)(hc:c0+200*Zr g.subs≤500000)(self:Nat→Lr→Bs→List Wq→Int→List (Bs×Int)→List Wp→Option (Wr×Bool×Int×List Wp))(i8w:i4G s (fun v=>fmE e (43::v)) (fun v=>path++(assoc v first).getD default) rs mp self)(f:Lr)(hp:f.name∈s.parts)(dn:List (Bs×Wr))(c:Int)(u:List Wp)(hst:PSt s (fun v=>fmE e (43::v)) (fun v=>path++(assoc v first).getD default) mp u0 c0 dn u c)(hno:assoc f.name dn=none)(k1:Int)(k2:Bs)(k3:List Bs)(k4:List Lr)(k5 k6:Int):
 Evt (fun n=>WL (Xc (ZS (self n) (BL s e) (s.words.length:Int) (s.WO.length:Int) (s.parts.length:Int) f path first rs mp) (((BL s e).drop ((wr .i64 ((s.words.length:Int)+(s.WO.length:Int))).toNat)).take ((wr .i64 ((wr .i64 ((s.words.length:Int)+(s.WO.length:Int)))+(s.parts.length:Int))).toNat-(wr .i64 ((s.words.length:Int)+(s.WO.length:Int))).toNat)).length (c,k1,k2,k3,k4,k5,k6,u,false)) (ZT f dn))
  (fun r=>r.2.1=true→p3Y r.1∧PSt s (fun v=>fmE e (43::v)) (fun v=>path++(assoc v first).getD default) mp u0 c0 r.2.2.2.2 r.2.2.2.1 r.2.2.1):=by
 obtain⟨i,hi,hgi⟩:=d1g.1 hp
 have hnd:=hs.p1j
 obtain⟨⟨Q,hQ,hQp⟩,hok⟩:=hst
 obtain⟨cN,rfl,hcN⟩:=hQ.cnt
 have r1l:∀q∈Q,q∉d7f (fmE e (43::f.name)) (path++(assoc f.name first).getD default):=fun q hq hq2=>by
  obtain⟨w,hw,h1,h2⟩:=hQp q hq
  have hne:w≠f.name:=fun e=>by rw[e,hno]at h1;cases h1
  exact hpa.dis w hw f.name hp hne q h2 hq2
 have hroom:Q.length+ndF (fmE e (43::f.name))≤Zr g.subs:=by
  have h1:(Q++d7f (fmE e (43::f.name)) (path++(assoc f.name first).getD default)).Nodup:=List.nodup_append.2 ⟨hQ.nd,i0G _ _ (ArF.sm _ (hpa.ar _ hp)),fun a ha b hb e=>r1l a ha (e▸hb)⟩
  have h2:=d9q (m:=d1z g.subs path 0) h1 fun x hx=>by
   rcases List.mem_append.1 hx with hx|hx
   ·obtain⟨w,hw,_,h2⟩:=hQp x hx
    exact hpa.sub w hw x h2
   ·exact hpa.sub _ hp x hx
  rw[List.length_append,d9o,d7F]at h2
  exact h2
 have hul:=hQ.len
 have hlen:(path++(assoc f.name first).getD default).length+ndF (fmE e (43::f.name))≤path.length+ndF g:=hpa.len _ hp
 rw[List.length_append]at hlen
 rw[p1u hs,p3i hs,Int.toNat_natCast,Int.toNat_natCast,Nat.add_sub_cancel_left,p1t,List.length_map]
 refine Evt.WL (P:=ExP (fun t:Int×Int×Bs×List Bs×List Lr×Int×Int×List Wp×Bool=>t.2.2.2.2.2.2.2.2=true→ApG (fmE e (43::f.name)) (path++(assoc f.name first).getD default) cN mp u (Wr.mk (Lr.mk t.2.1 t.2.2.1 t.2.2.2.1 t.2.2.2.2.1) t.2.2.2.2.2.1 t.2.2.2.2.2.2.1,t.2.2.2.2.2.2.2.2,t.1,t.2.2.2.2.2.2.2.1)) (fun _=>False))
  ((Evt.range (fun k t=>(k≤i→t=((cN:Int),k1,k2,k3,k4,k5,k6,u,false))∧(i<k→ApG (fmE e (43::f.name)) (path++(assoc f.name first).getD default) cN mp u (Wr.mk (Lr.mk t.2.1 t.2.2.1 t.2.2.2.1 t.2.2.2.2.1) t.2.2.2.2.2.1 t.2.2.2.2.2.2.1,t.2.2.2.2.2.2.2.2,t.1,t.2.2.2.2.2.2.2.1))) (fun _=>False) (fun _=>False) ⟨fun _=>rfl,fun h=>absurd h (Nat.not_lt_zero _)⟩ (fun k t hk ht=>?_)).mono fun ex he=>?_) (fun t ht=>?_) (fun _ h=>h.elim)
 ·unfold ZS
  rw[p1u hs,p3i hs,Int.toNat_natCast,Int.toNat_natCast,Nat.add_sub_cancel_left,p1t,get_map _ hk]
  refine Evt.cond (fun ee=>?_) (fun ee=>?_)
  ·replace ee:=bx ee
   have ek:k=i:=(List.getElem_inj hnd).1 (show s.parts[k]=s.parts[i]by
    have h1:Am.get s.parts k=Am.get s.parts i:=ee.trans hgi.symm
    simpa[Am.get,hk,hi]using h1)
   subst ek
   obtain rfl:=ht.1 (Nat.le_refl _)
   rw[hgi]
   refine Evt.chk (by unfold Yk;omega) (Evt.bind (i8w _ hp cN u (by show u.length+ndF (fmE e (43::f.name))≤_;omega) (by show cN+200*ndF (fmE e (43::f.name))≤_;omega)) fun v hv=>Evt.pure ⟨fun h=>by omega,fun _=>?_⟩)
   show ApG _ _ _ _ _ (Wr.mk (Lr.mk v.1.form.kind v.1.form.name v.1.form.words v.1.form.subs) v.1.nodes v.1.depth,v.2.1,v.2.2.1,v.2.2.2)
   rw[p8t]
   exact hv
  ·replace ee:=bx ee
   have ek:k≠i:=fun ek=>ee (by subst ek;exact hgi)
   exact Evt.pure ⟨fun h=>ht.1 (by omega),fun h=>ht.2 (by omega)⟩
 ·cases ex with
  |ret r=>exact he
  |nxt t=>
   have h:=he.elim id False.elim
   exact fun _=>h.2 hi
 ·have ht:=ht
  unfold ZT
  refine Evt.Zo (Evt.pure fun r1m=>?_)
  obtain⟨h1,Q2,hQ2,hQs⟩:=ht r1m r1m
  refine⟨h1,⟨Q++Q2,hQ.trans hQ2 fun q hq hq2=>r1l q hq (hQs q hq2),fun q hq=>?_⟩,fun w z hw=>?_⟩
  ·rcases List.mem_append.1 hq with hq|hq
   ·obtain⟨w,hw,h1,h2⟩:=hQp q hq
    have hne:w≠f.name:=fun e=>by rw[e,hno]at h1;cases h1
    refine⟨w,hw,?_,h2⟩
    show(assoc w (Wz _ _ dn)).isSome=true
    rw[d4t hne]
    exact h1
   ·refine⟨f.name,hp,?_,hQs q hq⟩
    show(assoc f.name (Wz _ _ dn)).isSome=true
    rw[d2y];rfl
  ·have hw:assoc w (Wz f.name _ dn)=some z:=hw
   by_cases ew:w=f.name
   ·rw[ew,d2y]at hw
    cases hw
    exact h1
   ·rw[d4t ew]at hw
    exact hok w z hw
theorem i6b:∀ {l:List Lr},(∀x∈l,ArF x)→d3Z l
 | [],_=>by rw[d3Z];trivial
 |f::l,h=>by
  rw[d3Z]
  exact⟨h f (List.mem_cons_self ..),i6b fun x hx=>h x (List.mem_cons_of_mem _ hx)⟩
structure d4Z(k:Nat)(zs:List Wr)(fs:List Lr):Prop where
 eq:zs=fs.map szF
 len:fs.length=k
 ar:∀x∈fs,ArF x
 nd:Zr fs≤200*k
 dp:d3U fs≤40
theorem d4Z.nil:d4Z 0 [] []:=⟨rfl,rfl,(fun x hx=>by cases hx),(by rw[Zr];omega),(by rw[d3U];omega)⟩
theorem d4Z.snoc{k zs fs}(h:d4Z k zs fs){x:Wr}(hx:p3Y x):d4Z (k+1) (zs++[x]) (fs++[x.form]):=by
 have h1:=h.nd
 have h2:=h.dp
 have h3:=hx.nd
 have h4:=hx.dp
 refine⟨?_,by rw[List.length_append,h.len];rfl,fun y hy=>?_,by rw[d4W];omega,by rw[i2R];omega⟩
 ·rw[List.map_append, ←h.eq,List.map_cons,List.map_nil, ←hx.eq]
 ·rcases List.mem_append.1 hy with hy|hy
  ·exact h.ar y hy
  ·rw[List.mem_singleton.1 hy];exact hx.ar
theorem d4Z.node{k zs fs}(h:d4Z k zs fs){f:Lr}(hf:ArF f)(hk:k=f.subs.length){nm:Bs}{ws:List Bs}(hw:ws.length=f.words.length)(hok:1+Zr fs≤200∧d3U fs<40):p3Y (Wr.mk (Lr.mk f.kind nm ws fs) ((1+Zr fs:Nat):Int) ((d3U fs+1:Nat):Int)):=by
 obtain⟨a1,a2,a3,_⟩:=(d4Y f).1 hf
 have hl:=h.len
 have e1:ndF (Lr.mk f.kind nm ws fs)=1+Zr fs:=by rw[ndF]
 have e2:dpF (Lr.mk f.kind nm ws fs)=1+d3U fs:=by rw[dpF]
 refine⟨?_,(d4Y _).2 ⟨?_,?_,?_,i6b h.ar⟩,by show ndF (Lr.mk f.kind nm ws fs)≤200;omega,by show dpF (Lr.mk f.kind nm ws fs)≤40;omega⟩
 ·show _=szF (Lr.mk f.kind nm ws fs)
  unfold szF
  rw[e1,e2,Nat.add_comm 1 (d3U fs)]
 ·show((fs.length:Nat):Int)=arF f.kind
  rw[hl,hk,a1]
 ·show ws.length≤3
  omega
 ·show fs.length≤2
  omega
theorem p3j{s:Wu}(hs:d6s s){g:Lr}{path:Bs}{e:Env}{first:List (Bs×Bs)}(hpa:i6a s g path (fun v=>fmE e (43::v)) (fun v=>path++(assoc v first).getD default))(hpl:path.length+ndF g≤100000)(rs:List Wq)(mp:List (Bs×Int)){u0:List Wp}{c0:Nat}(hu:u0.length+Zr g.subs≤100000)(hc:c0+200*Zr g.subs≤500000)(vars:List (Bs×Bs))(tk:Int)(tn:Bs)(tw:List Bs)(ts:List Lr):∀(m:Nat) (f:Lr),SizeOf.sizeOf f≤m→ArF f→ndF f≤1000→
 ∀(self:Nat→Lr→Bs→List Wq→Int→List (Bs×Int)→List Wp→Option (Wr×Bool×Int×List Wp)) (bd:List Bs) (dn:List (Bs×Wr)) (c:Int) (u:List Wp),i4G s (fun v=>fmE e (43::v)) (fun v=>path++(assoc v first).getD default) rs mp self→bd.length+ndF f≤100000→PSt s (fun v=>fmE e (43::v)) (fun v=>path++(assoc v first).getD default) mp u0 c0 dn u c→
 Evt (fun n=>XU (self n) n f bd s.form.kind s.form.name s.form.words s.form.subs s.words s.WO s.parts tk tn tw ts dn (BL s e) (s.words.length:Int) (s.WO.length:Int) (s.parts.length:Int) rs c mp u path first vars)
  (fun r=>r.2.1=true→p3Y r.1∧PSt s (fun v=>fmE e (43::v)) (fun v=>path++(assoc v first).getD default) mp u0 c0 r.2.2.2.2 r.2.2.2.1 r.2.2.1):=by
 intro m
 induction m with
 |zero=>intro f h;cases f;simp only[Lr.mk.sizeOf_spec]at h;omega
 |succ m ih=>
  intro f hf har r3V self bd dn c u i8w hbd hst
  have hsm:=ArF.sm f har
  have hws:=i4t hsm
  have hsl:=d8o hsm
  have hnd:=d4V f
  have hbl:=p3Z s e
  have hvl:=hs.p1D
  refine Evt.succ ?_
  simp only[XU]
  show Evt (fun n=>(Xz s f).bind _) _
  rw[d5V]
  simp only[Option.bind_some]
  refine Evt.cond (fun hp=>?_) (fun _=>?_)
  ·have hp:Yi s f:=of_decide_eq_true hp
   cases hd:assoc f.name dn with
   |some z=>exact Evt.cond (fun _=>Evt.pure fun _=>⟨hst.ok _ _ hd,hst⟩) (fun e=>by cases e)
   |none=>
    refine Evt.cond (fun e=>by cases e) (fun _=>Evt.chk ?_ (i8v hs hpa hpl rs mp hu hc (fun n=>self (n+1)) i8w.sh f hp.2 dn c u hst hd _ _ _ _ _ _))
    rw[p1u hs,p3i hs,hbl,Int.toNat_natCast,Int.toNat_natCast]
    omega
  ·refine Evt.WL (P:=ExP (fun t:List Bs=>t.length=f.words.length) (fun _=>False)) ((Evt.range (fun k t=>t.length=k) (fun _=>False) (fun _=>False) rfl (fun k t hk ht=>?_)).mono fun ex he=>?_) (fun t ht=>?_) (fun _ h=>h.elim)
   ·unfold d1m
    rw[Xl]
    simp only[Option.bind_some]
    refine Evt.cond (fun _=>Evt.Zo (Evt.chk ?_ (Evt.pure ?_))) (fun _=>Evt.chk ⟨by omega,by rw[hbl,Int.toNat_natCast];omega⟩ (Evt.bind (i3b _ _) fun v hv=>Evt.Zo (Evt.chk ?_ (Evt.pure ?_))))
    ·rw[Yl];simp only[List.length_append,List.length_cons,List.length_nil];omega
    ·show(t++[_]).length=k+1
     rw[List.length_append,ht];rfl
    ·rw[Yl];simp only[List.length_append,List.length_cons,List.length_nil];omega
    ·show(t++[_]).length=k+1
     rw[List.length_append,ht];rfl
   ·cases ex with
    |ret r=>exact he
    |nxt t=>exact he.elim id False.elim
   have ht:t.length=f.words.length:=ht
   have key:∀(nm:Bs) (bd':List Bs),bd'.length≤bd.length+1→
    Evt (fun n=>Yn (XU (self (n+1)) n) f s.form.kind s.form.name s.form.words s.form.subs s.words s.WO s.parts tk tn tw ts (BL s e) (s.words.length:Int) (s.WO.length:Int) (s.parts.length:Int) rs mp path first vars c u dn t (nm,bd'))
     (fun r=>r.2.1=true→p3Y r.1∧PSt s (fun v=>fmE e (43::v)) (fun v=>path++(assoc v first).getD default) mp u0 c0 r.2.2.2.2 r.2.2.2.1 r.2.2.1):=by
    intro nm bd' r3W
    unfold Yn
    refine Evt.WL (P:=ExP (fun t:Int×List Wp×List (Bs×Wr)×List Wr×List Lr=>PSt s (fun v=>fmE e (43::v)) (fun v=>path++(assoc v first).getD default) mp u0 c0 t.2.2.1 t.2.1 t.1∧d4Z f.subs.length t.2.2.2.1 t.2.2.2.2) (fun r=>r.2.1=false))
     ((Evt.range (fun k (t:Int×List Wp×List (Bs×Wr)×List Wr×List Lr)=>PSt s (fun v=>fmE e (43::v)) (fun v=>path++(assoc v first).getD default) mp u0 c0 t.2.2.1 t.2.1 t.1∧d4Z k t.2.2.2.1 t.2.2.2.2) (fun _=>False) (fun r=>r.2.1=false) ⟨hst,d4Z.nil⟩ (fun k t2 hk ht2=>?_)).mono fun ex he=>?_) (fun t2 ht2=>?_) (fun r hr h=>by rw[hr]at h;cases h)
    ·obtain⟨t1,t2,t3,t4,t5⟩:=t2
     obtain⟨h1,h2⟩:=ht2
     have hsz:=XE hk
     have htk:=d0g hk
     have hl4:t4.length=k:=(congrArg List.length h2.eq).trans ((List.length_map _).trans h2.len)
     have hl5:t5.length=k:=h2.len
     unfold d1n
     refine Evt.bind (ih _ (by omega) (i4u har hk) (by omega) (fun n=>self (n+1)) bd' t3 t1 t2 i8w.sh (by omega) h1) fun v hv=>?_
     refine Evt.cond (fun _=>Evt.pure rfl) (fun hok=>?_)
     obtain⟨v1,v2⟩:=hv (by simpa using hok)
     refine Evt.Zo (Evt.chk ?_ (Evt.Zo (Evt.chk ?_ (Evt.pure ⟨v2,h2.snoc v1⟩))))
     ·rw[Yl];simp only[List.length_append,List.length_cons,List.length_nil];omega
     ·rw[Yl];simp only[List.length_append,List.length_cons,List.length_nil];omega
    ·cases ex with
     |ret r=>exact he
     |nxt t=>exact he.elim id False.elim
    ·obtain⟨t1,t2,t3,t4,t5⟩:=t2
     obtain⟨h1,h2⟩:=ht2
     have e4:t4=t5.map szF:=h2.eq
     have hn5:Zr t5≤200*f.subs.length:=h2.nd
     have hd5:d3U t5≤40:=h2.dp
     unfold d1o
     simp only[e4]
     refine Evt.bind (p0P (by omega) (by omega)) fun v hv=>Evt.pure fun hok=>?_
     subst hv
     exact⟨h2.node har rfl ht (of_decide_eq_true hok),h1⟩
   unfold d1p
   simp only[d1i,Option.bind_some]
   refine Evt.cond (fun _=>?_) (fun _=>Evt.cond (fun _=>?_) (fun _=>key _ _ (by omega)))
   ·simp only[WS,List.isEmpty_nil,cond_true,Option.bind_some]
    refine Evt.Zo (Evt.chk ?_ (key _ _ (by simp)))
    rw[Yl];simp only[List.length_append,List.length_cons,List.length_nil];omega
   ·rw[p1u hs]
    refine Evt.chk ⟨by omega,by omega,by omega,by rw[hbl,Int.toNat_natCast];omega⟩ (Evt.bind (i3b _ _) fun v hvv=>?_)
    exact key _ _ (by omega)
theorem p5y{r:Wq}(hr:i4A r){g:Lr}(hg:ArF g){ps:List Ws}(hps:pts r.from_ r.from_.form [] g=some ps){e:Env}(he:d1x [] ps=some e)(path:Bs)(hpl:path.length+ndF g≤100000)(rs:List Wq)(mp:List (Bs×Int)){u0:List Wp}{c0:Nat}(hu:u0.length+Zr g.subs≤100000)(hc:c0+200+200*Zr g.subs≤500000)
 (self:Nat→Lr→Bs→List Wq→Int→List (Bs×Int)→List Wp→Option (Wr×Bool×Int×List Wp)) (i8w:∀(z:Lr) (q:Bs),SizeOf.sizeOf z<SizeOf.sizeOf g→ArF z→q.length+ndF z≤100000→∀(c:Nat) (u:List Wp),u.length+ndF z≤100000→c+200*ndF z≤500000→Evt (fun n=>self n z q rs (c:Int) mp u) (ApG z q c mp u)):
 Evt (fun n=>d2b (self n) n r (BL r.from_ e) path rs (c0:Int) mp u0) (fun x=>x.2.1=true→p3Y x.1∧∃(c2:Nat) (Q:List Bs),c2≤c0+200∧Nt mp u0 c2 Q x.2.2.2 x.2.2.1∧∀q∈Q,q∈d1z g.subs path 0):=by
 have hnd:=hr.to.2.1
 have hqn:=i0r r.to_
 have hql:=i0q r.to_
 have hbl:=p3Z r.from_ e
 have hvl:=hr.good.p1D
 unfold d2b
 refine Evt.bind (d5T _ r.to_ (Nat.le_refl _) (by omega)) fun v hv=>?_
 subst hv
 refine Evt.WL (P:=ExP (fun t:Int×List (Bs×Bs)=>∃k:Nat,t.1=(k:Int)∧k≤c0+nq r.to_) (fun _=>False)) ((Evt.range (fun k t=>∃j:Nat,t.1=(j:Int)∧j≤c0+k) (fun _=>False) (fun _=>False) ⟨c0,rfl,Nat.le_refl _⟩ (fun k t hk ht=>?_)).mono fun ex he=>?_) (fun t ht=>?_) (fun _ h=>h.elim)
 ·obtain⟨t1,t2⟩:=t
  obtain⟨j,hj,hj2⟩:=ht
  have hj:t1=(j:Int):=hj
  subst hj
  unfold d1J
  rw[p1u hr.good,p3i hr.good]
  refine Evt.chk ⟨by omega,by rw[hbl,Int.toNat_natCast];omega⟩ (Evt.bind (i3b _ _) fun v hv=>?_)
  refine Evt.Zo (Evt.cond (fun _=>?_) (fun _=>Evt.pure ⟨j,rfl,by omega⟩))
  simp only[i5R (c:=j) (by omega),Option.bind_some]
  exact Evt.Zo (Evt.pure ⟨j+1,rfl,by omega⟩)
 ·cases ex with
  |ret r=>exact he
  |nxt t=>
   have h:=he.elim id False.elim
   rw[hql]at h
   exact h
 ·obtain⟨t1,t2⟩:=t
  obtain⟨c2,hc2,hc3⟩:=ht
  have hc2:t1=(c2:Int):=hc2
  subst hc2
  unfold d1K
  refine Evt.bind (p3g hr.good) fun first hfi=>?_
  have hpa:=p3h hr.good hr.root hg hps he hfi path
  refine Evt.bind (p3j hr.good hpa hpl rs mp (c0:=c2) hu (by omega) t2 _ _ _ _ _ r.to_ (Nat.le_refl _) (WfF.ar _ hr.to.1) (by omega) self [] [] (c2:Int) u0 (fun v hv c u h1 h2=>i8w _ _ (hpa.size v hv) (hpa.ar v hv) (Nat.le_trans (hpa.len v hv) hpl) c u h1 h2) (by simp;omega) ⟨⟨[],Nt.nil mp u0 c2,(fun q hq=>by cases hq)⟩,(fun v z h=>by cases h)⟩) fun v hv=>Evt.pure fun hok=>?_
  obtain⟨h1,⟨Q,hQ,hQp⟩,_⟩:=hv hok
  refine⟨h1,c2,Q,by omega,hQ,fun q hq=>?_⟩
  obtain⟨w,hw,_,h2⟩:=hQp q hq
  exact hpa.sub w hw q h2
theorem i8x{s:Wu}{g:Lr}(h:(i4s s g).2=true):∃ps e,pts s s.form [] g=some ps∧d1x [] ps=some e∧i4s s g=(BL s e,true):=by
 unfold i4s at h⊢
 cases hp:pts s s.form [] g with
 |none=>rw[hp]at h;cases h
 |some ps=>
  rw[hp,Option.bind_some]at h
  rw[Option.bind_some]
  cases he:d1x [] ps with
  |none=>rw[he]at h;cases h
  |some e=>
   rw[he]at h
   by_cases hc:caught s e
   ·simp only[if_pos hc]at h;cases h
   ·refine⟨ps,e,rfl,he,?_⟩
    simp only[if_neg hc]
    rfl
theorem p1v{rs:List Wq}(hr:∀r∈rs,i4A r)(hrl:rs.length≤1000000):∀(m:Nat) (f:Lr),SizeOf.sizeOf f≤m→ArF f→∀(path:Bs) (c:Nat) (mp:List (Bs×Int)) (u:List Wp),path.length+ndF f≤100000→u.length+ndF f≤100000→c+200*ndF f≤500000→
 Evt (fun n=>Xm n f path rs (c:Int) mp u) (ApG f path c mp u):=by
 intro m
 induction m with
 |zero=>intro f h;cases f;simp only[Lr.mk.sizeOf_spec]at h;omega
 |succ m ih=>
  intro f hf har path c mp u hp hu hc
  have hsm:=ArF.sm f har
  have hsl:=d8o hsm
  have hnd:=d4V f
  have hnp:=i0G f path hsm
  rw[i0F,List.nodup_cons]at hnp
  refine Evt.succ ?_
  simp only[Xm]
  refine Evt.WL (P:=ExP (fun _=>True) (ApG f path c mp u)) ((Evt.scan (fun _ _=>True) (fun _ x=>ApG f path c mp u x) trivial (fun k s hk _=>?_)).mono fun ex he=>?_) (fun t _=>?_) (fun r hr=>hr)
  ·have hrk:=hr _ (get_mem hk)
   unfold d0S
   refine Evt.bind (p2V hrk.good har) fun v hv=>?_
   refine Evt.cond (fun _=>Evt.pure trivial) (fun e=>?_)
   have hv2:(i4s (Am.get rs k).from_ f).2=true:=by rw[←hv];simpa using e
   obtain⟨ps,e,hps,he,hb⟩:=i8x hv2
   rw[hb]at hv
   subst hv
   refine Evt.Zo (Evt.chk ?_ ?_)
   ·rw[Yl];simp only[List.length_append,List.length_cons,List.length_nil];omega
   refine Evt.bind (p5y hrk har hps he path hp rs mp (c0:=c) ?_ (by omega) (fun n=>Xm n) (fun z q hz hza hq c2 u2 h1 h2=>ih z (by omega) hza q c2 mp u2 hq h1 h2)) fun x hx=>Evt.pure fun hok=>?_
   ·rw[List.length_append]
    show u.length+1+_≤_
    omega
   obtain⟨h1,c2,Q,hc2,hQ,hQs⟩:=hx hok
   have hb:Nt mp u c [path] (u++[(⟨(assoc path mp).getD default,(k:Int)⟩:Wp)]) (c2:Int):=⟨⟨[_],rfl,rfl⟩,by simp,c2,rfl,by simpa using hc2⟩
   refine⟨h1,[path]++Q,hb.trans hQ fun q hq hq2=>?_,fun q hq=>?_⟩
   ·rw[List.mem_singleton]at hq
    subst hq
    exact hnp.1 (hQs _ hq2)
   ·rw[i0F]
    rcases List.mem_append.1 hq with hq|hq
    ·rw[List.mem_singleton.1 hq];exact List.mem_cons_self ..
    ·exact List.mem_cons_of_mem _ (hQs q hq)
  ·cases ex with
   |ret r=>obtain⟨_,_,_,_,h⟩:=he;exact h
   |nxt t=>trivial
  unfold d0T
  refine Evt.WL (P:=ExP (fun t:Int×List Wp×List Wr×List Lr=>(∃Q,Nt mp u c Q t.2.1 t.1∧∀q∈Q,q∈d1z f.subs path 0)∧d4Z f.subs.length t.2.2.1 t.2.2.2) (fun r=>r.2.1=false))
   ((Evt.range (fun k (t:Int×List Wp×List Wr×List Lr)=>(∃Q,Nt mp u c Q t.2.1 t.1∧∀q∈Q,q∈d1z (f.subs.take k) path 0)∧d4Z k t.2.2.1 t.2.2.2) (fun _=>False) (fun r=>r.2.1=false) ⟨⟨[],Nt.nil mp u c,(fun q hq=>by cases hq)⟩,d4Z.nil⟩ (fun k t hk ht=>?_)).mono fun ex he=>?_) (fun t ht=>?_) (fun r hr h=>by rw[hr]at h;cases h)
  ·obtain⟨t1,t2,t3,t4⟩:=t
   obtain⟨⟨Q,hQ,hQs⟩,h2⟩:=ht
   obtain⟨cN,hcN,r3X⟩:=hQ.cnt
   have hcN:t1=(cN:Int):=hcN
   subst hcN
   have hul:t2.length=u.length+Q.length:=hQ.len
   have hQl:=d9q hQ.nd hQs
   rw[d7F]at hQl
   have hsz:=XE hk
   have htk:=d0g hk
   have hd:=d3Y (k:=k) (by omega)
   have hlk:(f.subs.take k).length=k:=by rw[List.length_take];omega
   have hl3:t3.length=k:=(congrArg List.length h2.eq).trans ((List.length_map _).trans h2.len)
   have hl4:t4.length=k:=h2.len
   have hpk:d1z (f.subs.take (k+1)) path 0=d1z (f.subs.take k) path 0++d7f (Am.get f.subs k) (path++Lib.decDigits k):=by rw[Xq hk,d8q,hlk,Nat.zero_add]
   have hnk:(d1z (f.subs.take (k+1)) path 0).Nodup:=i2W _ path 0 (by rw[List.length_take];omega) (d3Z.sm _ (i6b fun x hx=>i2T ((d4Y f).1 har).2.2.2 x (List.mem_of_mem_take hx)))
   rw[hpk,List.nodup_append]at hnk
   unfold d0U
   simp only[i0y (m:=k) (by omega),Option.bind_some]
   refine Evt.chk (by unfold Yk;omega) (Evt.bind (ih _ (by omega) (i4u har hk) (path++Lib.decDigits k) cN mp t2 (by rw[List.length_append];omega) (by omega) (by omega)) fun v hv=>?_)
   refine Evt.cond (fun _=>Evt.pure rfl) (fun hok=>?_)
   obtain⟨v1,Q2,hQ2,r1n⟩:=hv (by simpa using hok)
   refine Evt.Zo (Evt.chk ?_ (Evt.Zo (Evt.chk ?_ (Evt.pure ⟨⟨Q++Q2,hQ.trans hQ2 fun q hq hq2=>hnk.2.2 q (hQs q hq) q (r1n q hq2) rfl,fun q hq=>?_⟩,h2.snoc v1⟩))))
   ·rw[Yl];simp only[List.length_append,List.length_cons,List.length_nil];omega
   ·rw[Yl];simp only[List.length_append,List.length_cons,List.length_nil];omega
   ·rw[hpk]
    rcases List.mem_append.1 hq with hq|hq
    ·exact List.mem_append_left _ (hQs q hq)
    ·exact List.mem_append_right _ (r1n q hq)
  ·cases ex with
   |ret r=>exact he
   |nxt t=>
    have h:=he.elim id False.elim
    rw[List.take_length]at h
    exact h
  ·obtain⟨t1,t2,t3,t4⟩:=t
   obtain⟨⟨Q,hQ,hQs⟩,h2⟩:=ht
   have e3:t3=t4.map szF:=h2.eq
   have hn4:Zr t4≤200*f.subs.length:=h2.nd
   have hd4:d3U t4≤40:=h2.dp
   unfold d0V
   simp only[e3]
   refine Evt.bind (p0P (by omega) (by omega)) fun v hv=>Evt.pure fun hok=>?_
   subst hv
   refine⟨h2.node har rfl rfl (of_decide_eq_true hok),Q,hQ,fun q hq=>?_⟩
   rw[i0F]
   exact List.mem_cons_of_mem _ (hQs q hq)
end Go.Proofs.YtfacbpehlibilaaGreatDoor
