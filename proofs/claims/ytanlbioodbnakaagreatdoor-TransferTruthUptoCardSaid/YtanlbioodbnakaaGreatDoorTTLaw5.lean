import Derived.Test.YtanlbioodbnakaaGreatDoorTTLaw4
set_option linter.unusedVariables false
set_option linter.unusedSimpArgs false
namespace Go.Proofs.YtanlbioodbnakaaGreatDoor
open Go Go.Am
mutual
def nsF:u5→Nat
 | .mk k _ _ s=>tq s+(if QK k then 1 else 0)
def tq:List u5→Nat
 | []=>0
 |f::l=>max (nsF f) (tq l)
end
theorem JB(f:u5):nsF f=tq f.subs+(if QK f.kind then 1 else 0):=by cases f;rw[nsF];rfl
theorem yB:∀(l:List u5) (x:u5),tq (l++[x])=max (tq l) (nsF x)
 | [],x=>by rw[List.nil_append,tq];simp[tq]
 |b::l,x=>by rw[List.cons_append,tq,tq,yB l];omega
mutual
theorem OE:∀f:u5,nsF f≤dpF f
 | .mk k n w s=>by
   have:=Ag s
   rw[nsF,dpF]
   split<;>omega
theorem Ag:∀l:List u5,tq l≤jr l
 | []=>by rw[tq];omega
 |f::l=>by
  have:=OE f
  have:=Ag l
  rw[tq,jr];omega
end
theorem Le:∀(b:Nat) (f:u5),SizeOf.sizeOf f≤b→dpF f≤100000→Evt (fun n=>iV n f) (fun r=>r=(nsF f:Int)):=by
 intro b
 induction b with
 |zero=>intro f h;cases f;simp only[u5.mk.sizeOf_spec]at h;omega
 |succ b ih=>
  intro f hf hd
  have hdq:=Bd f
  have hnl:=Ag f.subs
  refine Evt.succ ?_
  simp only[iV]
  refine Evt.C2 (P:=ExP (fun t=>t=(tq f.subs:Int)) (fun _=>False)) ((Evt.range (fun k t=>t=(tq (f.subs.take k):Int)) (fun _=>False) (fun _=>False) (by simp[tq]) (fun k t hk ht=>?_)).mono fun c hc=>?_) (fun t ht=>?_) (fun _ h=>h.elim)
  ·have:=J6 hk
   have:=kJ hk
   unfold jv
   refine Evt.bind (ih _ (by omega) (by omega)) fun v hv=>Evt.pure ?_
   show max t v=_
   rw[F8 hk,yB,ht,hv]
   omega
  ·cases c with
   |ret r=>exact hc
   |nxt t=>
    have hc:=hc.elim id False.elim
    rw[List.take_length]at hc
    exact hc
  ·have ht:t=_:=ht
   subst ht
   unfold jw
   rw[dc]
   simp only[Option.bind_some]
   refine Evt.cond (fun e=>Evt.pure ?_) (fun e=>Evt.pure ?_)
   ·rw[cr (by omega) (by omega),JB,if_pos (of_decide_eq_true e)];omega
   ·rw[JB,if_neg (of_decide_eq_false e)];omega
section
variable (Q:Bs→Nat→Prop)
mutual
def prF:u5→Prop
 | .mk k n w s=>(k=2→Q n w.length)∧wE s
def wE:List u5→Prop
 | []=>True
 |f::l=>prF f∧wE l
end
theorem Gs(f:u5):prF Q f↔(f.kind=2→Q f.name f.words.length)∧wE Q f.subs:=by cases f;rw[prF];exact Iff.rfl
theorem BX:∀ {l:List u5},wE Q l↔ ∀x∈l,prF Q x
 | []=>by rw[wE];simp
 |f::l=>by rw[wE,BX];simp
theorem BZ{l:List u5}:wE Q l↔ ∀k,k<l.length→prF Q (Am.get l k):=by
 rw[BX]
 exact⟨fun h k hk=>h _ (get_mem hk),fun h x hx=>by obtain⟨j,hj,rfl⟩:=bD.1 hx;exact h j hj⟩
end
def Dt(m:B4)(n:Bs)(l:Nat):Prop:=(fdM m n (l:Int)).2=true
theorem Lf{m:B4}(hm:VM m):∀(b:Nat) (f:u5),SizeOf.sizeOf f≤b→Evt (fun n=>Y5 n f m.size m.constants m.relations) (fun r=>r=true↔prF (Dt m) f):=by
 intro b
 induction b with
 |zero=>intro f h;cases f;simp only[u5.mk.sizeOf_spec]at h;omega
 |succ b ih=>
  intro f hf
  have hj:(f.kind=2→Dt m f.name f.words.length)→Evt (fun n=>bw (Y5 n) f m.size m.constants m.relations ()) (fun r=>r=true↔prF (Dt m) f):=fun h2=>by
   unfold bw
   refine Evt.C2 (Evt.scan (fun k _=>∀i,i<k→prF (Dt m) (Am.get f.subs i)) (fun k r=>r=false∧¬prF (Dt m) (Am.get f.subs k)) (fun i hi=>absurd hi (Nat.not_lt_zero _)) (fun k s hk hs=>?_)) (fun t ht=>?_) (fun r hr=>?_)
   ·have:=J6 hk
    unfold gJ
    refine Evt.bind (ih _ (by omega)) fun v hv=>?_
    refine Evt.cond (fun e=>Evt.pure ⟨rfl,fun h=>?_⟩) (fun e=>Evt.pure fun i hi=>?_)
    ·rw[hv.2 h]at e;cases e
    ·by_cases ei:i=k
     ·subst ei;exact hv.1 (by simpa using e)
     ·exact hs i (by omega)
   ·have ht:∀i,i<f.subs.length→_:=ht
    unfold gK
    exact Evt.pure ⟨fun _=>(Gs _ f).2 ⟨h2,(BZ _).2 ht⟩,fun _=>rfl⟩
   ·obtain⟨k,_,hk,_,rfl,hn⟩:=hr
    exact⟨fun h=>(by cases h),fun h=>absurd ((BZ _).1 ((Gs _ f).1 h).2 k hk) hn⟩
  refine Evt.succ ?_
  simp only[Y5]
  refine Evt.cond (fun e=>?_) (fun e=>hj fun h=>absurd h (of_decide_eq_false e))
  refine Evt.bind (Dc hm _ _).1 fun v hv=>?_
  subst hv
  refine Evt.cond (fun e2=>Evt.pure ⟨fun h=>(by cases h),fun h=>?_⟩) (fun e2=>hj fun _=>?_)
  ·have:=((Gs _ f).1 h).1 (of_decide_eq_true e)
   unfold Dt at this
   rw[this]at e2;cases e2
  ·unfold Dt;simpa using e2
structure Df(m:B4)(f:u5):Prop where
 nest:nsF f≤5
 con:∀x,fre f [] x→(Ds m.constants x).2=true
 pr:prF (Dt m) f
theorem wF{m:B4}(hm:VM m){f:u5}(h:OkF f):Evt (fun n=>jX n m f) (fun r=>(r.code=0→Df m f)∧(Df m f→r=⟨0,0⟩)):=by
 have hn:=h.2.1
 have hd:=h.2.2
 unfold jX
 refine Evt.bind (Le _ f (Nat.le_refl _) (by omega)) fun v hv=>?_
 subst hv
 refine Evt.cond (fun e=>Evt.pure ⟨fun h=>absurd (show(17:Int)=0 from h) (by decide),fun h=>?_⟩) (fun e=>?_)
 ·have:=h.nest
  have e:=of_decide_eq_true e
  omega
 have e:=of_decide_eq_false e
 refine Evt.bind (lQ h.1 (by omega)) fun v2 hv2=>?_
 obtain⟨hv2,hl2⟩:=hv2
 refine Evt.C2 (Evt.scan (fun k _=>∀i,i<k→(Ds m.constants (Am.get v2 i)).2=true) (fun k r=>r.code≠0∧¬(Ds m.constants (Am.get v2 k)).2=true) (fun i hi=>absurd hi (Nat.not_lt_zero _)) (fun k s hk hs=>?_)) (fun t ht=>?_) (fun r hr=>?_)
 ·unfold iC
  refine Evt.bind (nI hm.cl _) fun v hv=>?_
  subst hv
  refine Evt.cond (fun e=>Evt.pure ⟨by decide,fun h=>?_⟩) (fun e=>Evt.pure fun i hi=>?_)
  ·rw[h]at e;cases e
  ·by_cases ei:i=k
   ·subst ei;simpa using e
   ·exact hs i (by omega)
 ·have ht:∀i,i<v2.length→_:=ht
  have Rh:∀x,fre f [] x→(Ds m.constants x).2=true:=fun x hx=>by
   obtain⟨j,hj,rfl⟩:=bD.1 ((hv2 x).2 hx)
   exact ht j hj
  unfold iD
  refine Evt.bind (Lf hm _ f (Nat.le_refl _)) fun v hv=>?_
  refine Evt.cond (fun e2=>Evt.pure ⟨fun h=>absurd (show(6:Int)=0 from h) (by decide),fun h=>?_⟩) (fun e2=>Evt.pure ⟨fun _=>⟨by omega,Rh,hv.1 (by simpa using e2)⟩,fun _=>rfl⟩)
  rw[hv.2 h.pr]at e2;cases e2
 ·obtain⟨k,_,hk,_,h1,h2⟩:=hr
  exact⟨fun h=>absurd h h1,fun h=>absurd (h.con _ ((hv2 _).1 (get_mem hk))) h2⟩
noncomputable def PI(a b:List Int):Int:=(E2 a b).getD 0
theorem Lg(a b:List Int):E2 a b=some (PI a b):=by
 obtain⟨v,hv⟩:=Option.isSome_iff_exists.1 (yw a b)
 unfold PI
 rw[hv];rfl
def Lh(sz ar:Int)(t:List (List Int))(k:Nat):Prop:=((Am.get t k).length:Int)=ar∧(∀j,j<(Am.get t k).length→0≤Am.get (Am.get t k) j∧Am.get (Am.get t k) j<sz)∧(0<k→PI (Am.get t (k-1)) (Am.get t k)<0)
def Gt(sz ar:Int)(t:List (List Int)):Prop:=∀k,k<t.length→Lh sz ar t k
theorem OG(m:B4)(k1:Nat)(hl:(Am.get m.relations k1).tuples.length≤1000000000):Evt (fun _=>C2 (D4 (Q8 m k1) (((Am.get m.relations k1).tuples).length) ()) bf)
 (fun c=>(c= .nxt ()∧Gt m.size (Am.get m.relations k1).arity (Am.get m.relations k1).tuples)∨(∃r,c= .ret r∧r.code≠0∧¬Gt m.size (Am.get m.relations k1).arity (Am.get m.relations k1).tuples)):=by
 refine Evt.C2 (Evt.scan (body:=fun _=>Q8 m k1) (fun k _=>∀i,i<k→Lh m.size (Am.get m.relations k1).arity (Am.get m.relations k1).tuples i) (fun k r=>∃x:B0,r= .ret x∧x.code≠0∧¬Lh m.size (Am.get m.relations k1).arity (Am.get m.relations k1).tuples k) (fun i hi=>absurd hi (Nat.not_lt_zero _)) (fun k s hk hs=>?_)) (fun t ht=>?_) (fun r hr=>?_)
 ·show Evt (fun _=>Q8 m k1 k s) _
  unfold Q8 I7
  simp only[Option.bind_some]
  refine Evt.cond (fun e=>Evt.pure ⟨_,rfl,by show(9:Int)≠0;decide,fun h=>?_⟩) (fun e=>?_)
  ·replace e:=bx e
   exact e h.1
  replace e:=bx e
  refine Evt.C2 (Evt.scan (body:=fun _=>V6 m k1 k) (fun j _=>∀i,i<j→0≤Am.get (Am.get (Am.get m.relations k1).tuples k) i∧Am.get (Am.get (Am.get m.relations k1).tuples k) i<m.size) (fun j r=>∃x:B0,r= .ret (.ret x)∧x.code≠0∧¬(0≤Am.get (Am.get (Am.get m.relations k1).tuples k) j∧Am.get (Am.get (Am.get m.relations k1).tuples k) j<m.size)) (fun i hi=>absurd hi (Nat.not_lt_zero _)) (fun j s hj hjs=>?_)) (fun t ht=>?_) (fun r hr=>?_)
  ·show Evt (fun _=>V6 m k1 k j s) _
   unfold V6 I7
   simp only[Option.bind_some]
   refine Evt.cond (fun e2=>Evt.pure ⟨_,rfl,by show(3:Int)≠0;decide,fun h=>?_⟩) (fun e2=>Evt.pure fun i hi=>?_)
   ·replace e2:=bx e2
    omega
   ·replace e2:=bx e2
    by_cases ei:i=j
    ·subst ei;omega
    ·exact hjs i (by omega)
  ·have ht:∀i,i<(Am.get (Am.get m.relations k1).tuples k).length→_:=ht
   unfold dJ I7
   simp only[Option.bind_some,Lg]
   refine Evt.chk ⟨eO fun e2=>?_,eO fun e2=>?_⟩ ?_
   ·replace e2:=bx e2
    rw[cr (by omega) (by omega)];omega
   ·replace e2:=bx e2
    rw[cr (by omega) (by omega)];omega
   refine Evt.bind (P:=fun v=>0<k→v=PI (Am.get (Am.get m.relations k1).tuples (k-1)) (Am.get (Am.get m.relations k1).tuples k)) (Evt.gd (fun e2=>Evt.pure fun h0=>?_) (fun e2 h0=>?_)) fun v hv=>?_
   ·rw[cr (by omega) (by omega),show((k:Int)-1).toNat=k-1 by omega]
   ·replace e2:=bx e2
    omega
   refine Evt.cond (fun e2=>Evt.pure ⟨_,rfl,by show(13:Int)≠0;decide,fun h=>?_⟩) (fun e2=>Evt.pure fun i hi=>?_)
   ·replace e2:=bx e2
    have:=h.2.2 (by omega)
    rw[←hv (by omega)]at this
    omega
   ·by_cases ei:i=k
    ·subst ei
     refine⟨e,ht,fun h0=>?_⟩
     rw[←hv h0]
     by_cases hv0:v<0
     ·exact hv0
     ·have h1:(0:Int)<(i:Int):=by omega
      have h2:(0:Int)≤v:=by omega
      simp[h2]at e2
      omega
    ·exact hs i (by omega)
  ·obtain⟨j,_,hj,_,x,rfl,h1,h2⟩:=hr
   exact⟨x,rfl,h1,fun h=>h2 (h.2.1 j hj)⟩
 ·have ht:∀i,i<(Am.get m.relations k1).tuples.length→_:=ht
  unfold bf
  exact Evt.pure (.inl ⟨rfl,ht⟩)
 ·obtain⟨k,_,hk,_,x,rfl,h1,h2⟩:=hr
  exact .inr ⟨x,rfl,h1,fun h=>h2 (h k hk)⟩
def Dg(m:B4)(k:Nat):Prop:=D2 (Am.get m.relations k).name∧(0≤(Am.get m.relations k).arity∧(Am.get m.relations k).arity≤3)∧(0<k→ltK (fJ (Am.get m.relations (k-1))) (fJ (Am.get m.relations k)))∧Gt m.size (Am.get m.relations k).arity (Am.get m.relations k).tuples
structure nJ(m:B4):Prop where
 sz:1≤m.size∧m.size≤6
 cl:m.constants.length≤300
 rl:m.relations.length≤300
 con:D4 (K4 m) m.constants.length ()=some (.nxt ())
 rel:∀k,k<m.relations.length→Dg m k
theorem kQ(m:B4)(hl:∀k,k<m.relations.length→(Am.get m.relations k).tuples.length≤1000000000):Evt (fun _=>cF m) (fun r=>(r.code=0→nJ m)∧(nJ m→r=⟨0,0⟩)):=by
 unfold cF
 refine Evt.cond (fun e=>Evt.pure ⟨fun h=>absurd (show(3:Int)=0 from h) (by decide),fun h=>?_⟩) (fun e=>?_)
 ·replace e:=bx e
  have:=h.sz
  omega
 replace e:=bx e
 refine Evt.cond (fun e2=>Evt.pure ⟨fun h=>absurd (show(2:Int)=0 from h) (by decide),fun h=>?_⟩) (fun e2=>?_)
 ·replace e2:=bx e2
  have:=h.cl
  have:=h.rl
  omega
 replace e2:=bx e2
 have Rh:Evt (fun _=>D4 (K4 m) m.constants.length ()) (ExP (fun _=>True) (fun r=>r.code≠0)):=by
  refine(Evt.range (body:=fun _=>K4 m) (fun _ _=>True) (fun _=>False) (fun r:B0=>r.code≠0) trivial (fun k s hk _=>?_)).mono fun c hc=>?_
  ·show Evt (fun _=>K4 m k s) _
   unfold K4 bA
   simp only[Option.bind_some]
   refine Evt.bind (dM _) fun v hv=>?_
   refine Evt.cond (fun e=>Evt.pure (by show(10:Int)≠0;decide)) (fun e=>?_)
   refine Evt.chk ⟨eO fun e2=>?_,eO fun e2=>?_⟩ ?_
   ·replace e2:=bx e2
    rw[cr (by omega) (by omega)];omega
   ·replace e2:=bx e2
    rw[cr (by omega) (by omega)];omega
   refine Evt.cond (fun e=>Evt.pure (by show(13:Int)≠0;decide)) (fun e=>?_)
   exact Evt.cond (fun e=>Evt.pure (by show(3:Int)≠0;decide)) (fun e=>Evt.pure trivial)
  ·cases c with
   |ret r=>exact hc
   |nxt t=>trivial
 obtain⟨c,hc,N,hN⟩:=Rh
 have hN:D4 (K4 m) m.constants.length ()=some c:=hN N (Nat.le_refl _)
 rw[hN]
 cases c with
 |ret r=>
  refine Evt.of rfl ⟨fun h=>absurd h hc,fun h=>?_⟩
  have:=h.con
  rw[hN]at this;cases this
 |nxt t=>
  show Evt (fun _=>bg m t) _
  unfold bg
  refine Evt.C2 (Evt.scan (body:=fun _=>V7 m) (fun k _=>∀i,i<k→Dg m i) (fun k r=>r.code≠0∧¬Dg m k) (fun i hi=>absurd hi (Nat.not_lt_zero _)) (fun k s hk hs=>?_)) (fun t ht=>?_) (fun r hr=>?_)
  ·show Evt (fun _=>V7 m k s) _
   unfold V7 I7
   simp only[Option.bind_some]
   refine Evt.bind (dM _) fun v hv=>?_
   refine Evt.cond (fun e=>Evt.pure ⟨by show(10:Int)≠0;decide,fun h=>?_⟩) (fun e=>?_)
   ·rw[hv,uP h.1]at e;cases e
   have hnm:D2 (Am.get m.relations k).name:=by
    rw[hv]at e
    refine Classical.byContradiction fun h=>?_
    rw[nF h]at e;cases e
   refine Evt.cond (fun e=>Evt.pure ⟨by show(3:Int)≠0;decide,fun h=>?_⟩) (fun e3=>?_)
   ·replace e:=bx e
    have:=h.2.1
    omega
   replace e3:=bx e3
   refine Evt.chk ⟨eO fun e2=>?_,eO fun e2=>?_⟩ ?_
   ·replace e2:=bx e2
    rw[cr (by omega) (by omega)];omega
   ·replace e2:=bx e2
    rw[cr (by omega) (by omega)];omega
   simp only[uT]
   refine Evt.bind (P:=fun v=>0<k→v=Dr (fJ (Am.get m.relations (k-1))) (fJ (Am.get m.relations k))) (Evt.gd (fun e2=>Evt.pure fun h0=>?_) (fun e2 h0=>?_)) fun v hv=>?_
   ·rw[cr (by omega) (by omega),show((k:Int)-1).toNat=k-1 by omega]
   ·replace e2:=bx e2
    omega
   refine Evt.cond (fun e=>Evt.pure ⟨by show(13:Int)≠0;decide,fun h=>?_⟩) (fun e=>?_)
   ·replace e:=bx e
    have:=h.2.2.1 (by omega)
    rw[←sU, ←hv (by omega)]at this
    omega
   have hlt:0<k→ltK (fJ (Am.get m.relations (k-1))) (fJ (Am.get m.relations k)):=fun h0=>by
    rw[←sU, ←hv h0]
    by_cases hv0:v<0
    ·exact hv0
    ·have h1:(0:Int)<(k:Int):=by omega
     have h2:(0:Int)≤v:=by omega
     simp[h2]at e
     omega
   refine(OG m k (hl k hk)).mono fun c hc=>?_
   rcases hc with⟨rfl,h1⟩|⟨r,rfl,h1,h2⟩
   ·intro i hi
    by_cases ei:i=k
    ·subst ei;exact⟨hnm,by omega,hlt,h1⟩
    ·exact hs i (by omega)
   ·exact⟨h1,fun h=>h2 h.2.2.2⟩
  ·have ht:∀i,i<m.relations.length→_:=ht
   unfold dK
   exact Evt.pure ⟨fun _=>⟨by omega,by omega,by omega,hN,ht⟩,fun _=>rfl⟩
  ·obtain⟨k,_,hk,_,h1,h2⟩:=hr
   exact⟨fun h=>absurd h h1,fun h=>absurd (h.rel k hk) h2⟩
theorem nJ.stk{m:B4}(h:nJ m):StK m.relations:=fun i j=>by
 induction j with
 |zero=>intro hi;omega
 |succ j ih=>
  intro hi hj
  have:=(h.rel (j+1) hj).2.2.1 (by omega)
  rw[Nat.add_sub_cancel]at this
  by_cases e:i=j
  ·subst e;exact this
  ·exact sT (ih (by omega) (by omega)) this
theorem nJ.vm{m:B4}(h:nJ m)(hl:∀k,k<m.relations.length→(Am.get m.relations k).tuples.length≤1000000000):VM m:=⟨h.stk,by have:=h.rl;omega,by have:=h.cl;omega,by have:=h.sz;omega,hl⟩
theorem Ca{env:List (Bs×Bs)}{w:Bs}(h:w∈env.map (·.1)):∃p∈env,sub env w=p.2:=by
 obtain⟨p,hp,e⟩:=List.mem_map.1 (vV h)
 exact⟨p,hp,e.symm⟩
mutual
theorem Li(N M:Nat→Bs)(U:Bs→Prop)(hN:∀i j,N i=N j→i=j)(hN2:∀i,¬U (N i)):∀(f:u5) (env env' cE:List (Bs×Bs)) (i j:Nat),(∀x,fre f (env.map (·.1)) x→U x)→(∀p∈env,∃k,k<i∧p.2=N k)→(∀w,w∈env.map (·.1)∨U w→sub env' (sub env w)=sub cE w)→ren M (ren N f env i) env' j=ren M f cE j
 | .mk k n w s,env,env',cE,i,j,hf,he,ha=>by
   have hw:∀x∈w,x∈env.map (·.1)∨U x:=fun x hx=>by
    by_cases h:x∈env.map (·.1)
    ·exact .inl h
    ·exact .inr (hf x (by rw[fre];exact .inl ⟨hx,h⟩))
   have e1:(w.map (sub env)).map (sub env')=w.map (sub cE):=by
    rw[List.map_map]
    exact List.map_congr_left fun x hx=>ha x (hw x hx)
   rw[ren,ren,ren,e1]
   by_cases hq:QK k
   ·simp only[if_pos hq]
    rw[wG N M U hN hN2 s _ ((N i,M j)::env') ((n,M j)::cE) (i+1) (j+1) (fun x hx=>hf x (by rw[fre,if_pos hq];exact .inr hx)) (fun p hp=>?_) (fun y hy=>?_)]
    ·rcases List.mem_cons.1 hp with rfl|hp
     ·exact⟨i,by omega,rfl⟩
     ·obtain⟨l,h1,h2⟩:=he p hp
      exact⟨l,by omega,h2⟩
    ·by_cases e:n=y
     ·subst e
      have a:sub ((n,N i)::env) n=N i:=by rw[L1,if_pos rfl]
      have b:sub ((n,M j)::cE) n=M j:=by rw[L1,if_pos rfl]
      rw[a,b,L1,if_pos rfl]
     ·have a:sub ((n,N i)::env) y=sub env y:=by rw[L1,if_neg e]
      have b:sub ((n,M j)::cE) y=sub cE y:=by rw[L1,if_neg e]
      have hy':y∈env.map (·.1)∨U y:=by
       rcases hy with hy|hy
       ·rw[List.map_cons,List.mem_cons]at hy
        exact hy.elim (fun h=>absurd h.symm e) .inl
       ·exact .inr hy
      rw[a,b,L1,if_neg fun e2=>?_]
      ·exact ha y hy'
      ·by_cases hm:y∈env.map (·.1)
       ·obtain⟨p,hp,e3⟩:=Ca hm
        obtain⟨l,hl,e4⟩:=he p hp
        rw[e3,e4]at e2
        have:=hN _ _ e2
        omega
       ·rw[sL fun p hp h=>hm (List.mem_map.2 ⟨p,hp,h⟩)]at e2
        exact hN2 i (e2▸hy'.elim (fun h=>absurd h hm) id)
   ·simp only[if_neg hq]
    rw[wG N M U hN hN2 s env env' cE (i+0) (j+0) (fun x hx=>hf x (by rw[fre,if_neg hq];exact .inr hx)) he ha]
theorem wG(N M:Nat→Bs)(U:Bs→Prop)(hN:∀i j,N i=N j→i=j)(hN2:∀i,¬U (N i)):∀(l:List u5) (env env' cE:List (Bs×Bs)) (i j:Nat),(∀x,eP l (env.map (·.1)) x→U x)→(∀p∈env,∃k,k<i∧p.2=N k)→(∀w,w∈env.map (·.1)∨U w→sub env' (sub env w)=sub cE w)→O8 M (O8 N l env i) env' j=O8 M l cE j
 | [],env,env',cE,i,j,_,_,_=>by rw[O8,O8,O8]
 |f::l,env,env',cE,i,j,hf,he,ha=>by
  rw[O8,O8,O8,Li N M U hN hN2 f env env' cE i j (fun x hx=>hf x (by rw[eP];exact .inl hx)) he ha,Bl,wG N M U hN hN2 l env env' cE (i+nq f) (j+nq f) (fun x hx=>hf x (by rw[eP];exact .inr hx)) (fun p hp=>by
   obtain⟨k,h1,h2⟩:=he p hp
   exact⟨k,by omega,h2⟩) ha]
end
mutual
def Dh(φ:Bs→Bs):u5→u5
 | .mk k n w s=>.mk k (if QK k then φ n else n) (w.map φ) (jY φ s)
def jY(φ:Bs→Bs):List u5→List u5
 | []=>[]
 |f::l=>Dh φ f::jY φ l
end
section
variable (φ:Bs→Bs)
mutual
theorem Lj:∀f:u5,ndF (Dh φ f)=ndF f
 | .mk k n w s=>by rw[Dh,ndF,ndF,Cb s]
theorem Cb:∀l:List u5,bT (jY φ l)=bT l
 | []=>by rw[jY]
 |f::l=>by rw[jY,bT,bT,Lj f,Cb l]
end
mutual
theorem Lk:∀f:u5,dpF (Dh φ f)=dpF f
 | .mk k n w s=>by rw[Dh,dpF,dpF,Cc s]
theorem Cc:∀l:List u5,jr (jY φ l)=jr l
 | []=>by rw[jY]
 |f::l=>by rw[jY,jr,jr,Lk f,Cc l]
end
mutual
theorem Gu:∀f:u5,nq (Dh φ f)=nq f
 | .mk k n w s=>by rw[Dh,nq,nq,Cd s]
theorem Cd:∀l:List u5,nqL (jY φ l)=nqL l
 | []=>by rw[jY]
 |f::l=>by rw[jY,nqL,nqL,Gu f,Cd l]
end
variable {φ}
theorem Ce(hφ:∀a b,φ a=φ b→a=b):∀(env:List (Bs×Bs)) (w:Bs),(w∉env.map (·.1)→φ w=w)→sub (env.map fun p=>(φ p.1,p.2)) (φ w)=sub env w
 | [],w,h=>by rw[List.map_nil,pL,pL];exact h (by simp)
 |(a,b)::env,w,h=>by
  rw[List.map_cons,L1,L1]
  by_cases e:a=w
  ·rw[if_pos e,if_pos (by rw[e])]
  ·rw[if_neg e,if_neg fun e2=>e (hφ _ _ e2)]
   exact Ce hφ env w fun hm=>h fun hm2=>by
    rw[List.map_cons,List.mem_cons]at hm2
    exact hm2.elim (fun h=>e h.symm) hm
mutual
theorem IB(hφ:∀a b,φ a=φ b→a=b)(M:Nat→Bs):∀(f:u5) (env:List (Bs×Bs)) (i:Nat),(∀x,fre f (env.map (·.1)) x→φ x=x)→ren M (Dh φ f) (env.map fun p=>(φ p.1,p.2)) i=ren M f env i
 | .mk k n w s,env,i,hf=>by
   have e1:(w.map φ).map (sub (env.map fun p=>(φ p.1,p.2)))=w.map (sub env):=by
    rw[List.map_map]
    exact List.map_congr_left fun x hx=>Ce hφ env x fun h=>hf x (by rw[fre];exact .inl ⟨hx,h⟩)
   rw[Dh,ren,ren,e1]
   by_cases hq:QK k
   ·simp only[if_pos hq]
    have:=tu hφ M s ((n,M i)::env) (i+1) (fun x hx=>hf x (by rw[fre,if_pos hq];exact .inr hx))
    rw[List.map_cons]at this
    rw[this]
   ·simp only[if_neg hq]
    rw[tu hφ M s env (i+0) (fun x hx=>hf x (by rw[fre,if_neg hq];exact .inr hx))]
theorem tu(hφ:∀a b,φ a=φ b→a=b)(M:Nat→Bs):∀(l:List u5) (env:List (Bs×Bs)) (i:Nat),(∀x,eP l (env.map (·.1)) x→φ x=x)→O8 M (jY φ l) (env.map fun p=>(φ p.1,p.2)) i=O8 M l env i
 | [],env,i,_=>by rw[jY,O8,O8]
 |f::l,env,i,hf=>by rw[jY,O8,O8,IB hφ M f env i (fun x hx=>hf x (by rw[eP];exact .inl hx)),Gu,tu hφ M l env _ (fun x hx=>hf x (by rw[eP];exact .inr hx))]
end
mutual
theorem IC(hφ:∀a b,φ a=φ b→a=b):∀(f:u5) (bd:List Bs) (x:Bs),fre (Dh φ f) (bd.map φ) (φ x)↔fre f bd x
 | .mk k n w s,bd,x=>by
   have hm:∀(l:List Bs) (y:Bs),φ y∈l.map φ↔y∈l:=fun l y=>by
    constructor
    ·intro h
     obtain⟨z,hz,e⟩:=List.mem_map.1 h
     exact hφ _ _ e▸hz
    ·exact fun h=>List.mem_map.2 ⟨y,h,rfl⟩
   rw[Dh,fre,fre,hm,hm]
   by_cases hq:QK k
   ·simp only[if_pos hq]
    rw[←List.map_cons,tw hφ s]
   ·simp only[if_neg hq]
    rw[tw hφ s]
theorem tw(hφ:∀a b,φ a=φ b→a=b):∀(l:List u5) (bd:List Bs) (x:Bs),eP (jY φ l) (bd.map φ) (φ x)↔eP l bd x
 | [],bd,x=>by rw[jY,eP,eP]
 |f::l,bd,x=>by rw[jY,eP,eP,IC hφ f,tw hφ l]
end
mutual
theorem IE:∀(f:u5) (bd:List Bs) (x:Bs),fre (Dh φ f) bd x→∃y,x=φ y
 | .mk k n w s,bd,x,h=>by
   rw[Dh,fre]at h
   rcases h with h|h
   ·obtain⟨y,_,e⟩:=List.mem_map.1 h.1
    exact⟨y,e.symm⟩
   ·exact yC s _ x h
theorem yC:∀(l:List u5) (bd:List Bs) (x:Bs),eP (jY φ l) bd x→∃y,x=φ y
 | [],bd,x,h=>by rw[jY,eP]at h;exact h.elim
 |f::l,bd,x,h=>by
  rw[jY,eP]at h
  exact h.elim (IE f bd x) (yC l bd x)
end
end
theorem Cg{α β:Type}[Inhabited α][Inhabited β](g:α→β){l:List α}{k:Nat}(h:k<l.length):Am.get (l.map g) k=g (Am.get l k):=by
 unfold Am.get
 rw[List.getD_eq_getElem?_getD,List.getD_eq_getElem?_getD,List.getElem?_map,List.getElem?_eq_getElem h]
 rfl
theorem JC(W:Bs→Int)(n:Bs)(v:Int):upv W n v n=v:=if_pos rfl
theorem JD(W:Bs→Int){n w:Bs}(v:Int)(h:n≠w):upv W n v w=W w:=if_neg h
section
variable (sz:Nat) (R:Bs→List Int→Bool) (N:Nat→Bs) (U:Bs→Prop)
mutual
theorem JE(hNi:∀i j,N i=N j→i=j)(hNU:∀i,¬U (N i)):∀(f:u5) (env:List (Bs×Bs)) (i:Nat) (W V:Bs→Int),WfF f→(∀x,fre f (env.map (·.1)) x→U x)→(∀p∈env,∃j,j<i∧p.2=N j)→(∀w,w∈env.map (·.1)∨U w→V (sub env w)=W w)→vl sz R (ren N f env i) V=vl sz R f W
 | .mk k n w s,env,i,W,V,hwf,hf,he,ha=>by
   obtain⟨_,hwd,_,_,_⟩:=W1 ((Y6 (.mk k n w s)).1 hwf).1
   have hws:kE s:=((Y6 (.mk k n w s)).1 hwf).2
   have hwd:hJ k w.length:=hwd
   have hw:∀x∈w,V (sub env x)=W x:=fun x hx=>ha x (by
    by_cases h:x∈env.map (·.1)
    ·exact .inl h
    ·exact .inr (hf x (by rw[fre];exact .inl ⟨hx,h⟩)))
   have e1:(w.map (sub env)).map V=w.map W:=by
    rw[List.map_map]
    exact List.map_congr_left fun x hx=>hw x hx
   rw[ren,vl,vl,e1]
   by_cases hq:QK k
   ·have n1:¬k=1:=by unfold QK at hq;omega
    have n2:¬k=2:=by unfold QK at hq;omega
    have n3:¬k=3:=by unfold QK at hq;omega
    have n4:¬k=4:=by unfold QK at hq;omega
    have n5:¬k=5:=by unfold QK at hq;omega
    have n6:¬k=6:=by unfold QK at hq;omega
    have n7:¬k=7:=by unfold QK at hq;omega
    simp only[if_neg n1,if_neg n2,if_neg n3,if_neg n4,if_neg n5,if_neg n6,if_neg n7,if_pos hq]
    have key:∀v:Int,vlL sz R (O8 N s ((n,N i)::env) (i+1)) (upv V (N i) v) 0=vlL sz R s (upv W n v) 0:=fun v=>
     Ah hNi hNU s ((n,N i)::env) (i+1) (upv W n v) (upv V (N i) v) 0 hws (fun x hx=>hf x (by rw[fre,if_pos hq];exact .inr hx)) (fun p hp=>by
      rcases List.mem_cons.1 hp with rfl|hp
      ·exact⟨i,by omega,rfl⟩
      ·obtain⟨l,h1,h2⟩:=he p hp
       exact⟨l,by omega,h2⟩) (fun y hy=>by
      by_cases e:n=y
      ·subst e
       rw[L1,if_pos rfl,JC,JC]
      ·have hy':y∈env.map (·.1)∨U y:=by
        rcases hy with hy|hy
        ·rw[List.map_cons,List.mem_cons]at hy
         exact hy.elim (fun h=>absurd h.symm e) .inl
        ·exact .inr hy
       rw[L1,if_neg e,JD W v e,JD,ha y hy']
       by_cases hm:y∈env.map (·.1)
       ·obtain⟨p,hp,ep⟩:=Ca hm
        obtain⟨j,hj,ej⟩:=he p hp
        rw[ep,ej]
        intro e'
        have:=hNi _ _ e'
        omega
       ·rw[sL fun p hp e'=>hm (List.mem_map.2 ⟨p,hp,e'⟩)]
        intro e'
        exact hNU i (e'▸hy'.resolve_left hm))
    simp only[key]
   ·simp only[if_neg hq,Nat.add_zero]
    have key:∀j,vlL sz R (O8 N s env i) V j=vlL sz R s W j:=fun j=>
     Ah hNi hNU s env i W V j hws (fun x hx=>hf x (by rw[fre,if_neg hq];exact .inr hx)) he ha
    have n8:¬k=8:=fun e=>hq (.inl e)
    simp only[key]
    by_cases h3:k=3
    ·have hl:w.length=2:=by rw[h3]at hwd;simpa[hJ]using hwd
     rw[Cg (sub env) (show 0<w.length by omega),Cg (sub env) (show 1<w.length by omega),hw _ (get_mem (by omega)),hw _ (get_mem (by omega))]
     subst h3
     simp
    ·simp only[if_neg h3,if_neg n8]
     by_cases h9:k=9
     ·exact absurd (.inr h9) hq
     ·have hkk:k=1∨k=2∨k=4∨k=5∨k=6∨k=7:=by
       obtain⟨hs,_⟩:=W1 ((Y6 (.mk k n w s)).1 hwf).1
       have hs:(s.length:Int)=arF k:=hs
       unfold arF at hs
       by_cases g1:k=1∨k=2∨k=3
       ·omega
       ·by_cases g2:k=4∨k=8∨k=9
        ·omega
        ·by_cases g3:k=5∨k=6∨k=7
         ·omega
         ·rw[if_neg g1,if_neg g2,if_neg g3]at hs
          omega
      rcases hkk with h|h|h|h|h|h<;>subst h<;>rfl
theorem Ah(hNi:∀i j,N i=N j→i=j)(hNU:∀i,¬U (N i)):∀(l:List u5) (env:List (Bs×Bs)) (i:Nat) (W V:Bs→Int) (j:Nat),kE l→(∀x,eP l (env.map (·.1)) x→U x)→(∀p∈env,∃j,j<i∧p.2=N j)→(∀w,w∈env.map (·.1)∨U w→V (sub env w)=W w)→vlL sz R (O8 N l env i) V j=vlL sz R l W j
 | [],env,i,W,V,j,_,_,_,_=>by rw[O8,vlL,vlL]
 |f::l,env,i,W,V,j,hwf,hf,he,ha=>by
  rw[kE]at hwf
  have h1:=JE hNi hNU f env i W V hwf.1 (fun x hx=>hf x (by rw[eP];exact .inl hx)) he ha
  have h2:=Ah hNi hNU l env (i+nq f) W V (j-1) hwf.2 (fun x hx=>hf x (by rw[eP];exact .inr hx)) (fun p hp=>by
   obtain⟨m,a,b⟩:=he p hp
   exact⟨m,by omega,b⟩) ha
  rw[O8,vlL,vlL,h1,h2]
end
end
section
variable {sz:Nat} {R S:Bs→List Int→Bool} {fr to:Bs} {a:Nat} {Q:Bs→Nat→Prop}
mutual
theorem JF(hQ:∀n t,Q n t.length→S (if n=fr∧t.length=a then to else n) t=R n t):∀(f:u5) (W:Bs→Int),prF Q f→vl sz S (cV fr to a f) W=vl sz R f W
 | .mk k n w s,W,h=>by
   rw[prF]at h
   have key:∀(V:Bs→Int) (j:Nat),vlL sz S (Q7 fr to a s) V j=vlL sz R s V j:=fun V j=>Gv hQ s V j h.2
   rw[cV,vl,vl]
   simp only[key]
   by_cases h2:k=2
   ·have e:=hQ n (w.map W) (by rw[List.length_map];exact h.1 h2)
    rw[List.length_map]at e
    have n1:¬k=1:=by omega
    rw[if_neg n1,if_neg n1,if_pos h2,if_pos h2, ←e]
    congr 1
    by_cases g:n=fr∧w.length=a
    ·rw[if_pos g,if_pos ⟨h2,g⟩]
    ·rw[if_neg g,if_neg fun x=>g x.2]
   ·have e:(if k=2∧n=fr∧w.length=a then to else n)=n:=if_neg fun x=>h2 x.1
    rw[e]
    simp only[if_neg h2]
theorem Gv(hQ:∀n t,Q n t.length→S (if n=fr∧t.length=a then to else n) t=R n t):∀(l:List u5) (W:Bs→Int) (j:Nat),wE Q l→vlL sz S (Q7 fr to a l) W j=vlL sz R l W j
 | [],W,j,_=>by rw[Q7,vlL,vlL]
 |f::l,W,j,h=>by
  rw[wE]at h
  rw[Q7,vlL,vlL,JF hQ f W h.1,Gv hQ l W (j-1) h.2]
end
mutual
theorem Gw{Q':Bs→Nat→Prop}(hQ:∀n l,Q n l→Q' (if n=fr∧l=a then to else n) l):∀f:u5,prF Q f→prF Q' (cV fr to a f)
 | .mk k n w s,h=>by
   rw[prF]at h
   rw[cV,prF]
   refine⟨fun h2=>?_,Ch hQ s h.2⟩
   have:=hQ n w.length (h.1 h2)
   by_cases g:n=fr∧w.length=a
   ·rw[if_pos ⟨h2,g⟩];rw[if_pos g]at this;exact this
   ·rw[if_neg fun x=>g x.2];rw[if_neg g]at this;exact this
theorem Ch{Q':Bs→Nat→Prop}(hQ:∀n l,Q n l→Q' (if n=fr∧l=a then to else n) l):∀l:List u5,wE Q l→wE Q' (Q7 fr to a l)
 | [],_=>by rw[Q7,wE];trivial
 |f::l,h=>by
  rw[wE]at h
  rw[Q7,wE]
  exact⟨Gw hQ f h.1,Ch hQ l h.2⟩
end
mutual
theorem Gx:∀f:u5,nsF (cV fr to a f)=nsF f
 | .mk k n w s=>by rw[cV,nsF,nsF,Ci s]
theorem Ci:∀l:List u5,tq (Q7 fr to a l)=tq l
 | []=>by rw[Q7]
 |f::l=>by rw[Q7,tq,tq,Gx f,Ci l]
end
end
mutual
theorem Gy(Q:Bs→Nat→Prop)(N:Nat→Bs):∀(f:u5) (env:List (Bs×Bs)) (i:Nat),prF Q f→prF Q (ren N f env i)
 | .mk k n w s,env,i,h=>by
   rw[prF]at h
   rw[ren,prF]
   refine⟨fun h2=>?_,Cj Q N s _ _ h.2⟩
   rw[if_neg (q2 h2),List.length_map]
   exact h.1 h2
theorem Cj(Q:Bs→Nat→Prop)(N:Nat→Bs):∀(l:List u5) (env:List (Bs×Bs)) (i:Nat),wE Q l→wE Q (O8 N l env i)
 | [],_,_,_=>by rw[O8,wE];trivial
 |f::l,env,i,h=>by
  rw[wE]at h
  rw[O8,wE]
  exact⟨Gy Q N f _ _ h.1,Cj Q N l _ _ h.2⟩
end
mutual
theorem Gz(N:Nat→Bs):∀(f:u5) (env:List (Bs×Bs)) (i:Nat),nsF (ren N f env i)=nsF f
 | .mk k n w s,env,i=>by rw[ren,nsF,nsF,Ck N s]
theorem Ck(N:Nat→Bs):∀(l:List u5) (env:List (Bs×Bs)) (i:Nat),tq (O8 N l env i)=tq l
 | [],_,_=>by rw[O8]
 |f::l,env,i=>by rw[O8,tq,tq,Gz N f,Ck N l]
end
theorem RY:xs 1=[[120,48]]:=by simp[xs,List.range_succ,xw,PG]
theorem RZ:xs 2=[[120,48],[120,49]]:=by simp[xs,List.range_succ,xw,PG]
theorem Sb:xs 3=[[120,48],[120,49],[120,50]]:=by simp[xs,List.range_succ,xw,PG]
theorem len2{ws:List Bs}(h:ws.length=2):∃x y,ws=[x,y]:=by
 match ws,h with
 | [x,y],_=>exact⟨x,y,rfl⟩
theorem Tw{ws:List Bs}(h:ws.length=3):∃x y z,ws=[x,y,z]:=by
 match ws,h with
 | [x,y,z],_=>exact⟨x,y,z,rfl⟩
theorem Ll{a:Nat}(h:a≤3):a=0∨a=1∨a=2∨a=3:=by omega
def bdL(a:Nat)(ws:List Bs):List w6:=List.zipWith (fun x y=>⟨x,y,zf⟩) (xs a) ws
theorem Lm{a:Nat}(ha:a≤3)(ws:List Bs)(hw:ws.length=a):∃e,(ptw (xs a) [] (xs a) ws).bind (cT [])=some e∧(((xs a).map (46:: ·)).map fun k=>(⟨k.drop 1,txE e k,fmE e k⟩:w6))=bdL a ws:=by
 rcases Ll ha with rfl|rfl|rfl|rfl
 ·obtain rfl:ws=[]:=by simpa using hw
  exact⟨[],rfl,rfl⟩
 ·obtain⟨x,rfl⟩:∃x,ws=[x]:=List.length_eq_one_iff.1 hw
  rw[RY]
  refine⟨[([46,120,48],⟨[46,120,48],x,zf⟩)],?_,?_⟩
  ·simp[ptw,cT,qT,assoc,C5]
  ·simp[bdL,RY,txE,fmE,assoc]
 ·obtain⟨x,y,rfl⟩:∃x y,ws=[x,y]:=len2 hw
  rw[RZ]
  refine⟨[([46,120,48],⟨[46,120,48],x,zf⟩),([46,120,49],⟨[46,120,49],y,zf⟩)],?_,?_⟩
  ·simp[ptw,cT,qT,assoc,C5]
  ·simp[bdL,RZ,txE,fmE,assoc]
 ·obtain⟨x,y,z,rfl⟩:∃x y z,ws=[x,y,z]:=Tw hw
  rw[Sb]
  refine⟨[([46,120,48],⟨[46,120,48],x,zf⟩),([46,120,49],⟨[46,120,49],y,zf⟩),([46,120,50],⟨[46,120,50],z,zf⟩)],?_,?_⟩
  ·simp[ptw,cT,qT,assoc,C5]
  ·simp[bdL,Sb,txE,fmE,assoc]
theorem Ln(o:Option (List w6)):cat (some []) (cat o (some []))=o:=by
 unfold cat
 cases o<;>simp
theorem yD{n:Bs}{a:Nat}(ha:a≤3)(g:u5):Iu (oN n a) g=if g.kind=2∧g.name=n∧g.words.length=a then(bdL a g.words,true)else([],false):=by
 have hpart:¬cS (oN n a) (oN n a).form:=fun h=>by cases h.2
 have hc:∀e,¬caught (oN n a) e:=fun e ⟨w,_,h⟩=>by rw[BW]at h;cases h
 have La:iU (oN n a)=(xs a).map (46:: ·):=by unfold iU;rw[BW];simp[oN]
 have Tx:pth (oN n a) (oN n a).form g=if n=g.name then some []else none:=by
  unfold pth
  rw[if_neg (q2 (show(oN n a).form.kind=2 from rfl)),if_neg (fun e=>by cases e.2)]
  rfl
 have hlen:(oN n a).form.words.length=a:=fL a
 unfold Iu
 rw[FH,if_neg hpart,hlen,Tx]
 by_cases h:g.kind=2∧g.name=n∧g.words.length=a
 ·obtain⟨h1,h2,h3⟩:=h
  obtain⟨e,he,hm⟩:=Lm ha g.words h3
  rw[if_pos (show g.kind=2∧g.name=n∧g.words.length=a from⟨h1,h2,h3⟩),if_neg (fun e=>e.elim (fun e=>e h1.symm) fun e=>e h3.symm),if_pos h2.symm]
  show(match (cat (some []) (cat (ptw (xs a) [] (xs a) g.words) (some []))).bind (cT [])with|none=>_|some e=>_)=_
  rw[Ln,he]
  simp only
  rw[if_neg (hc e),La,hm]
 ·rw[if_neg h]
  by_cases h1:(oN n a).form.kind≠g.kind∨a≠g.words.length
  ·rw[if_pos h1];rfl
  ·rw[if_neg h1,not_or,Classical.not_not,Classical.not_not]at*
   rw[if_neg fun e=>h ⟨h1.1.symm,e.symm,h1.2.symm⟩];rfl
theorem Di(fr to:Bs)(k:Int):Evt (fun n=>bY n fr to k) (fun r=>(∃a:Nat,k=(a:Int)∧a≤3∧D2 fr∧D2 to∧r=(⟨oN fr a,wS to a⟩,⟨0,0⟩))∨(r.2.code≠0∧¬(D2 fr∧D2 to∧0≤k∧k≤3))):=by
 unfold bY
 refine Evt.bind (dM fr) fun v hv=>?_
 refine Evt.cond (fun e=>?_) (fun e=>?_)
 ·unfold F9
  exact Evt.pure (.inr ⟨by decide,fun h=>by rw[(eR hv).2 h.1]at e;cases e⟩)
 have h1:D2 fr:=(eR hv).1 (by simpa using e)
 refine Evt.bind (dM to) fun v3 hv3=>?_
 refine Evt.cond (fun e=>?_) (fun e=>?_)
 ·unfold F9
  exact Evt.pure (.inr ⟨by decide,fun h=>by rw[(eR hv3).2 h.2.1]at e;cases e⟩)
 have h2:D2 to:=(eR hv3).1 (by simpa using e)
 refine Evt.cond (fun e=>?_) (fun e=>?_)
 ·unfold F9
  exact Evt.pure (.inr ⟨by decide,fun h=>by replace e:=bx e;omega⟩)
 replace e:=bx e
 obtain⟨a,rfl⟩:∃a:Nat,k=(a:Int):=⟨k.toNat,by omega⟩
 have ha:a≤3:=by omega
 refine Evt.C2 (P:=ExP (fun t=>t=(xs a,xs a,xs a)) (fun _=>False)) ((Evt.CU a (fun k s=>s=((xs a).take k,(xs a).take k,(xs a).take k,(k:Int))) (fun t=>t=(xs a,xs a,xs a)) (fun _=>False) (by simp) (fun k s hk hs=>?_) (fun s hs=>?_))) (fun t ht=>?_) (fun _ h=>h.elim)
 ·subst hs
  unfold Y0
  have hsn:(xs a).take (k+1)=(xs a).take k++[xw k]:=by rw[F8 (by rw[fL];exact hk),uY hk]
  have hl:((xs a).take k++[mG [120] (Lib.decDigits k)]).length≤10:=by rw[List.length_append,List.length_take,fL];simp;omega
  refine Evt.cond (fun _=>?_) (fun e=>by replace e:=bx e;omega)
  simp only[sQ (m:=k) (by omega),Option.bind_some]
  have hd:=jW (k:=k) (by omega)
  refine Evt.chk (by unfold M4;simp;omega) (Evt.P6 (Evt.chk ?_ (Evt.P6 (Evt.chk ?_ (Evt.P6 (Evt.chk ?_ (Evt.pure ?_)))))))
  ·rw[M0];omega
  ·rw[M0];omega
  ·rw[M0];omega
  ·show(_,_,_,_)=(_,_,_,_)
   rw[hsn,cr (by omega) (by omega)]
   rfl
 ·subst hs
  unfold Y0
  refine Evt.cond (fun e=>by replace e:=bx e;omega) (fun _=>Evt.pure ?_)
  have e:(xs a).take a=xs a:=by rw[List.take_of_length_le (by rw[fL];exact Nat.le_refl _)]
  show(_,_,_)=(_,_,_)
  rw[e]
 ·have ht:t=_:=ht
  subst ht
  unfold bI
  exact Evt.pure (.inl ⟨a,rfl,ha,h1,h2,rfl⟩)
def wH(fr to:Bs)(a:Nat):u7:=⟨oN fr a,wS to a⟩
theorem oP(fr:Bs)(a:Nat)(f:u5):F5 (oN fr a) f=some false:=by
 rw[wj]
 congr 1
 exact decide_eq_false fun h=>by cases h.2
theorem GA(n:Bs)(a:Nat):C7 (wS n a)=some false:=by
 rw[dc]
 congr 1
theorem Lo(n:Bs)(a:Nat):qs (wS n a)=[]:=BW n a
theorem nK(n:Bs)(a:Nat):Evt (fun m=>C4 m (wS n a)) (fun r=>r=[]):=by
 refine(sN _ _ (Nat.le_refl _) ?_).mono fun r hr=>by rw[hr,Lo]
 show ndF (.mk 2 n (xs a) [])≤_
 rw[ndF,bT];omega
theorem Dj(fr to:Bs)(a:Nat):Evt (fun n=>bZ n (wH fr to a)) (fun r=>r=false):=by
 unfold bZ gL
 refine Evt.bind (P:=fun v=>v=[]) (Evt.bind (P:=fun _=>True) (Evt.succ ?_) fun _ _=>Evt.pure rfl) fun v hv=>?_
 ·simp only[M7]
  have:=oP fr a (wS fr a)
  show Evt (fun n=>(F5 (oN fr a) (wS fr a)).bind fun v1=>bif v1 then none else Y1 (M7 n) (wS fr a) [] 2 fr (xs a) [] (xs a) [] [] [] ()) (fun _=>True)
  rw[this]
  simp only[Option.bind_some,cond_false]
  unfold Y1
  rw[GA]
  simp only[Option.bind_some,cond_false]
  unfold Y2
  exact⟨(),trivial,0,fun n _=>rfl⟩
 ·subst hv
  refine Evt.bind (nK fr a) fun v2 hv2=>?_
  subst hv2
  refine Evt.bind (P:=fun v=>v=false) (Evt.succ ?_) fun v hv=>Evt.pure hv
  simp only[G4]
  show Evt (fun n=>(F5 (oN fr a) (wS to a)).bind _) _
  rw[oP]
  simp only[Option.bind_some,cond_false]
  unfold T9
  refine Evt.C2 (P:=ExP (fun _=>True) (fun _=>False)) ((Evt.range (fun _ _=>True) (fun _=>False) (fun _=>False) trivial (fun k s hk hs=>?_)).mono fun e he=>?_) (fun t ht=>?_) (fun _ h=>h.elim)
  ·unfold aQ
   rw[J8]
   simp only[Option.bind_some,List.not_mem_nil,decide_false]
   exact Evt.pure trivial
  ·cases e with
   |ret r=>exact he
   |nxt t=>trivial
  ·unfold aR
   show Evt (fun n=>(C7 (wS to a)).bind _) _
   rw[GA]
   simp only[Option.bind_some,cond_false]
   unfold U0 H9 K5
   exact⟨false,rfl,0,fun n _=>rfl⟩
theorem uf{fr to:Bs}{a:Nat}(h1:D2 fr)(h2:D2 to)(ha:a≤3):Evt (fun n=>bh n [wH fr to a]) (fun r=>r=⟨0,0⟩):=by
 unfold bh
 refine Evt.cond (fun e=>by simp at e) (fun _=>?_)
 refine Evt.C2 (P:=ExP (fun _=>True) (fun _=>False)) ((Evt.range (fun _ _=>True) (fun _=>False) (fun _=>False) trivial (fun k s hk hs=>?_)).mono fun e he=>?_) (fun t ht=>Evt.pure rfl) (fun _ h=>h.elim)
 ·obtain rfl:k=0:=by simp at hk;omega
  unfold aS
  have e0:Am.get [wH fr to a] 0=wH fr to a:=rfl
  rw[e0]
  refine Evt.bind (zS (OD (n:=fr) ha)) fun v hv=>?_
  obtain rfl:=GV.ok hv (Gq h1 ha)
  refine Evt.cond (fun e=>by simp at e) (fun _=>?_)
  show Evt (fun n=>(F5 (oN fr a) (wS fr a)).bind _) _
  rw[oP]
  simp only[Option.bind_some,cond_false]
  refine Evt.bind (bH _) fun v hv=>?_
  subst hv
  rw[show oH (wH fr to a).to_=⟨0,0⟩from oI (Gp h2 ha)]
  refine Evt.cond (fun e=>by simp at e) (fun _=>?_)
  refine Evt.bind (nK to a) fun v27 hv27=>?_
  subst hv27
  refine Evt.C2 (P:=ExP (fun _=>True) (fun _=>False)) ⟨.nxt (),trivial,0,fun n _=>rfl⟩ (fun _ _=>?_) (fun _ h=>h.elim)
  unfold aT
  rw[e0]
  refine Evt.bind (Dj fr to a) fun v hv=>?_
  subst hv
  exact Evt.pure trivial
 ·cases e with
  |ret r=>exact he
  |nxt t=>trivial
theorem wI{a:Nat}{ws:List Bs}(h:ws.length=a):(bdL a ws).length=a:=by unfold bdL;rw[List.length_zipWith,fL,h];omega
theorem Lp{a:Nat}{ws:List Bs}(h:ws.length=a){k:Nat}(hk:k<a):Am.get (bdL a ws) k=⟨xw k,Am.get ws k,zf⟩:=by
 have e1:Am.get (xs a) k=xw k:=uY hk
 unfold Am.get at e1⊢
 unfold bdL
 rw[List.getD_eq_getElem?_getD,List.getElem?_eq_getElem (by rw[fL];exact hk)]at e1
 rw[List.getD_eq_getElem?_getD,List.getElem?_eq_getElem (by rw[List.length_zipWith,fL,h];omega),List.getD_eq_getElem?_getD,List.getElem?_eq_getElem (by omega)]
 simp only[Option.getD_some]at e1⊢
 rw[List.getElem_zipWith,e1]
theorem Lq{a:Nat}{ws:List Bs}(h:ws.length=a){k:Nat}(hk:k<a):Evt (fun _=>U1 (bdL a ws) (xw k)) (fun r=>r=Am.get ws k):=by
 unfold U1
 refine Evt.C2 (Evt.scan (fun j _=>j≤k) (fun j r=>r=Am.get ws k) (Nat.zero_le _) (fun j u hj hi=>?_)) (fun t ht=>?_) (fun r hr=>?_)
 ·rw[wI h]at hj
  unfold bJ
  rw[Lp h hj]
  refine Evt.cond (fun e=>Evt.pure ?_) (fun e=>Evt.pure ?_)
  ·replace e:=bx e
   have:=Jy e
   subst this
   rfl
  ·replace e:=bx e
   show j+1≤k
   have:j≠k:=fun ej=>e (by rw[ej])
   omega
 ·have ht:(bdL a ws).length≤k:=ht
  rw[wI h]at ht
  omega
 ·obtain⟨_,_,_,_,e⟩:=hr
  exact e
theorem GC{fr to:Bs}{a:Nat}(ha:a≤3){ws:List Bs}(hw:ws.length=a)(self:Nat→u5→Bs→List u7→Int→List (Bs×Int)→List u6→Option (w5×Bool×Int×List u6))(path:Bs)(rs:List u7)(c:Int)(mp:List (Bs×Int))(u:List u6):
 Evt (fun n=>cW (self n) n (wH fr to a) (bdL a ws) path rs c mp u) (fun r=>r=(⟨.mk 2 to ws [],1,1⟩,true,c,u)):=by
 unfold cW
 refine Evt.bind (nK to a) fun v hv=>?_
 subst hv
 refine Evt.C2 (P:=ExP (fun t=>t=(c,[])) (fun _=>False)) ⟨.nxt (c,[]),rfl,0,fun n _=>rfl⟩ (fun t ht=>?_) (fun _ h=>h.elim)
 have ht:t=_:=ht
 subst ht
 unfold cG iE
 refine Evt.bind (P:=fun _=>True) (Evt.bind (P:=fun _=>True) (Evt.succ ?_) fun _ _=>Evt.pure trivial) fun v19 _=>?_
 ·simp only[S5]
  show Evt (fun n=>(gd (!(assoc fr ([]:List (Bs×Bs))).isSome) (F5 (oN fr a) (wS fr a)) default).bind _) _
  rw[oP]
  exact⟨_,trivial,0,fun n _=>rfl⟩
 refine Evt.bind (P:=fun r=>r.1=⟨.mk 2 to ws [],1,1⟩∧r.2.1=true∧r.2.2.1=c∧r.2.2.2.1=u) (Evt.succ ?_) fun r hr=>Evt.pure ?_
 ·simp only[P3]
  show Evt (fun n=>(F5 (oN fr a) (wS to a)).bind _) _
  rw[oP]
  simp only[Option.bind_some,cond_false]
  refine Evt.C2 (P:=ExP (fun t=>t=ws) (fun _=>False)) ((Evt.range (fun k s=>s=ws.take k) (fun _=>False) (fun _=>False) (by simp) (fun k s hk hs=>?_)).mono fun e he=>?_) (fun t ht=>?_) (fun _ h=>h.elim)
  ·have hk:k<(xs a).length:=hk
   rw[fL]at hk
   have hgw:Am.get (wH fr to a).to_.words k=xw k:=uY hk
   have hlen:((wH fr to a).from_.words.length:Int)=(a:Int):=by show((xs a).length:Int)=_;rw[fL]
   unfold bK
   rw[J8]
   simp only[Option.bind_some,List.not_mem_nil,decide_false,cond_false]
   rw[hgw,hlen]
   have hbl:=wI hw
   refine Evt.chk ⟨by omega,by rw[hbl];simp⟩ ?_
   have et:(bdL a ws).take ((a:Int)).toNat=bdL a ws:=List.take_of_length_le (by rw[hbl];simp)
   rw[et]
   refine Evt.bind (Lq hw hk) fun v hv=>Evt.P6 (Evt.chk ?_ (Evt.pure ?_))
   ·rw[M0,hs];simp only[List.length_append,List.length_take,List.length_cons,List.length_nil];omega
   ·show s++[v]=_
    rw[hv,hs,F8 (by omega)]
  ·cases e with
   |ret r=>exact he
   |nxt t=>
    have he:t=ws.take (wH fr to a).to_.words.length:=he.elim id False.elim
    rw[show(wH fr to a).to_.words.length=a from fL a,List.take_of_length_le (by omega)]at he
    exact he
  ·have ht:ws=t:=Eq.symm ht
   subst ht
   unfold bL
   show Evt (fun n=>(C7 (wS to a)).bind _) _
   rw[GA]
   simp only[Option.bind_some,cond_false]
   have hlen:((wH fr to a).from_.words.length:Int)=(a:Int):=by show((xs a).length:Int)=_;rw[fL]
   have hp:((wH fr to a).from_.E9.length:Int)=0:=rfl
   have hbl:=wI hw
   rw[hlen,hp]
   refine Evt.cond (fun _=>?_) (fun e=>by cases e)
   have hwr:wr .i64 ((a:Int)+0)=(a:Int):=by rw[cr (by omega) (by omega)];omega
   rw[hwr]
   refine Evt.chk ⟨by omega,by omega,by omega,by rw[hbl];simp⟩ ?_
   have ed:((bdL a ws).drop ((a:Int)).toNat).take (((a:Int)).toNat-((a:Int)).toNat)=[]:=by rw[Nat.sub_self,List.take_zero]
   rw[ed]
   refine Evt.bind (P:=fun v=>v=to) ⟨to,rfl,0,fun n _=>rfl⟩ fun v hv=>?_
   subst hv
   unfold P8
   exact⟨_,⟨rfl,rfl,rfl,rfl⟩,0,fun n _=>rfl⟩
 ·obtain⟨e1,e2,e3,e4⟩:=hr
  rw[e1,e2,e3,e4]
mutual
def hits(fr:Bs)(a:Nat):u5→Bs→List Bs
 | .mk k n w s,p=>if k=2∧n=fr∧w.length=a then [p]else lU fr a s p 0
def lU(fr:Bs)(a:Nat):List u5→Bs→Nat→List Bs
 | [],_,_=>[]
 |f::l,p,i=>hits fr a f (p++Lib.decDigits i)++lU fr a l p (i+1)
end
section
variable (fr:Bs) (a:Nat)
theorem GD(f:u5)(p:Bs):hits fr a f p=if f.kind=2∧f.name=fr∧f.words.length=a then [p]else lU fr a f.subs p 0:=by cases f;rw[hits];rfl
theorem uZ:∀(l:List u5) (x:u5) (p:Bs) (i:Nat),lU fr a (l++[x]) p i=lU fr a l p i++hits fr a x (p++Lib.decDigits (i+l.length))
 | [],x,p,i=>by simp[lU]
 |b::l,x,p,i=>by rw[List.cons_append,lU,lU,uZ l,List.append_assoc,List.length_cons,show i+1+l.length=i+(l.length+1)by omega]
mutual
theorem wJ:∀(f:u5) (p:Bs),(hits fr a f p).Sublist (wz f p)
 | .mk k n w s,p=>by
   rw[hits,wz]
   split
   ·exact(List.nil_sublist _).cons_cons p
   ·exact(tA s p 0).cons p
theorem tA:∀(l:List u5) (p:Bs) (i:Nat),(lU fr a l p i).Sublist (hY l p i)
 | [],p,i=>by rw[lU,hY];exact List.nil_sublist _
 |f::l,p,i=>by rw[lU,hY];exact(wJ f _).append (tA l p (i+1))
end
theorem IG(f:u5)(p:Bs):(hits fr a f p).length≤ndF f:=by
 have:=(wJ fr a f p).length_le
 rw[wA]at this
 exact this
end
def usd(mp:List (Bs×Int))(q:Bs):u6:=⟨(assoc q mp).getD default,0⟩
theorem Lr{f:u5}(h:SmF f)(hn:ndF f≤200)(fr:Bs)(a:Nat):PE ((hits fr a f []).map (usd (tJ (wz f []) 0))):=by
 have hnd:=Gc f [] h
 have hs:=wJ fr a f []
 have key:∀q∈hits fr a f [],∃j,j<ndF f∧Am.get (wz f []) j=q∧usd (tJ (wz f []) 0) q=⟨(j:Int),0⟩:=fun q hq=>by
  obtain⟨j,hj,e⟩:=bD.1 (hs.subset hq)
  refine⟨j,by rw[←wA f []];exact hj,e,?_⟩
  unfold usd
  rw[←e,uV _ 0 j hnd hj,Nat.zero_add]
  rfl
 refine⟨fun x hx=>?_,?_⟩
 ·obtain⟨q,hq,rfl⟩:=List.mem_map.1 hx
  obtain⟨j,hj,_,e⟩:=key q hq
  rw[e]
  exact⟨by show(0:Int)≤(j:Int);omega,by show(j:Int)≤_;omega⟩
 ·rw[List.map_map]
  refine List.pairwise_map.2 ((hnd.sublist hs).imp_of_mem fun {x y} hx hy hne e=>?_)
  obtain⟨i,_,e1,e2⟩:=key x hx
  obtain⟨j,_,e3,e4⟩:=key y hy
  have e:(usd (tJ (wz f []) 0) x).at_=(usd (tJ (wz f []) 0) y).at_:=e
  rw[e2,e4]at e
  have e:(i:Int)=(j:Int):=e
  have:i=j:=by omega
  subst this
  exact hne (e1.symm.trans e3)
section
variable {fr to:Bs} {a:Nat}
theorem Ai(hfr:D2 fr)(ha:a≤3):∀(m:Nat) (f:u5),SizeOf.sizeOf f≤m→ArF f→ndF f≤200→dpF f≤40→∀(path:Bs) (c:Int) (mp:List (Bs×Int)) (u:List u6),path.length+ndF f≤100000→u.length+ndF f≤100000→
 Evt (fun n=>G5 n f path [wH fr to a] c mp u) (fun r=>r=(szF (cV fr to a f),true,c,u++(hits fr a f path).map (usd mp))):=by
 intro m
 induction m with
 |zero=>intro f h;cases f;simp only[u5.mk.sizeOf_spec]at h;omega
 |succ m ih=>
  intro f hf har hn hdp path c mp u hp hu
  have hsm:=ArF.sm f har
  have hsl:=sV hsm
  have hnd:=sK f
  have hdq:=Bd f
  have hgs:=(Gq hfr ha).good
  refine Evt.succ ?_
  simp only[G5]
  by_cases hh:f.kind=2∧f.name=fr∧f.words.length=a
  ·obtain⟨h1,h2,h3⟩:=hh
   have hs:f.subs=[]:=by
    have:=((Gd f).1 har).1
    rw[h1]at this
    have:f.subs.length=0:=by
     have e:arF 2=0:=rfl
     rw[e]at this;omega
    exact List.length_eq_zero_iff.1 this
   have hres:(szF (cV fr to a f),true,c,u++(hits fr a f path).map (usd mp))=((⟨.mk 2 to f.words [],1,1⟩:w5),true,c,u++[usd mp path]):=by
    rw[GD,if_pos ⟨h1,h2,h3⟩]
    unfold szF
    rw[sZ,wB,hnd,hdq,Gh,if_pos ⟨h1,h2,h3⟩,hs,h1]
    rfl
   rw[hres]
   refine Evt.C2 (P:=ExP (fun _=>False) (fun r=>r=((⟨.mk 2 to f.words [],1,1⟩:w5),true,c,u++[usd mp path]))) ((Evt.scan (fun k _=>k=0) (fun _ r=>r=((⟨.mk 2 to f.words [],1,1⟩:w5),true,c,u++[usd mp path])) rfl (fun k s hk hs=>?_)).mono fun e he=>?_) (fun t ht=>ht.elim) (fun r hr=>hr)
   ·subst hs
    unfold U2
    have e0:Am.get [wH fr to a] 0=wH fr to a:=rfl
    rw[e0]
    refine Evt.bind (BN hgs har) fun v hv=>?_
    rw[yD ha,if_pos ⟨h1,h2,h3⟩]at hv
    subst hv
    refine Evt.cond (fun e=>by cases e) (fun _=>Evt.P6 (Evt.chk ?_ ?_))
    ·rw[M0];simp only[List.length_append,List.length_cons,List.length_nil];omega
    refine Evt.bind (GC ha h3 _ path _ c mp _) fun v9 hv9=>Evt.pure ?_
    subst hv9
    rfl
   ·cases e with
    |ret r=>obtain⟨_,_,_,_,e⟩:=he;exact e
    |nxt t=>
     have he:(1:Nat)=0:=he
     omega
  ·have Tz:cV fr to a f= .mk f.kind f.name f.words (f.subs.map (cV fr to a)):=by rw[Gh,if_neg hh,oM]
   refine Evt.C2 (P:=ExP (fun _=>True) (fun _=>False)) ((Evt.range (fun _ _=>True) (fun _=>False) (fun _=>False) trivial (fun k s hk hs=>?_)).mono fun e he=>?_) (fun _ _=>?_) (fun _ h=>h.elim)
   ·obtain rfl:k=0:=by simp at hk;omega
    unfold U2
    have e0:Am.get [wH fr to a] 0=wH fr to a:=rfl
    rw[e0]
    refine Evt.bind (BN hgs har) fun v hv=>?_
    rw[yD ha,if_neg hh]at hv
    subst hv
    exact Evt.cond (fun _=>Evt.pure trivial) (fun e=>by cases e)
   ·cases e with
    |ret r=>exact he
    |nxt t=>trivial
   unfold aU
   have hS:∀k:Nat,(c,u++(lU fr a (f.subs.take k) path 0).map (usd mp),(f.subs.take k).map (fun x=>szF (cV fr to a x)),(f.subs.take k).map (cV fr to a))=(c,u++(lU fr a (f.subs.take k) path 0).map (usd mp),(f.subs.take k).map (fun x=>szF (cV fr to a x)),(f.subs.take k).map (cV fr to a)):=fun _=>rfl
   refine Evt.C2 (P:=ExP (fun t=>t=(c,u++(lU fr a f.subs path 0).map (usd mp),f.subs.map (fun x=>szF (cV fr to a x)),f.subs.map (cV fr to a))) (fun _=>False)) ((Evt.range (fun k t=>t=(c,u++(lU fr a (f.subs.take k) path 0).map (usd mp),(f.subs.take k).map (fun x=>szF (cV fr to a x)),(f.subs.take k).map (cV fr to a))) (fun _=>False) (fun _=>False) (by simp[lU]) (fun k t hk ht=>?_)).mono fun e he=>?_) (fun t ht=>?_) (fun _ h=>h.elim)
   ·subst ht
    have hsz:=J6 hk
    have htk:=gR hk
    have hdk:=kJ hk
    have hd:=jW (k:=k) (by omega)
    have hlk:(f.subs.take k).length=k:=by rw[List.length_take];omega
    have hhl:(lU fr a (f.subs.take k) path 0).length≤bT (f.subs.take k):=by
     have:=(tA fr a (f.subs.take k) path 0).length_le
     rw[sY]at this
     exact this
    unfold aV
    simp only[sQ (m:=k) (by omega),Option.bind_some]
    refine Evt.chk (by unfold M4;omega) (Evt.bind (ih _ (by omega) (Ge har hk) (by omega) (by omega) _ c mp _ ?_ ?_) fun v hv=>?_)
    ·show(path++Lib.decDigits k).length+_≤_
     rw[List.length_append];omega
    ·simp only[List.length_append,List.length_map];omega
    ·subst hv
     refine Evt.cond (fun e=>by cases e) (fun _=>Evt.P6 (Evt.chk ?_ (Evt.P6 (Evt.chk ?_ (Evt.pure ?_)))))
     ·rw[M0];simp only[List.length_append,List.length_map,List.length_take,List.length_cons,List.length_nil];omega
     ·rw[M0];simp only[List.length_append,List.length_map,List.length_take,List.length_cons,List.length_nil];omega
     ·show(_,_,_,_)=(_,_,_,_)
      rw[F8 hk,List.map_append,List.map_append,uZ,List.map_append,hlk,Nat.zero_add,List.append_assoc];rfl
   ·cases e with
    |ret r=>exact he
    |nxt t=>
     have:=he.elim id False.elim
     rw[List.take_length]at this
     exact this
   ·have ht:t=_:=ht
    subst ht
    unfold aW
    have em:f.subs.map (fun x=>szF (cV fr to a x))=(Q7 fr to a f.subs).map szF:=by rw[oM,List.map_map];rfl
    simp only[em]
    refine Evt.bind (KY (by rw[qU];omega) (by rw[qV];omega)) fun v hv=>Evt.pure ?_
    subst hv
    rw[qU,qV]
    have h1:decide (1+bT f.subs≤200∧jr f.subs<40)=true:=decide_eq_true (by omega)
    rw[h1,GD,if_neg hh]
    unfold szF
    rw[sZ,wB,hnd,hdq,Nat.add_comm (jr f.subs) 1,Tz]
theorem GF(hfr:D2 fr)(hto:D2 to)(ha:a≤3){f:u5}(h:OkF f):Evt (fun n=>fT n [wH fr to a] f) (fun r=>r.1=cf (cV fr to a f)∧r.2.2=true):=by
 have hn:=h.2.1
 have hq:=zO f
 have har:=WfF.ar f h.1
 have hsm:=WfF.sm f h.1
 have hag:ArF (ren qn f [] 0):=ArF.ren qn f [] 0 har
 have hsg:SmF (ren qn f [] 0):=ArF.sm _ hag
 have hgn:ndF (ren qn f [] 0)=ndF f:=Fh qn f [] 0
 have hgd:dpF (ren qn f [] 0)=dpF f:=Fj qn f [] 0
 unfold fT
 refine Evt.bind (Iy _ f (Nat.le_refl _) hsm _ 0 [] [] (by omega)) fun v1 hv1=>?_
 subst hv1
 refine Evt.bind (Db _ _ (Nat.le_refl _) hsg [] _ _ [] [] (by simp;omega) (fun q hq=>by cases hq)) fun v2 hv2=>?_
 subst hv2
 refine Evt.bind (Ai hfr ha _ _ (Nat.le_refl _) hag (by omega) (by rw[hgd];exact h.2.2) [] _ _ [] (by simp;omega) (by simp;omega)) fun v3 hv3=>?_
 subst hv3
 refine Evt.cond (fun e=>by cases e) (fun _=>?_)
 refine Evt.bind (P:=fun _=>True) ?_ fun v4 _=>Evt.bind (P:=fun v=>v=cf (cV fr to a (ren qn f [] 0))) (FY (f:=cV fr to a (ren qn f [] 0)) (ArF.sm _ (Gj fr to a _ hag)) (by rw[sZ];omega)) fun v6 hv6=>Evt.pure ⟨?_,rfl⟩
 ·unfold D9
  have hl:=IG fr a (ren qn f [] 0) []
  refine Evt.chk ⟨?_,?_⟩ (Evt.pure trivial)
  ·simp only[List.nil_append,List.length_map];omega
  ·exact Lr hsg (by omega) fr a
 ·show v6=_
  rw[hv6,BP,Oy (Ae fr a hto f h.1) Oz KX]
theorem GH(hfr:D2 fr)(hto:D2 to)(ha:a≤3){f:u5}(h:OkF f):Evt (fun n=>cH n [wH fr to a] f) (fun r=>r=(cf (cV fr to a f),⟨0,0⟩)):=by
 unfold cH ft
 refine Evt.bind (P:=fun v=>v=⟨0,0⟩) (Evt.bind (uf hfr hto ha) fun v hv=>?_) fun v hv=>?_
 ·subst hv
  refine Evt.cond (fun e=>by simp at e) (fun _=>Evt.bind (bH f) fun v hv=>Evt.pure ?_)
  rw[hv,oI h]
 ·subst hv
  refine Evt.cond (fun e=>by simp at e) (fun _=>Evt.bind (GF hfr hto ha h) fun w hw=>?_)
  obtain⟨e1,e2⟩:=hw
  rw[e1,e2]
  exact Evt.cond (fun e=>by cases e) (fun _=>Evt.pure rfl)
end
theorem yE{α:Type}[Inhabited α](l:List α)(x:α)(k:Nat):Am.get (l++[x]) k=if k<l.length then Am.get l k else if k=l.length then x else default:=by
 by_cases h:k<l.length
 ·rw[if_pos h];exact(qP l x).2 k h
 ·rw[if_neg h]
  by_cases e:k=l.length
  ·rw[if_pos e,e];exact(qP l x).1
  ·rw[if_neg e]
   unfold Am.get
   rw[List.getD_eq_getElem?_getD,List.getElem?_eq_none (by simp;omega)];rfl
theorem StK.snoc{l:List w7}{y:w7}(h:StK l)(hy:∀x∈l,ltK (fJ x) (fJ y)):StK (l++[y]):=fun i j hij hj=>by
 have hj:j<l.length+1:=by simpa using hj
 rw[yE,yE,if_pos (show i<l.length by omega)]
 by_cases e:j<l.length
 ·rw[if_pos e];exact h i j hij e
 ·rw[if_neg e,if_pos (by omega)]
  exact hy _ (get_mem (by omega))
structure LI(tK:List w7)(p:Nat)(mv:w7)(k:Nat)(l:List w7)(put:Bool):Prop where
 ne:∀j,j<k→fJ (Am.get tK j)≠fJ mv
 st:StK l
 mem:∀x,x∈l↔(∃j,j<k∧j≠p∧x=Am.get tK j)∨(put=true∧x=mv)
 up:∀x∈l,∀j,k≤j→j<tK.length→ltK (fJ x) (fJ (Am.get tK j))
 lo:put=false→∀j,j<k→ltK (fJ (Am.get tK j)) (fJ mv)
 ln:l.length+(if p<k then 1 else 0)=k+(if put=true then 1 else 0)
section
variable {tK:List w7} {p:Nat} {mv:w7} {k:Nat} {l:List w7} {put:Bool}
theorem LI.zero:LI tK p mv 0 [] false:=⟨fun j h=>absurd h (Nat.not_lt_zero _),fun i j _ h=>absurd h (Nat.not_lt_zero _),fun x=>⟨fun h=>(by cases h),fun h=>h.elim (fun⟨j,h,_⟩=>absurd h (Nat.not_lt_zero _)) fun h=>by cases h.1⟩,fun x h=>(by cases h),fun _ j h=>absurd h (Nat.not_lt_zero _),by simp⟩
theorem LI.ins(h:LI tK p mv k l false)(hlt:∀j,k≤j→j<tK.length→ltK (fJ mv) (fJ (Am.get tK j))):LI tK p mv k (l++[mv]) true:=by
 refine⟨h.ne,h.st.snoc fun x hx=>?_,fun x=>?_,fun x hx j h1 h2=>?_,fun e=>(by cases e),?_⟩
 ·rcases(h.mem x).1 hx with⟨j,h1,h2,rfl⟩|⟨e,_⟩
  ·exact h.lo rfl j h1
  ·cases e
 ·rw[List.mem_append,h.mem,List.mem_singleton]
  simp
 ·rcases List.mem_append.1 hx with hx|hx
  ·exact h.up x hx j h1 h2
  ·rw[List.mem_singleton]at hx
   subst hx
   exact hlt j h1 h2
 ·have:=h.ln
  simp only[List.length_append,List.length_cons,List.length_nil,if_true,Bool.false_eq_true,if_false]at this⊢
  omega
theorem LI.skip(h:LI tK p mv k l put)(hne:fJ (Am.get tK k)≠fJ mv)(hlo:put=false→ltK (fJ (Am.get tK k)) (fJ mv))(e:k=p):LI tK p mv (k+1) l put:=by
 refine⟨fun j hj=>?_,h.st,fun x=>?_,fun x hx j h1 h2=>h.up x hx j (by omega) h2,fun ep j hj=>?_,?_⟩
 ·by_cases ej:j=k
  ·subst ej;exact hne
  ·exact h.ne j (by omega)
 ·rw[h.mem]
  constructor
  ·rintro(⟨j,h1,h2⟩|h1)
   ·exact .inl ⟨j,by omega,h2⟩
   ·exact .inr h1
  ·rintro(⟨j,h1,h2,h3⟩|h1)
   ·exact .inl ⟨j,by omega,h2,h3⟩
   ·exact .inr h1
 ·by_cases ej:j=k
  ·subst ej;exact hlo ep
  ·exact h.lo ep j (by omega)
 ·have:=h.ln
  subst e
  simp only[Nat.lt_irrefl,if_false,Nat.lt_succ_self,if_true]at this⊢
  omega
theorem LI.next(h:LI tK p mv k l put)(hst:StK tK)(hk:k<tK.length)(hne:fJ (Am.get tK k)≠fJ mv)(hlo:put=false→ltK (fJ (Am.get tK k)) (fJ mv))(e:k≠p):LI tK p mv (k+1) (l++[Am.get tK k]) put:=by
 refine⟨fun j hj=>?_,h.st.snoc fun x hx=>h.up x hx k (Nat.le_refl _) hk,fun x=>?_,fun x hx j h1 h2=>?_,fun ep j hj=>?_,?_⟩
 ·by_cases ej:j=k
  ·subst ej;exact hne
  ·exact h.ne j (by omega)
 ·rw[List.mem_append,h.mem,List.mem_singleton]
  constructor
  ·rintro((⟨j,h1,h2⟩|h1)|h1)
   ·exact .inl ⟨j,by omega,h2⟩
   ·exact .inr h1
   ·exact .inl ⟨k,by omega,e,h1⟩
  ·rintro(⟨j,h1,h2,h3⟩|h1)
   ·by_cases ej:j=k
    ·subst ej;exact .inr h3
    ·exact .inl (.inl ⟨j,by omega,h2,h3⟩)
   ·exact .inl (.inr h1)
 ·rcases List.mem_append.1 hx with hx|hx
  ·exact h.up x hx j (by omega) h2
  ·rw[List.mem_singleton]at hx
   subst hx
   exact hst k j (by omega) h2
 ·by_cases ej:j=k
  ·subst ej;exact hlo ep
  ·exact h.lo ep j (by omega)
 ·have:=h.ln
  simp only[List.length_append,List.length_cons,List.length_nil]
  by_cases g:p<k
  ·rw[if_pos g]at this;rw[if_pos (by omega)];omega
  ·rw[if_neg g]at this;rw[if_neg (by omega)];omega
end
theorem Dg.all{m:B4}(h:nJ m){x:w7}(hx:x∈m.relations):D2 x.name∧(0≤x.arity∧x.arity≤3)∧Gt m.size x.arity x.tuples:=by
 obtain⟨j,hj,rfl⟩:=bD.1 hx
 have:=h.rel j hj
 exact⟨this.1,this.2.1,this.2.2.2⟩
section
variable {m:B4} {p:Nat} {to:Bs} {a:Nat} {l:List w7}
def mvR(m:B4)(p:Nat)(to:Bs):w7:=⟨to,(Am.get m.relations p).arity,(Am.get m.relations p).tuples⟩
def otM(m:B4)(l:List w7):B4:=⟨m.size,m.constants,l⟩
theorem JG(hp:p<m.relations.length)(hli:LI m.relations p (mvR m p to) m.relations.length l true)(hl:∀k,k<m.relations.length→(Am.get m.relations k).tuples.length≤1000000000):∀k,k<l.length→(Am.get l k).tuples.length≤1000000000:=fun k hk=>by
 rcases(hli.mem _).1 (get_mem hk)with⟨j,h1,_,e⟩|⟨_,e⟩
 ·rw[e];exact hl j h1
 ·rw[e];exact hl p hp
theorem JH(hm:nJ m)(hp:p<m.relations.length)(hto:D2 to)(hli:LI m.relations p (mvR m p to) m.relations.length l true):nJ (otM m l):=by
 refine⟨hm.sz,hm.cl,?_,hm.con,fun k hk=>?_⟩
 ·have:=hli.ln
  rw[if_pos hp,if_pos rfl]at this
  have:=hm.rl
  show l.length≤300
  omega
 ·have hk:k<l.length:=hk
  have key:D2 (Am.get l k).name∧(0≤(Am.get l k).arity∧(Am.get l k).arity≤3)∧Gt m.size (Am.get l k).arity (Am.get l k).tuples:=by
   rcases(hli.mem _).1 (get_mem hk)with⟨j,h1,_,e⟩|⟨_,e⟩
   ·rw[e];exact Dg.all hm (get_mem h1)
   ·rw[e]
    have:=Dg.all hm (get_mem hp)
    exact⟨hto,this.2⟩
  exact⟨key.1,key.2.1,fun h0=>hli.st (k-1) k (by omega) hk,key.2.2⟩
theorem OH(hm:nJ m)(hp:p<m.relations.length)(hto:D2 to)(hli:LI m.relations p (mvR m p to) m.relations.length l true)(hl:∀k,k<m.relations.length→(Am.get m.relations k).tuples.length≤1000000000){x:w7}(hx:x∈l){n:Bs}{c:Int}(e:fJ x=(n,c)):fdM (otM m l) n c=(x,true):=by
 obtain⟨j,hj,rfl⟩:=bD.1 hx
 exact Rg ((JH hm hp hto hli).vm (JG hp hli hl)) hj e
theorem OI(hm:nJ m)(hp:p<m.relations.length)(ha:(Am.get m.relations p).arity=(a:Int))(hto:D2 to)(hli:LI m.relations p (mvR m p to) m.relations.length l true)(hl:∀k,k<m.relations.length→(Am.get m.relations k).tuples.length≤1000000000)(n:Bs)(c:Nat)(h:Dt m n c):
 (fdM (otM m l) (if n=(Am.get m.relations p).name∧c=a then to else n) (c:Int)).2=true∧(fdM (otM m l) (if n=(Am.get m.relations p).name∧c=a then to else n) (c:Int)).1.tuples=(fdM m n (c:Int)).1.tuples:=by
 have hvm:=hm.vm hl
 unfold Dt at h
 rcases(Dc hvm n (c:Int)).2 with⟨k,hk,ek,e⟩|⟨_,e⟩
 ·by_cases g:n=(Am.get m.relations p).name∧c=a
  ·obtain⟨rfl,rfl⟩:=g
   rw[if_pos ⟨rfl,rfl⟩]
   have ekp:k=p:=hvm.st.uniq hk hp (ek.trans (by unfold fJ;rw[ha]))
   subst ekp
   rw[OH hm hp hto hli hl ((hli.mem _).2 (.inr ⟨rfl,rfl⟩)) (show fJ (mvR m k to)=(to,(c:Int))by unfold fJ mvR;rw[ha]),e]
   exact⟨rfl,rfl⟩
  ·rw[if_neg g]
   have hkp:k≠p:=fun e'=>by
    subst e'
    have h1:(Am.get m.relations k).name=n:=congrArg Prod.fst ek
    have h2:(Am.get m.relations k).arity=(c:Int):=congrArg Prod.snd ek
    exact g ⟨h1.symm,by omega⟩
   rw[OH hm hp hto hli hl ((hli.mem _).2 (.inl ⟨k,hk,hkp,rfl⟩)) ek,e]
   exact⟨rfl,rfl⟩
 ·rw[e]at h;cases h
theorem OJ(hm:nJ m)(hp:p<m.relations.length)(ha:(Am.get m.relations p).arity=(a:Int))(hto:D2 to)(hli:LI m.relations p (mvR m p to) m.relations.length l true)(hl:∀k,k<m.relations.length→(Am.get m.relations k).tuples.length≤1000000000){f:u5}(hok:OkF f)(hf:Df m f):
 Df (otM m l) (cf (cV (Am.get m.relations p).name to a f))∧vl m.size.toNat (oO (otM m l)) (cf (cV (Am.get m.relations p).name to a f)) (wdM m.constants [])=vl m.size.toNat (oO m) f (wdM m.constants []):=by
 have Pt:OkF (cV (Am.get m.relations p).name to a f):=Gk _ _ hto hok
 obtain⟨C,_,hC⟩:=BF Pt
 have hC':∀x,fre (cV (Am.get m.relations p).name to a f) [] x→x∈C:=fun x hx=>(hC x).1 hx
 have hh:=OI hm hp ha hto hli hl
 refine⟨⟨?_,fun x hx=>?_,?_⟩,?_⟩
 ·unfold cf;rw[Gz,Gx];exact hf.nest
 ·have hx:fre (ren (NN (fre (cV (Am.get m.relations p).name to a f) [])) (cV (Am.get m.relations p).name to a f) [] 0) (([]:List (Bs×Bs)).map (·.2)) x:=hx
  rw[zQ _ (fre (cV (Am.get m.relations p).name to a f) []) (Ju hC') _ [] 0 (fun y hy=>hy) (fun q hq=>by cases hq)]at hx
  exact hf.con x ((BQ _ _ _ f [] x).1 hx)
 ·unfold cf
  exact Gy _ _ _ _ _ (Gw (Q:=Dt m) (fun n c hq=>(hh n c hq).1) f hf.pr)
 ·unfold cf
  rw[JE m.size.toNat (oO (otM m l)) (NN (fre (cV (Am.get m.relations p).name to a f) [])) (fre (cV (Am.get m.relations p).name to a f) []) (fun i j e=>Oj hC' e) (Ju hC') _ [] 0 (wdM m.constants []) (wdM m.constants []) Pt.1 (fun x hx=>hx) (fun q hq=>by cases hq) (fun w _=>by rw[pL])]
  exact JF (Q:=Dt m) (fun n t hq=>by unfold oO;rw[(hh n t.length hq).2]) f _ hf.pr
end
theorem Cl{m:B4}(hl:∀k,k<m.relations.length→(Am.get m.relations k).tuples.length≤1000000000)(f:u5):Evt (fun n=>iJ n m f)
 (fun r=>(r.2.code=0→nJ m∧OkF f∧Df m f∧r.1=vl m.size.toNat (oO m) f (wdM m.constants []))∧(nJ m→OkF f→Df m f→r=(vl m.size.toNat (oO m) f (wdM m.constants []),⟨0,0⟩))):=by
 unfold iJ
 refine Evt.bind (kQ m hl) fun v hv=>?_
 refine Evt.cond (fun e=>Evt.pure ⟨fun h=>?_,fun h _ _=>?_⟩) (fun e=>?_)
 ·have h:v.code=0:=h
  simp[h]at e
 ·rw[hv.2 h]at e;simp at e
 have hvm:=hv.1 (by simpa using e)
 refine Evt.bind (bH f) fun v2 hv2=>?_
 subst hv2
 refine Evt.cond (fun e=>Evt.pure ⟨fun h=>?_,fun _ h _=>?_⟩) (fun e=>?_)
 ·have h:(oH f).code=0:=h
  simp[h]at e
 ·rw[oI h]at e;simp at e
 have hok:OkF f:=(nG f).1 (by simpa using e)
 refine Evt.bind (wF (hvm.vm hl) hok) fun v3 hv3=>?_
 refine Evt.cond (fun e=>Evt.pure ⟨fun h=>?_,fun _ _ h=>?_⟩) (fun e=>?_)
 ·have h:v3.code=0:=h
  simp[h]at e
 ·rw[hv3.2 h]at e;simp at e
 have hfl:=hv3.1 (by simpa using e)
 refine Evt.bind (Iz (hvm.vm hl) _ f (Nat.le_refl _) hok.1 [] (by have:=hok.2.2;simp only[List.length_nil];omega)) fun v4 hv4=>Evt.pure ⟨fun _=>⟨hvm,hok,hfl,hv4⟩,fun _ _ _=>by rw[hv4]⟩
theorem GI{nm to:Bs}{c a:Int}:(bif (!(Op.bytesLess nm to||decide (nm=to)))then true else(bif (decide (nm=to))then(decide (a<c))else false))=true↔ltK (to,a) (nm,c):=by
 unfold ltK
 rcases FN nm to with h|h|h
 ·have hn:¬nm=to:=fun e=>by subst e;rw[uS]at h;cases h
  simp[h,hn,FP h]
  intro e
  exact absurd e.symm hn
 ·subst h
  simp[uS]
 ·have hn:¬nm=to:=fun e=>by subst e;rw[uS]at h;cases h
  simp[h,hn,FP h]
theorem xW{m:B4}(hl:∀k,k<m.relations.length→(Am.get m.relations k).tuples.length≤1000000000)(q:Int)(to:Bs)(f:u5):Evt (fun n=>L4 n m q to f) (fun b=>b=true):=by
 unfold L4
 refine Evt.bind oL fun v hv=>?_
 subst hv
 refine Evt.cond (fun e=>by cases e) (fun _=>?_)
 refine Evt.bind (P:=fun v=>(0≤q∧q<m.relations.length)→v.code=0→nJ m) (Evt.gd (fun _=>(kQ m hl).mono fun r hr _=>hr.1) (fun e h=>?_)) fun v2 hv2=>?_
 ·exfalso
  have h1:¬q<0:=by omega
  have h2:¬(m.relations.length:Int)≤q:=by omega
  simp[h1,h2]at e
 refine Evt.cond (fun _=>Evt.pure rfl) (fun e=>?_)
 have hq:0≤q∧q<m.relations.length∧v2.code=0:=by
  by_cases h1:q<0
  ·simp[h1]at e
  ·by_cases h2:(m.relations.length:Int)≤q
   ·simp[h2]at e
   ·by_cases h3:v2.code=0
    ·exact⟨by omega,by omega,h3⟩
    ·simp[h1,h2,h3]at e
 obtain⟨p,rfl⟩:∃p:Nat,q=(p:Int):=⟨q.toNat,by omega⟩
 have hp:p<m.relations.length:=by omega
 have hvm:=hv2 ⟨hq.1,hq.2.1⟩ hq.2.2
 simp only[Int.toNat_natCast]
 refine Evt.chk ⟨hq.1,hq.2.1⟩ (Evt.bind (Di _ _ _) fun v5 hv5=>?_)
 refine Evt.cond (fun _=>Evt.pure rfl) (fun e5=>?_)
 obtain⟨a,ha,ha3,hfr,hto,rfl⟩:=hv5.resolve_right (fun⟨hc,_⟩=>by simp[hc]at e5)
 have hst:=hvm.stk
 have hrl:=hvm.rl
 have hj3:∀l,LI m.relations p (mvR m p to) m.relations.length l true→Evt (fun n=>F1 n m f (⟨oN (Am.get m.relations p).name a,wS to a⟩,⟨0,0⟩) l) (fun b=>b=true):=fun l hli=>by
  unfold F1
  refine Evt.bind (Cl hl f) fun v hv=>?_
  refine Evt.cond (fun _=>Evt.pure rfl) (fun e=>?_)
  obtain⟨_,hok,hfl,hval⟩:=hv.1 (by simpa using e)
  refine Evt.bind (GH (to:=to) hfr hto ha3 hok) fun v41 hv41=>?_
  subst hv41
  refine Evt.cond (fun e=>by cases e) (fun _=>?_)
  obtain⟨k1,k2⟩:=OJ hvm hp ha hto hli hl hok hfl
  refine Evt.bind (Cl (m:=otM m l) (JG hp hli hl) (cf (cV (Am.get m.relations p).name to a f))) fun v42 hv42=>Evt.pure ?_
  rw[hv42.2 (JH hvm hp hto hli) (Rb (Gk _ _ hto hok)) k1,hval]
  show(bif decide ((0:Int)=0)then decide (_=vl m.size.toNat (oO (otM m l)) _ (wdM m.constants []))else false)=true
  rw[k2]
  simp
 refine Evt.C2 (P:=ExP (fun t=>LI m.relations p (mvR m p to) m.relations.length t.1 t.2) (fun r=>r=true)) (Evt.CU m.relations.length (fun k s=>s.2.2=(k:Int)∧LI m.relations p (mvR m p to) k s.1 s.2.1) _ _ ⟨rfl,LI.zero⟩ (fun k s hk hs=>?_) (fun s hs=>?_)) (fun t ht=>?_) (fun r hr=>hr)
 ·obtain⟨l,put,z⟩:=s
  obtain⟨hz,hli⟩:=hs
  have hz:z=(k:Int):=hz
  have hli:LI m.relations p (mvR m p to) k l put:=hli
  subst hz
  have hln:l.length+(if p<k then 1 else 0)=k+(if put=true then 1 else 0):=hli.ln
  have hll:l.length≤400:=by
   split at hln<;>split at hln<;>omega
  unfold G0
  simp only[Int.toNat_natCast]
  refine Evt.cond (fun _=>Evt.chk (by omega) ?_) (fun e=>by replace e:=bx e;omega)
  refine Evt.cond (fun _=>Evt.pure rfl) (fun e=>?_)
  have hne:fJ (Am.get m.relations k)≠fJ (mvR m p to):=fun e'=>by
   have h1:(Am.get m.relations k).name=to:=congrArg Prod.fst e'
   have h2:(Am.get m.relations k).arity=(Am.get m.relations p).arity:=congrArg Prod.snd e'
   simp[h1,h2]at e
  have hjj:∀(l':List w7) (PJ:Bool),LI m.relations p (mvR m p to) k l' PJ→l'.length≤401→(PJ=false→ltK (fJ (Am.get m.relations k)) (fJ (mvR m p to)))→Evt (fun _=>F2 (l,put,(k:Int)) (p:Int) m (l',PJ)) (HZ (fun s:List w7×Bool×Int=>s.2.2=((k+1:Nat):Int)∧LI m.relations p (mvR m p to) (k+1) s.1 s.2.1) (fun t:List w7×Bool=>LI m.relations p (mvR m p to) m.relations.length t.1 t.2) (fun r:Bool=>r=true)):=fun l' PJ h1 h2 h3=>by
   unfold F2
   simp only[Int.toNat_natCast]
   rw[cr (by omega) (by omega)]
   refine Evt.cond (fun e=>Evt.P6 (Evt.chk ?_ (Evt.pure ⟨rfl,?_⟩))) (fun e=>Evt.pure ⟨rfl,?_⟩)
   ·rw[M0];simp only[List.length_append,List.length_cons,List.length_nil];omega
   ·replace e:=bx e
    exact h1.next hst hk hne h3 (by omega)
   ·replace e:=bx e
    exact h1.skip hne h3 (by omega)
  refine Evt.cond (fun e2=>?_) (fun e2=>?_)
  ·cases put with
   |true=>cases e2
   |false=>
    have e2:=GI.1 e2
    refine Evt.P6 (Evt.chk ?_ (hjj _ _ (hli.ins fun j h1 h2=>?_) (by simp only[List.length_append,List.length_cons,List.length_nil];omega) (fun e=>by cases e)))
    ·rw[M0];simp only[List.length_append,List.length_cons,List.length_nil];omega
    ·by_cases ej:j=k
     ·subst ej;exact e2
     ·exact sT e2 (hst k j (by omega) h2)
  ·refine hjj l put hli (by omega) fun ep=>?_
   subst ep
   have e2:¬ltK (fJ (mvR m p to)) (fJ (Am.get m.relations k)):=fun h=>Bool.noConfusion (e2.symm.trans (GI.2 h))
   rcases KW (fJ (Am.get m.relations k)) (fJ (mvR m p to))with h|h|h
   ·exact h
   ·exact absurd h hne
   ·exact absurd h e2
 ·obtain⟨l,put,z⟩:=s
  obtain⟨hz,hli⟩:=hs
  have hz:z=(m.relations.length:Int):=hz
  subst hz
  unfold G0
  refine Evt.cond (fun e=>by replace e:=bx e;omega) (fun _=>Evt.pure hli)
 ·obtain⟨l,put⟩:=t
  have hli:LI m.relations p (mvR m p to) m.relations.length l put:=ht
  have hln:=hli.ln
  unfold J3
  simp only[Int.toNat_natCast]
  cases put with
  |false=>
   refine Evt.cond (fun _=>Evt.P6 (Evt.chk ?_ (hj3 _ (hli.ins fun j h1 h2=>by omega)))) (fun e=>by cases e)
   rw[M0]
   simp only[List.length_append,List.length_cons,List.length_nil]
   split at hln<;>simp at hln<;>omega
  |true=>exact Evt.cond (fun e=>by cases e) (fun _=>hj3 _ hli)
end Go.Proofs.YtanlbioodbnakaaGreatDoor
