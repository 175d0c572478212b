import Derived.Test.YtfacbpehlibilaaGreatDoorTZLaw3
set_option linter.unusedVariables false
set_option linter.unusedSimpArgs false
namespace Go.Proofs.YtfacbpehlibilaaGreatDoor
open Go Go.Am
def Er(m E:List (Bs×Bs)):Prop:=∀w,(assoc w m).getD w=sub E w
theorem Er.nil:Er [] []:=fun w=>rfl
theorem Er.put{m E:List (Bs×Bs)}(h:Er m E)(a v:Bs):Er (B6 a v m) ((a,v)::E):=fun w=>by
 rw[K1]
 by_cases e:a=w
 ·subst e
  rw[gZ,if_pos rfl];rfl
 ·rw[lN (fun x=>e x.symm),if_neg e];exact h w
theorem AG{c:Nat}(hc:c≤1000000)(rs:List u6)(m:List (Bs×Int))(u:List u7):U4 rs (c:Int) m u=some (qn c,((c+1:Nat):Int)):=by
 unfold U4
 have hw:wr .i64 ((c:Int)+1)=((c+1:Nat):Int):=by rw[iy (by omega) (by omega)];rfl
 have hl:=Ar (m:=c+1) (by omega)
 rw[hw,oY (by omega),Option.bind_some,sk (show M5 _ _ by unfold M5;simp;omega)]
 rfl
theorem Gm:∀(m:Nat) (f:u5),SizeOf.sizeOf f≤m→SmF f→∀(rs:List u6) (c:Nat) (mp:List (Bs×Int)) (u:List u7) (env E:List (Bs×Bs)),Er env E→c+nq f≤1000000→
 Evt (fun n=>H9 n f rs (c:Int) mp u env) (fun r=>r=(ren qn f E c,((c+nq f:Nat):Int))):=by
 intro m
 induction m with
 |zero=>intro f h;cases f;simp only[u5.mk.sizeOf_spec]at h;omega
 |succ m ih=>
  intro f hf hsm rs c mp u env E hE hc
  have hws:=yN hsm
  have hsl:=kZ hsm
  have hnq:=FE f
  refine Evt.succ ?_
  simp only[H9]
  refine Evt.C1 (P:=ExP (fun t=>t=f.words.map (sub E)) (fun _=>False)) ((Evt.range (fun k s=>s=(f.words.take k).map (sub E)) (fun _=>False) (fun _=>False) (by simp) (fun k s hk hs=>?_)).mono fun e he=>?_) (fun t ht=>?_) (fun _ h=>h.elim)
  ·have hw:=hE (Am.get f.words k)
   have hsn:(f.words.take (k+1)).map (sub E)=s++[sub E (Am.get f.words k)]:=by rw[D8 hk,List.map_append,hs];rfl
   have hsl:s.length≤3:=by rw[hs,List.length_map,List.length_take];omega
   unfold W9
   cases ha:assoc (Am.get f.words k) env with
   |none=>
    rw[ha]at hw
    refine Evt.cond (fun e=>by cases e) (fun _=>Evt.Q8 (Evt.chk ?_ (Evt.pure ?_)))
    ·rw[J4];simp only[List.length_append,List.length_cons,List.length_nil];omega
    ·show s++[_]=_
     rw[hsn, ←hw];rfl
   |some v=>
    rw[ha]at hw
    refine Evt.cond (fun _=>Evt.Q8 (Evt.chk ?_ (Evt.pure ?_))) (fun e=>by cases e)
    ·rw[J4];simp only[List.length_append,List.length_cons,List.length_nil];omega
    ·show s++[_]=_
     rw[hsn, ←hw];rfl
  ·cases e with
   |ret r=>exact he
   |nxt t=>
    have:=he.elim id False.elim
    rw[List.take_length]at this
    exact this
  ·have ht:t=f.words.map (sub E):=ht
   subst ht
   unfold Y0
   simp only[aX,Option.bind_some]
   refine Evt.cond (fun e=>?_) (fun e=>?_)
   ·replace e:=bx e
    rw[if_pos e]at hnq
    simp only[AG (c:=c) (by omega),Option.bind_some]
    refine Evt.Q8 ?_
    have hE':=hE.put f.name (qn c)
    refine Evt.C1 (P:=ExP (fun t=>t=(((c+1+nqL f.subs:Nat):Int),I7 qn f.subs ((f.name,qn c)::E) (c+1))) (fun _=>False)) ((Evt.range (fun k s=>s=(((c+1+nqL (f.subs.take k):Nat):Int),I7 qn (f.subs.take k) ((f.name,qn c)::E) (c+1))) (fun _=>False) (fun _=>False) (by simp[nqL,I7]) (fun k s hk hs=>?_)).mono fun e he=>?_) (fun t ht=>?_) (fun _ h=>h.elim)
    ·subst hs
     have hsz:=I6 hk
     have hqk:=lK hk
     unfold Y1
     refine Evt.bind (ih _ (by omega) (mB hsm hk) rs (c+1+nqL (f.subs.take k)) mp u _ _ hE' (by omega)) fun v hv=>Evt.Q8 (Evt.chk ?_ (Evt.pure ?_))
     ·rw[J4];simp only[List.length_append,bP,List.length_take,List.length_cons,List.length_nil];omega
     ·subst hv
      show(_,_)=(_,_)
      rw[D8 hk,gq,iZ,Nat.add_assoc (c+1)]
    ·cases e with
     |ret r=>exact he
     |nxt t=>
      have:=he.elim id False.elim
      rw[List.take_length]at this
      exact this
    ·have ht:t=_:=ht
     subst ht
     unfold Y2
     refine Evt.pure ?_
     rw[sH]
     simp only[if_pos e]
     rw[show c+nq f=c+1+nqL f.subs by omega]
   ·replace e:=bx e
    rw[if_neg e]at hnq
    refine Evt.C1 (P:=ExP (fun t=>t=(((c+nqL f.subs:Nat):Int),I7 qn f.subs E c)) (fun _=>False)) ((Evt.range (fun k s=>s=(((c+nqL (f.subs.take k):Nat):Int),I7 qn (f.subs.take k) E c)) (fun _=>False) (fun _=>False) (by simp[nqL,I7]) (fun k s hk hs=>?_)).mono fun e he=>?_) (fun t ht=>?_) (fun _ h=>h.elim)
    ·subst hs
     have hsz:=I6 hk
     have hqk:=lK hk
     unfold Y3
     refine Evt.bind (ih _ (by omega) (mB hsm hk) rs (c+nqL (f.subs.take k)) mp u _ _ hE (by omega)) fun v hv=>Evt.Q8 (Evt.chk ?_ (Evt.pure ?_))
     ·rw[J4];simp only[List.length_append,bP,List.length_take,List.length_cons,List.length_nil];omega
     ·subst hv
      show(_,_)=(_,_)
      rw[D8 hk,gq,iZ,Nat.add_assoc c]
    ·cases e with
     |ret r=>exact he
     |nxt t=>
      have:=he.elim id False.elim
      rw[List.take_length]at this
      exact this
    ·have ht:t=_:=ht
     subst ht
     unfold Y4
     refine Evt.pure ?_
     rw[sH]
     simp only[if_neg e,Nat.add_zero]
     rw[show c+nq f=c+nqL f.subs by omega]
theorem sT(l:List Bs):l.map (sub [])=l:=(List.map_congr_left fun x _=>mP x).trans (List.map_id' l)
theorem Co:∀(m:Nat) (f:u5),SizeOf.sizeOf f≤m→SmF f→∀(rs:List u6) (c:Nat) (mp:List (Bs×Int)) (u:List u7),c+nq f≤1000000→
 Evt (fun n=>N9 n f rs (c:Int) mp u) (fun r=>r=(ren qn f [] c,((c+nq f:Nat):Int))):=by
 intro m
 induction m with
 |zero=>intro f h;cases f;simp only[u5.mk.sizeOf_spec]at h;omega
 |succ m ih=>
  intro f hf hsm rs c mp u hc
  have hws:=yN hsm
  have hsl:=kZ hsm
  have hnq:=FE f
  refine Evt.succ ?_
  simp only[N9]
  refine Evt.C1 (P:=ExP (fun t=>t=f.words) (fun _=>False)) ((Evt.range (fun k s=>s=f.words.take k) (fun _=>False) (fun _=>False) (by simp) (fun k s hk hs=>?_)).mono fun e he=>?_) (fun t ht=>?_) (fun _ h=>h.elim)
  ·subst hs
   unfold bk
   refine Evt.cond (fun e=>by cases e) (fun _=>Evt.Q8 (Evt.chk ?_ (Evt.pure ?_)))
   ·rw[J4];simp only[List.length_append,List.length_take,List.length_cons,List.length_nil];omega
   ·show _++[_]=_
    rw[D8 hk]
  ·cases e with
   |ret r=>exact he
   |nxt t=>
    have:=he.elim id False.elim
    rw[List.take_length]at this
    exact this
  ·have ht:t=f.words:=ht
   subst ht
   unfold bn
   simp only[aX,Option.bind_some]
   refine Evt.cond (fun e=>?_) (fun e=>?_)
   ·replace e:=bx e
    rw[if_pos e]at hnq
    simp only[AG (c:=c) (by omega),Option.bind_some]
    refine Evt.Q8 ?_
    have hE':=Er.nil.put f.name (qn c)
    refine Evt.C1 (P:=ExP (fun t=>t=(((c+1+nqL f.subs:Nat):Int),I7 qn f.subs [(f.name,qn c)] (c+1))) (fun _=>False)) ((Evt.range (fun k s=>s=(((c+1+nqL (f.subs.take k):Nat):Int),I7 qn (f.subs.take k) [(f.name,qn c)] (c+1))) (fun _=>False) (fun _=>False) (by simp[nqL,I7]) (fun k s hk hs=>?_)).mono fun e he=>?_) (fun t ht=>?_) (fun _ h=>h.elim)
    ·subst hs
     have hqk:=lK hk
     unfold bq
     refine Evt.bind (Gm _ _ (Nat.le_refl _) (mB hsm hk) rs (c+1+nqL (f.subs.take k)) mp u _ _ hE' (by omega)) fun v hv=>Evt.Q8 (Evt.chk ?_ (Evt.pure ?_))
     ·rw[J4];simp only[List.length_append,bP,List.length_take,List.length_cons,List.length_nil];omega
     ·subst hv
      show(_,_)=(_,_)
      rw[D8 hk,gq,iZ,Nat.add_assoc (c+1)]
    ·cases e with
     |ret r=>exact he
     |nxt t=>
      have:=he.elim id False.elim
      rw[List.take_length]at this
      exact this
    ·have ht:t=_:=ht
     subst ht
     unfold br
     refine Evt.pure ?_
     rw[sH,sT]
     simp only[if_pos e]
     rw[show c+nq f=c+1+nqL f.subs by omega]
   ·replace e:=bx e
    rw[if_neg e]at hnq
    refine Evt.C1 (P:=ExP (fun t=>t=(((c+nqL f.subs:Nat):Int),I7 qn f.subs [] c)) (fun _=>False)) ((Evt.range (fun k s=>s=(((c+nqL (f.subs.take k):Nat):Int),I7 qn (f.subs.take k) [] c)) (fun _=>False) (fun _=>False) (by simp[nqL,I7]) (fun k s hk hs=>?_)).mono fun e he=>?_) (fun t ht=>?_) (fun _ h=>h.elim)
    ·subst hs
     have hsz:=I6 hk
     have hqk:=lK hk
     unfold bw
     refine Evt.bind (ih _ (by omega) (mB hsm hk) rs (c+nqL (f.subs.take k)) mp u (by omega)) fun v hv=>Evt.Q8 (Evt.chk ?_ (Evt.pure ?_))
     ·rw[J4];simp only[List.length_append,bP,List.length_take,List.length_cons,List.length_nil];omega
     ·subst hv
      show(_,_)=(_,_)
      rw[D8 hk,gq,iZ,Nat.add_assoc c]
    ·cases e with
     |ret r=>exact he
     |nxt t=>
      have:=he.elim id False.elim
      rw[List.take_length]at this
      exact this
    ·have ht:t=_:=ht
     subst ht
     unfold bA
     refine Evt.pure ?_
     rw[sH,sT]
     simp only[if_neg e,Nat.add_zero]
     rw[show c+nq f=c+nqL f.subs by omega]
theorem iG{k:Nat}(hk:k<10):(Lib.decDigits k).length=1:=by rw[Lib.decDigits,dif_pos hk];rfl
theorem wB:∀(l:List u5) (x:u5),eM (l++[x])=max (eM l) (dpF x)
 | [],x=>by simp[eM]
 |a::l,x=>by
  rw[List.cons_append,eM,eM,wB l x]
  omega
theorem Cp:∀ {l:List u5} {k:Nat},k<l.length→dpF (Am.get l k)≤eM l
 | [],k,h=>by simp at h
 |a::l,0,_=>by
  rw[eM]
  show dpF a≤_
  omega
 |a::l,k+1,h=>by
  rw[eM]
  have:=Cp (l:=l) (k:=k) (by simpa using h)
  have e:Am.get (a::l) (k+1)=Am.get l k:=rfl
  rw[e];omega
def szF(f:u5):w6:=⟨f,((ndF f:Nat):Int),((dpF f:Nat):Int)⟩
theorem AH{l:List u5}(hn:T6 l≤100000)(hd:eM l≤100000):Evt (fun _=>dV (l.map szF)) (fun r=>r=(((1+T6 l:Nat):Int),((eM l+1:Nat):Int),decide (1+T6 l≤200∧eM l<40))):=by
 unfold dV
 rw[List.length_map]
 refine Evt.C1 (P:=ExP (fun t=>t=(((1+T6 l:Nat):Int),((eM l:Nat):Int))) (fun _=>False)) ((Evt.range (fun k t=>t=(((1+T6 (l.take k):Nat):Int),((eM (l.take k):Nat):Int))) (fun _=>False) (fun _=>False) (by simp[T6,eM]) (fun k t hk ht=>?_)).mono fun e he=>?_) (fun t ht=>?_) (fun _ h=>h.elim)
 ·subst ht
  have htk:=bE hk
  unfold eU
  rw[get_map szF hk]
  refine Evt.pure ?_
  show(_,_)=(_,_)
  rw[D8 hk,gn,wB]
  simp only[szF]
  rw[iy (by omega) (by omega)]
  refine Prod.ext ?_ ?_
  ·show((1+T6 (l.take k):Nat):Int)+((ndF (Am.get l k):Nat):Int)=((1+(T6 (l.take k)+ndF (Am.get l k)):Nat):Int);omega
  ·show max ((eM (l.take k):Nat):Int) ((dpF (Am.get l k):Nat):Int)=((max (eM (l.take k)) (dpF (Am.get l k)):Nat):Int);omega
 ·cases e with
  |ret r=>exact he
  |nxt t=>
   have:=he.elim id False.elim
   rw[List.take_length]at this
   exact this
 ·have ht:t=_:=ht
  subst ht
  unfold eV
  refine Evt.pure ?_
  show(_,_,_)=(_,_,_)
  rw[iy (by omega) (by omega)]
  refine Prod.ext rfl (Prod.ext ?_ ?_)
  ·show((eM l:Nat):Int)+1=((eM l+1:Nat):Int);omega
  ·show(bif decide (((1+T6 l:Nat):Int)≤200)then decide (((eM l:Nat):Int)<40)else false)=decide _
   by_cases h:1+T6 l≤200
   ·rw[decide_eq_true (show((1+T6 l:Nat):Int)≤200 by omega),cond_true]
    exact decide_eq_decide.2 (by omega)
   ·rw[decide_eq_false (show ¬((1+T6 l:Nat):Int)≤200 by omega),cond_false]
    exact(decide_eq_false (by omega)).symm
theorem nU(f:u5):Evt (fun n=>W3 n f) (fun r=>(¬OkF f→r=(zf,kW f))∧(OkF f→r=(cf f,⟨0,0⟩))):=by
 unfold W3
 refine Evt.bind (R2 f) fun v hv=>?_
 subst hv
 refine Evt.cond (fun e=>Evt.pure ⟨fun _=>rfl,fun h=>?_⟩) (fun e=>?_)
 ·rw[nP h]at e;simp at e
 have hok:OkF f:=(fN f).1 (by simpa using e)
 refine Evt.bind (Iu hok) fun c hc=>Evt.pure ⟨fun h=>absurd hok h,fun _=>?_⟩
 rw[hc]
theorem smz:SmF zf:=by
 show SmF (u5.mk 0 [] [] [])
 rw[SmF]
 exact⟨Nat.zero_le _,Nat.zero_le _,by rw[nS];trivial⟩
theorem Gn{f:u5}(h:¬OkF f):(kW f).code≠0:=fun e=>h ((fN f).1 e)
mutual
def qK:u5→Bs→List Bs
 | .mk _ _ _ l,p=>p::fC l p 0
def fC:List u5→Bs→Nat→List Bs
 | [],_,_=>[]
 |f::l,p,i=>qK f (p++Lib.decDigits i)++fC l p (i+1)
end
theorem KT(f:u5)(p:Bs):qK f p=p::fC f.subs p 0:=by cases f;rw[qK];rfl
mutual
theorem qL:∀(f:u5) (p:Bs),(qK f p).length=ndF f
 | .mk _ _ _ l,p=>by rw[qK,ndF,List.length_cons,sU l];omega
theorem sU:∀(l:List u5) (p:Bs) (i:Nat),(fC l p i).length=T6 l
 | [],p,i=>by rw[fC,T6];rfl
 |f::l,p,i=>by rw[fC,T6,List.length_append,qL f,sU l]
end
theorem uT:∀(l:List u5) (x:u5) (p:Bs) (i:Nat),fC (l++[x]) p i=fC l p i++qK x (p++Lib.decDigits (i+l.length))
 | [],x,p,i=>by simp[fC]
 |a::l,x,p,i=>by rw[List.cons_append,fC,fC,uT l,List.append_assoc,List.length_cons,show i+1+l.length=i+(l.length+1)by omega]
mutual
theorem Cq:∀(f:u5) (p:Bs),∀q∈qK f p,p <+: q
 | .mk _ _ _ l,p,q,h=>by
   rw[qK]at h
   rcases List.mem_cons.1 h with rfl|h
   ·exact List.prefix_refl _
   ·obtain⟨j,_,_,hj⟩:=lf l p 0 q h
    exact(List.prefix_append _ _).trans hj
theorem lf:∀(l:List u5) (p:Bs) (i:Nat),∀q∈fC l p i,∃j,i≤j∧j<i+l.length∧(p++Lib.decDigits j) <+: q
 | [],p,i,q,h=>by rw[fC]at h;cases h
 |f::l,p,i,q,h=>by
  rw[fC]at h
  rcases List.mem_append.1 h with h|h
  ·exact⟨i,Nat.le_refl _,by rw[List.length_cons];omega,Cq f _ q h⟩
  ·obtain⟨j,h1,h2,h3⟩:=lf l p (i+1) q h
   exact⟨j,by omega,by rw[List.length_cons];omega,h3⟩
end
theorem OH{a b q:Bs}(h1:a <+: q)(h2:b <+: q)(hl:a.length=b.length):a=b:=
 (List.prefix_of_prefix_length_le h1 h2 (by omega)).eq_of_length hl
theorem JC{p q:Bs}{i j:Nat}(hi:i<10)(hj:j<10)(h1:(p++Lib.decDigits i) <+: q)(h2:(p++Lib.decDigits j) <+: q):i=j:=by
 have hl:(p++Lib.decDigits i).length=(p++Lib.decDigits j).length:=by rw[List.length_append,List.length_append,iG hi,iG hj]
 exact wq (List.append_cancel_left (OH h1 h2 hl))
mutual
theorem AJ:∀(f:u5) (p:Bs),SmF f→(qK f p).Nodup
 | .mk k n w l,p,h=>by
   rw[SmF]at h
   rw[qK,List.nodup_cons]
   refine⟨fun hm=>?_,Cr l p 0 (by omega) h.2.2⟩
   obtain⟨j,_,hj,h3⟩:=lf l p 0 p hm
   have:=h3.length_le
   rw[List.length_append,iG (by omega)]at this
   omega
theorem Cr:∀(l:List u5) (p:Bs) (i:Nat),i+l.length≤10→nS l→(fC l p i).Nodup
 | [],p,i,_,_=>by rw[fC];exact List.nodup_nil
 |f::l,p,i,hi,h=>by
  rw[nS]at h
  rw[List.length_cons]at hi
  rw[fC,List.nodup_append]
  refine⟨AJ f _ h.1,Cr l p (i+1) (by omega) h.2,fun x hx y hy e=>?_⟩
  subst e
  obtain⟨j,h1,h2,h3⟩:=lf l p (i+1) x hy
  have:=JC (by omega) (by omega) (Cq f _ x hx) h3
  omega
end
def qM:List Bs→Nat→List (Bs×Int)
 | [],_=>[]
 |p::l,i=>(p,(i:Int))::qM l (i+1)
theorem Ct:∀(a b:List Bs) (i:Nat),qM (a++b) i=qM a i++qM b (i+a.length)
 | [],b,i=>rfl
 |x::a,b,i=>by rw[List.cons_append,qM,qM,Ct a b,List.cons_append,List.length_cons,show i+1+a.length=i+(a.length+1)by omega]
theorem Cu:∀(a:List Bs) (i:Nat),(qM a i).length=a.length
 | [],i=>rfl
 |x::a,i=>by rw[qM,List.length_cons,List.length_cons,Cu a]
theorem yP:∀(a:List Bs) (i:Nat),(qM a i).map (·.1)=a
 | [],i=>rfl
 |x::a,i=>by rw[qM,List.map_cons,yP a]
theorem pB:∀(a:List Bs) (i j:Nat),a.Nodup→j<a.length→assoc (Am.get a j) (qM a i)=some ((i+j:Nat):Int)
 | [],i,j,_,h=>by simp at h
 |x::a,i,0,hn,_=>by
  show(if x=x then some (i:Int)else _)=_
  rw[if_pos rfl];rfl
 |x::a,i,j+1,hn,h=>by
  rw[List.nodup_cons]at hn
  have hj:j<a.length:=by simpa using h
  have hne:Am.get a j≠x:=fun e=>hn.1 (e▸get_mem hj)
  show(if Am.get a j=x then some (i:Int)else assoc (Am.get a j) (qM a (i+1)))=_
  rw[if_neg hne,pB a (i+1) j hn.2 hj,show i+1+j=i+(j+1)by omega]
theorem pZ{V:Type}{k:Bs}{v:V}:∀ {m:List (Bs×V)},k∉m.map (·.1)→B6 k v m=m++[(k,v)]
 | [],_=>rfl
 |(a,u)::m,h=>by
  rw[List.map_cons,List.mem_cons,not_or]at h
  show(if k=a then(k,v)::m else(a,u)::B6 k v m)=_
  rw[if_neg h.1,pZ h.2];rfl
theorem uU:∀(m:Nat) (f:u5),SizeOf.sizeOf f≤m→SmF f→∀(path:Bs) (rs:List u6) (c:Int) (mp:List (Bs×Int)) (u:List u7),path.length+ndF f≤100000→(∀q∈mp.map (·.1),¬path <+: q)→
 Evt (fun n=>P1 n f path rs c mp u) (fun r=>r=mp++qM (qK f path) mp.length):=by
 intro m
 induction m with
 |zero=>intro f h;cases f;simp only[u5.mk.sizeOf_spec]at h;omega
 |succ m ih=>
  intro f hf hsm path rs c mp u hp hfr
  have hsl:=kZ hsm
  have hnd:=kr f
  refine Evt.succ ?_
  simp only[P1]
  rw[pZ fun h=>hfr _ h (List.prefix_refl _)]
  refine Evt.Q8 (Evt.C1 (P:=ExP (fun t=>t=mp++(path,((mp.length:Nat):Int))::qM (fC f.subs path 0) (mp.length+1)) (fun _=>False)) ((Evt.range (fun k t=>t=mp++(path,((mp.length:Nat):Int))::qM (fC (f.subs.take k) path 0) (mp.length+1)) (fun _=>False) (fun _=>False) (by rw[List.take_zero,fC,qM]) (fun k s hk hs=>?_)).mono fun e he=>?_) (fun t ht=>?_) (fun _ h=>h.elim))
  ·have hsz:=I6 hk
   have htk:=bE hk
   have hd:=iG (k:=k) (by omega)
   have hlk:(f.subs.take k).length=k:=by rw[List.length_take];omega
   unfold aq
   simp only[oY (m:=k) (by omega),Option.bind_some]
   have KU:s.map (·.1)=mp.map (·.1)++path::fC (f.subs.take k) path 0:=by rw[hs,List.map_append,List.map_cons,yP]
   have QY:s.length=mp.length+1+(fC (f.subs.take k) path 0).length:=by rw[hs,List.length_append,List.length_cons,Cu];omega
   refine Evt.chk (by unfold M5;omega) (Evt.bind (ih _ (by omega) (mB hsm hk) _ rs c s u ?_ ?_) fun v hv=>Evt.pure ?_)
   ·show(path++Lib.decDigits k).length+_≤_
    rw[List.length_append];omega
   ·intro q hq hpre
    have hpre:(path++Lib.decDigits k) <+: q:=hpre
    rw[KU]at hq
    rcases List.mem_append.1 hq with hq|hq
    ·exact hfr q hq ((List.prefix_append _ _).trans hpre)
    ·rcases List.mem_cons.1 hq with rfl|hq
     ·have:=hpre.length_le
      rw[List.length_append,hd]at this
      omega
     ·obtain⟨j,_,h2,h3⟩:=lf _ _ _ q hq
      have:=JC (by omega) (by omega) hpre h3
      omega
   ·show v=_
    rw[hv,QY,hs,D8 hk,uT,Ct,hlk,Nat.zero_add]
    show(mp++_::_)++qM (qK (Am.get f.subs k) (path++Lib.decDigits k)) _=_
    rw[List.append_assoc,List.cons_append]
  ·cases e with
   |ret r=>exact he
   |nxt t=>
    have:=he.elim id False.elim
    rw[List.take_length]at this
    exact this
  ·have ht:t=_:=ht
   subst ht
   unfold au
   refine Evt.pure ?_
   rw[KT,qM]
mutual
def ArF:u5→Prop
 | .mk k _ w s=>((s.length:Nat):Int)=arF k∧w.length≤3∧s.length≤2∧kB s
def kB:List u5→Prop
 | []=>True
 |f::l=>ArF f∧kB l
end
theorem Gp(f:u5):ArF f↔((f.subs.length:Nat):Int)=arF f.kind∧f.words.length≤3∧f.subs.length≤2∧kB f.subs:=by cases f;rw[ArF];rfl
theorem Cv:∀ {l:List u5},kB l→∀x∈l,ArF x
 | [],_,x,h=>by cases h
 |f::l,h,x,hx=>by
  rw[kB]at h
  rcases List.mem_cons.1 hx with rfl|hx
  ·exact h.1
  ·exact Cv h.2 x hx
theorem Cw{f:u5}(h:ArF f){k:Nat}(hk:k<f.subs.length):ArF (Am.get f.subs k):=Cv ((Gp f).1 h).2.2.2 _ (get_mem hk)
mutual
theorem ArF.sm:∀(f:u5),ArF f→SmF f
 | .mk k n w s,h=>by
   rw[ArF]at h
   rw[SmF]
   exact⟨h.2.1,h.2.2.1,kB.sm s h.2.2.2⟩
theorem kB.sm:∀(l:List u5),kB l→nS l
 | [],_=>by rw[nS];trivial
 |f::l,h=>by
  rw[kB]at h
  rw[nS]
  exact⟨ArF.sm f h.1,kB.sm l h.2⟩
end
mutual
theorem WfF.ar:∀(f:u5),WfF f→ArF f
 | .mk k n w s,h=>by
   rw[ArF]
   exact⟨(Z8 ((Z4 _).1 h).1).1,yA h,wm h,gY.ar s ((Z4 _).1 h).2⟩
theorem gY.ar:∀(l:List u5),gY l→kB l
 | [],_=>by rw[kB];trivial
 |f::l,h=>by
  rw[kB]
  exact⟨WfF.ar f (N0.1 h f (List.mem_cons_self ..)),gY.ar l (N0.2 fun x hx=>N0.1 h x (List.mem_cons_of_mem _ hx))⟩
end
mutual
theorem ArF.ren(N:Nat→Bs):∀(f:u5) (env:List (Bs×Bs)) (i:Nat),ArF f→ArF (ren N f env i)
 | .mk k n w s,env,i,h=>by
   rw[ArF]at h
   rw[Go.Proofs.YtfacbpehlibilaaGreatDoor.ren,ArF]
   exact⟨by rw[bP];exact h.1,by rw[List.length_map];exact h.2.1,by rw[bP];exact h.2.2.1,kB.ren N s _ _ h.2.2.2⟩
theorem kB.ren(N:Nat→Bs):∀(l:List u5) (env:List (Bs×Bs)) (i:Nat),kB l→kB (I7 N l env i)
 | [],env,i,_=>by rw[I7,kB];trivial
 |f::l,env,i,h=>by
  rw[kB]at h
  rw[I7,kB]
  exact⟨ArF.ren N f env i h.1,kB.ren N l env _ h.2⟩
end
section
variable {s:w9}
open Classical in
theorem Gq:∀(m:Nat) (f:u5),SizeOf.sizeOf f≤m→WfF f→∀(g:u5),ArF g→∀(bd:List Bs) (env:Env),ke env→Has bd env→
 Evt (fun n=>E5 n (gu s) (Z5 s f bd) g env) (RM ((pts s f bd g).bind (bW env))):=by
 intro m
 induction m with
 |zero=>intro f h;cases f;simp only[u5.mk.sizeOf_spec]at h;omega
 |succ m ih=>
  intro f hf hwf g hwg bd env he hh
  have hnf:=Z8 ((Z4 f).1 hwf).1
  have hng:=(Gp g).1 hwg
  have hml:(Z5 s f bd).words.length=f.words.length:=by rw[eO];exact List.length_map _
  have hmk:(Z5 s f bd).kind=f.kind:=by rw[eO];rfl
  have hmn:(Z5 s f bd).name=mkn s f:=by rw[eO];rfl
  have hms:(Z5 s f bd).subs=S7 s f.subs (if QK f.kind then f.name::bd else bd):=by rw[eO];rfl
  have hk2:f.kind=2→¬QK f.kind:=fun h=>by unfold QK;omega
  have hplain:f.kind=2→¬IsKey f.name:=fun h=>wv (hnf.2.2.1 (.inl h))
  have hpart:cr (gu s) (Z5 s f bd)↔cr s f:=by
   unfold cr
   rw[hmk,hml,hmn]
   constructor
   ·rintro⟨h1,h2⟩
    refine⟨h1,?_⟩
    unfold mkn at h2
    rw[if_neg (hk2 h1.1)]at h2
    split at h2
    ·rename_i h3;exact h3.2
    ·exfalso
     obtain⟨y,_,e⟩:=List.mem_map.1 h2
     split at e
     ·cases (List.cons.inj e).1
     ·exact hplain h1.1 (e▸ ⟨43,y,rfl,by simp⟩)
   ·rintro⟨h1,h2⟩
    refine⟨h1,?_⟩
    unfold mkn
    rw[if_neg (hk2 h1.1),if_pos (show cr s f from⟨h1,h2⟩)]
    exact jd.2 h2
  refine Evt.succ ?_
  simp only[E5,pe,Option.bind_some,aX,F9,hmk,hml,hmn]
  rw[pY]
  refine Evt.cond (fun e=>?_) (fun e=>?_)
  ·have hp:cr s f:=hpart.1 (of_decide_eq_true e)
   rw[if_pos hp]
   have QT:mkn s f=43::f.name:=by unfold mkn;rw[if_neg (hk2 hp.1.1),if_pos hp]
   rw[QT]
   show Evt _ (RM (bW env [_]))
   rw[Cj]
   unfold oE
   cases h:assoc (43::f.name) env with
   |none=>
    refine Evt.cond (fun e=>by simp at e) (fun _=>Evt.Q8 (Evt.pure ?_))
    exact⟨fun e he=>by cases he;rfl,fun he=>by cases he⟩
   |some b=>
    refine Evt.cond (fun _=>?_) (fun e=>by simp at e)
    obtain⟨h1,h2⟩:=he _ _ h
    have hsm:=h2.1
    have htx:b.text=[]:=by
     rcases h2.2 with⟨z,e1,e2⟩|⟨c',z,e1,hc',e2⟩
     ·exact e2
     ·rw[h1]at e1
      have:=(List.cons.inj e1).1
      rcases hc' with rfl|rfl|rfl<;>cases this
    have hiff:b=⟨43::f.name,[],g⟩↔b.form=g:=by
     constructor
     ·intro e;rw[e]
     ·intro e
      cases b
      simp only at h1 htx e
      rw[h1,htx,e]
    refine Evt.bind (Gf _ b.form (Nat.le_refl _) hsm g) fun v hv=>Evt.pure ?_
    subst hv
    by_cases hb:b.form=g
    ·simp only[if_pos (hiff.2 hb),decide_eq_true hb]
     exact⟨fun e he=>by cases he;rfl,fun he=>by cases he⟩
    ·simp only[if_neg fun e=>hb (hiff.1 e),decide_eq_false hb]
     exact⟨fun e he=>(by cases he),fun _=>rfl⟩
  have hp:¬cr s f:=fun h=>(of_decide_eq_false e) (hpart.2 h)
  rw[if_neg hp]
  refine Evt.cond (fun e=>Evt.pure ?_) (fun e=>?_)
  ·have hc:f.kind≠g.kind∨f.words.length≠g.words.length:=Classical.byContradiction fun h=>by
    obtain⟨h1,h2⟩:=not_or.1 h
    have h1:=Classical.not_not.1 h1
    have h2:=Classical.not_not.1 h2
    simp[h1,h2]at e
   rw[if_pos hc]
   exact⟨fun e he=>(by cases he),fun _=>rfl⟩
  have hk:f.kind=g.kind:=Classical.byContradiction fun h=>by simp[h]at e
  have hl:f.words.length=g.words.length:=Classical.byContradiction fun h=>by
   have:¬((f.words.length:Int)=(g.words.length:Int)):=by omega
   simp[this]at e
  rw[if_neg fun h=>h.elim (fun h=>h hk) (fun h=>h hl),pz]
  have hsl:f.subs.length=g.subs.length:=by have:=hnf.1;have:=hng.1;rw[hk]at *; omega
  have rest:∀DE:Env,ke DE→Has bd DE→Has (if QK f.kind then f.name::bd else bd) DE→Evt (fun n=>L6 (E5 n) (Z5 s f bd) (gu s) g DE) (RM ((cat (ptw s.words bd f.words g.words) (mR s f.subs (if QK f.kind then f.name::bd else bd) g.subs)).bind (bW DE))):=by
   intro DE he1 hh1 QU
   rw[pz]
   unfold L6
   refine Evt.C1 (Ck hwf hl bd he1 hh1) (fun t ht=>?_) (fun r hr=>?_)
   ·obtain⟨ht,hte,hth⟩:=ht
    have hmono:Has (if QK f.kind then f.name::bd else bd) t:=by
     cases hw:ptw s.words bd f.words g.words with
     |none=>rw[hw]at ht;cases ht
     |some ps=>rw[hw]at ht;exact QU.mono (jc _ _ _ ht).2.1
    rw[ht]
    unfold aK
    rw[hms,lM]
    refine Evt.C1 (P:=ExP (fun t'=>(mR s f.subs (if QK f.kind then f.name::bd else bd) g.subs).bind (bW t)=some t') (fun r=>(mR s f.subs (if QK f.kind then f.name::bd else bd) g.subs).bind (bW t)=none∧r.1=false)) ((Evt.range (fun k t'=>(mR s f.subs (if QK f.kind then f.name::bd else bd) g.subs).bind (bW t)=(mR s (f.subs.drop k) (if QK f.kind then f.name::bd else bd) (g.subs.drop k)).bind (bW t')∧ke t'∧Has (if QK f.kind then f.name::bd else bd) t') (fun _=>False) (fun r=>(mR s f.subs (if QK f.kind then f.name::bd else bd) g.subs).bind (bW t)=none∧r.1=false) ⟨rfl,hte,hmono⟩ (fun k t' hk ht'=>?_)).mono fun e h=>?_) (fun t' ht'=>?_) (fun r hr=>?_)
    ·obtain⟨ht',Oz,OA⟩:=ht'
     have hkg:k<g.subs.length:=by omega
     have hkm:Am.get (Z5 s f bd).subs k=Z5 s (Am.get f.subs k) (if QK f.kind then f.name::bd else bd):=by
      rw[hms]
      have:∀(l:List u5) (bd:List Bs) (k:Nat),k<l.length→Am.get (S7 s l bd) k=Z5 s (Am.get l k) bd:=by
       intro l
       induction l with
       |nil=>intro bd k h;cases h
       |cons a l ih=>
        intro bd k h
        rw[S7]
        cases k with
        |zero=>rfl
        |succ k=>exact ih bd k (by simpa using h)
      exact this _ _ _ hk
     have e1:f.subs.drop k=Am.get f.subs k::f.subs.drop (k+1):=by rw[List.drop_eq_getElem_cons hk];simp[Am.get,hk]
     have e2:g.subs.drop k=Am.get g.subs k::g.subs.drop (k+1):=by rw[List.drop_eq_getElem_cons hkg];simp[Am.get,hkg]
     rw[e1,e2,mR,pz]at ht'
     unfold aL
     simp only[hkm]
     have hsz:=I6 hk
     refine Evt.chk (by omega) (Evt.bind (ih _ (by omega) (sK hwf hk) _ (Cw hwg hkg) _ t' Oz OA) fun v hv=>?_)
     cases hp:(pts s (Am.get f.subs k) (if QK f.kind then f.name::bd else bd) (Am.get g.subs k)).bind (bW t')with
     |none=>
      rw[hp]at ht' hv
      have h1:=hv.2 rfl
      exact Evt.cond (fun _=>Evt.pure ⟨ht',rfl⟩) (fun e=>by rw[h1]at e;cases e)
     |some t''=>
      rw[hp]at ht' hv
      have h1:=hv.1 _ rfl
      subst h1
      refine Evt.cond (fun e=>by cases e) (fun _=>Evt.pure ⟨ht',?_,?_⟩)
      ·cases hq:pts s (Am.get f.subs k) (if QK f.kind then f.name::bd else bd) (Am.get g.subs k)with
       |none=>rw[hq]at hp;cases hp
       |some ps=>rw[hq]at hp;exact wz Oz (yJ s _ _ _ (ArF.sm _ (Cw hwg hkg)) ps hq) hp
      ·cases hq:pts s (Am.get f.subs k) (if QK f.kind then f.name::bd else bd) (Am.get g.subs k)with
       |none=>rw[hq]at hp;cases hp
       |some ps=>rw[hq]at hp;exact OA.mono (jc _ _ _ hp).2.1
    ·cases e with
     |ret r=>exact h
     |nxt t'=>
      obtain⟨h1,h2,h3⟩:=h.elim id False.elim
      rw[List.drop_length,mR]at h1
      exact h1
    ·unfold aM
     have ht':(mR s f.subs (if QK f.kind then f.name::bd else bd) g.subs).bind (bW t)=some t':=ht'
     refine Evt.pure ?_
     show RM ((some t).bind _) _
     rw[Option.bind_some,ht']
     exact⟨fun e he=>by cases he;rfl,fun he=>by cases he⟩
    ·show RM ((some t).bind _) _
     rw[Option.bind_some,hr.1]
     exact⟨fun e he=>(by cases he),fun _=>hr.2⟩
   ·rw[hr.1]
    exact⟨fun e he=>(by cases he),fun _=>hr.2⟩
  have OB:∀c:UInt8,c=33∨c=63→mkn s f=c::f.name→pth s f g=some [⟨c::f.name,g.name,zf⟩]→(QK f.kind→c=63)→Evt (fun n=>G8 (E5 n) (Z5 s f bd) g env (gu s) true) (RM (((pth s f g).bind (bW env)).bind fun s'=>(cat (ptw s.words bd f.words g.words) (mR s f.subs (if QK f.kind then f.name::bd else bd) g.subs)).bind (bW s'))):=by
   intro c hc hm hpt hq
   have hc3:c=33∨c=46∨c=63:=hc.elim .inl fun h=>.inr (.inr h)
   unfold G8
   simp only[cond_true,hmn,hm,hpt]
   have e0:(some [(⟨c::f.name,g.name,zf⟩:w5)]).bind (bW env)=oE env ⟨c::f.name,g.name,zf⟩:=by
    show bW env [_]=_
    rw[bW]
    cases oE env ⟨c::f.name,g.name,zf⟩<;>rfl
   rw[e0]
   refine Evt.bind (sS he hc3 f.name g.name) fun v hv=>?_
   cases hp:oE env ⟨c::f.name,g.name,zf⟩with
   |none=>
    rw[hp]at hv
    have h1:=hv.2 rfl
    exact Evt.cond (fun _=>Evt.pure ⟨fun e he=>(by cases he),fun _=>rfl⟩) (fun e=>by rw[h1]at e;cases e)
   |some t=>
    rw[hp]at hv
    have h1:=hv.1 _ rfl
    subst h1
    refine Evt.cond (fun e=>by cases e) (fun _=>?_)
    have hm1:=hh.mono (kd hp).2.1
    refine rest t (Ay he (Az hc3) hp) hm1 ?_
    by_cases hqk:QK f.kind
    ·rw[if_pos hqk]
     intro x hx
     rcases List.mem_cons.1 hx with rfl|hx
     ·have:=(kd hp).1
      obtain rfl:=hq hqk
      show(assoc (63::f.name) t).isSome=true
      rw[show assoc (63::f.name) t=some _ from this];rfl
     ·exact hm1 x hx
    ·rw[if_neg hqk];exact hm1
  refine Evt.cond (fun e=>?_) (fun e=>?_)
  ·have hq:QK f.kind:=of_decide_eq_true e
   rw[e]
   exact OB 63 (.inr rfl) (by unfold mkn;rw[if_pos hq]) (by unfold pth;rw[if_pos hq]) (fun _=>rfl)
  ·have hq:¬QK f.kind:=of_decide_eq_false e
   have DF:mkn s f=if f.kind=2∧f.name∈s.C4 then 33::f.name else f.name:=by unfold mkn;rw[if_neg hq,if_neg hp]
   refine Evt.bind (P:=fun v=>f.kind=2→v=decide (mkn s f∈(gu s).C4)) (Evt.gd (fun _=>Evt.pure fun _=>rfl) (fun g h=>by simp[h]at g)) fun v hv=>?_
   by_cases hpr:f.kind=2∧f.name∈s.C4
   ·rw[if_pos hpr]at DF
    have h1:=hv hpr.1
    rw[DF,decide_eq_true (show(33::f.name:Bs)∈(gu s).C4 from jd.2 hpr.2)]at h1
    have e2:(bif decide (f.kind=2)then v else false)=true:=by simp[hpr.1,h1]
    rw[e2]
    exact OB 33 (.inl rfl) DF (by unfold pth;rw[if_neg hq,if_pos hpr]) (fun h=>absurd h hq)
   ·rw[if_neg hpr]at DF
    have e2:(bif decide (f.kind=2)then v else false)=false:=by
     by_cases h2:f.kind=2
     ·have h1:=hv h2
      rw[DF,decide_eq_false (show ¬f.name∈(gu s).C4 from fun h=>hplain h2 (AA (.inl rfl) h))]at h1
      simp[h1]
     ·simp[h2]
    rw[e2]
    have hpt:pth s f g=if f.name=g.name then some []else none:=by unfold pth;rw[if_neg hq,if_neg hpr]
    unfold G8
    simp only[cond_false,hmn,DF,hpt]
    refine Evt.cond (fun e=>Evt.pure ?_) (fun e=>?_)
    ·replace e:=bx e
     rw[if_neg e]
     exact⟨fun e he=>(by cases he),fun _=>rfl⟩
    ·replace e:=bx e
     rw[if_pos e]
     exact rest env he hh (by rw[if_neg hq];exact hh)
end
theorem wC{s:w9}(hs:Iv s){g:u5}(hg:ArF g):Evt (fun n=>eW n s g) (fun r=>r=DG s g):=by
 have hvl:=wo s
 have hl:=hs.len
 have hnd:=hs.form.2.1
 have hql:(qs s.form).length≤200:=by rw[nO];have:=oW s.form;omega
 unfold eW
 refine Evt.bind (Ax hs) fun v1 hv1=>?_
 subst hv1
 refine Evt.bind (Gq _ s.form (Nat.le_refl _) hs.form.1 g hg [] [] (fun k b h=>by cases h) (fun x hx=>by cases hx)) fun v2 hv2=>?_
 unfold DG
 cases hp:(pts s s.form [] g).bind (bW [])with
 |none=>
  rw[hp]at hv2
  have h1:=hv2.2 rfl
  exact Evt.cond (fun _=>Evt.pure rfl) (fun e=>by rw[h1]at e;cases e)
 |some env=>
  rw[hp]at hv2
  have h1:=hv2.1 _ rfl
  subst h1
  have Cg:ke env:=by
   cases hq:pts s s.form [] g with
   |none=>rw[hq]at hp;cases hp
   |some ps=>rw[hq]at hp;exact wz (fun k b h=>by cases h) (yJ s _ _ _ (ArF.sm g hg) ps hq) hp
  refine Evt.cond (fun e=>by cases e) (fun _=>?_)
  have hqv:Evt (fun n=>C0 n (gu s).form) (fun r=>r=(qs s.form).map (63:: ·)):=by
   refine(jJ _ (gu s).form (Nat.le_refl _) ?_).mono fun r hr=>?_
   ·show ndF (Z5 s s.form [])≤_
    rw[Cl];omega
   ·rw[hr];exact Cm s s.form []
  refine Evt.bind hqv fun v3 hv3=>?_
  subst hv3
  refine Evt.C1 (P:=ExP (fun t=>t=(qs s.form).map fun x=>txE env (63::x)) (fun _=>False)) ((Evt.range (fun k t=>t=((qs s.form).take k).map fun x=>txE env (63::x)) (fun _=>False) (fun _=>False) (by simp) (fun k t hk ht=>?_)).mono fun e he=>?_) (fun t ht=>?_) (fun _ h=>h.elim)
  ·rw[List.length_map]at hk
   unfold dz
   rw[get_map _ hk]
   refine Evt.Q8 (Evt.chk ?_ (Evt.pure ?_))
   ·rw[J4,ht];simp only[List.length_append,List.length_map,List.length_take,List.length_cons,List.length_nil];omega
   ·show _=_
    rw[D8 hk,List.map_append,ht];rfl
  ·cases e with
   |ret r=>exact he
   |nxt t=>
    have:=he.elim id False.elim
    rw[List.length_map,List.take_length]at this
    exact this
  have ht:t=(qs s.form).map fun x=>txE env (63::x):=ht
  subst ht
  unfold dD R3
  have hfl: [(gu s).words,(gu s).C4,(gu s).parts].flatten=s.words.map (46:: ·)++s.C4.map (33:: ·)++s.parts.map (43:: ·):=by simp[gu]
  refine Evt.bind (P:=fun v=>v=s.words.map (46:: ·)++s.C4.map (33:: ·)++s.parts.map (43:: ·)) ?_ fun v hv=>Evt.bind hqv fun v3 hv3=>?_
  ·unfold oU
   simp only[Option.bind_assoc,Option.bind_some,hfl]
   exact Evt.bind (P:=fun v=>v=s.words.map (46:: ·)++s.C4.map (33:: ·)++s.parts.map (43:: ·)) (Evt.chk ⟨by simp,by simp only[List.length_append,List.length_map];omega⟩ (Evt.pure rfl)) fun v hv=>Evt.pure hv
  subst hv hv3
  have Ts: [s.words.map (46:: ·)++s.C4.map (33:: ·)++s.parts.map (43:: ·),(qs s.form).map (63:: ·)].flatten=gy s:=by simp[gy]
  refine Evt.bind (P:=fun v=>v=gy s) ?_ fun v hv=>?_
  ·unfold oU
   rw[Ts]
   refine Evt.chk ⟨by simp,?_⟩ (Evt.pure rfl)
   unfold gy;simp only[List.length_append,List.length_map];omega
  subst hv
  have hkl:(gy s).length≤500:=by unfold gy;simp only[List.length_append,List.length_map];omega
  have hk1:∀k∈gy s,1≤k.length:=fun k hk=>by
   unfold gy at hk
   rcases List.mem_append.1 hk with hk|hk
   ·rcases List.mem_append.1 hk with hk|hk
    ·rcases List.mem_append.1 hk with hk|hk
     ·obtain⟨y,_,rfl⟩:=List.mem_map.1 hk;simp
     ·obtain⟨y,_,rfl⟩:=List.mem_map.1 hk;simp
    ·obtain⟨y,_,rfl⟩:=List.mem_map.1 hk;simp
   ·obtain⟨y,_,rfl⟩:=List.mem_map.1 hk;simp
  have hkw:∀w∈s.words,(46::w)∈gy s:=fun w hw=>List.mem_append.2 (.inl (List.mem_append.2 (.inl (List.mem_append.2 (.inl (jd.2 hw))))))
  refine Evt.C1 (P:=ExP (fun t=>t=((gy s).map fun k=>(⟨k.drop 1,txE env k,fmE env k⟩:w5))∧¬caught s env) (fun r=>r=([],false)∧caught s env)) ((Evt.range (fun k t=>t=(((gy s).take k).map fun k=>(⟨k.drop 1,txE env k,fmE env k⟩:w5))∧∀w∈s.words,(46::w)∈(gy s).take k→txE env (46::w)∉ (qs s.form).map fun x=>txE env (63::x)) (fun _=>False) (fun r=>r=([],false)∧caught s env) ⟨by simp,fun w _ h=>by simp at h⟩ (fun k t hk ht=>?_)).mono fun e he=>?_) (fun t ht=>?_) (fun r hr=>?_)
  ·obtain⟨ht1,ht2⟩:=ht
   unfold dF
   have hc2:∀x,E3 x ((qs s.form).map fun x=>txE env (63::x))=some (decide (x∈(qs s.form).map fun x=>txE env (63::x))):=fun x=>yM x _ (by rw[List.length_map];omega)
   simp only[F9,hc2,Option.bind_some]
   refine Evt.bind (P:=fun v=>(∃w∈s.words,Am.get (gy s) k=46::w)→v=decide (txE env (Am.get (gy s) k)∈(qs s.form).map fun x=>txE env (63::x))) (Evt.gd (fun _=>Evt.pure fun _=>rfl) (fun h ⟨w,hw,e⟩=>?_)) fun v hv=>Evt.cond (fun e=>Evt.pure ⟨rfl,?_⟩) (fun e=>?_)
   ·rw[e,decide_eq_true (show(46::w:Bs)∈(gu s).words from jd.2 hw)]at h;cases h
   ·replace e:=bx e
    obtain⟨e1,e2⟩:=e
    obtain⟨w,hw,e3⟩:=List.mem_map.1 (show _∈s.words.map (46:: ·)from e1)
    have:=hv ⟨w,hw,e3.symm⟩
    rw[e2]at this
    refine⟨w,hw,?_⟩
    rw[e3]
    exact of_decide_eq_true this.symm
   ·have hnw:∀w∈s.words,(46::w)∈(gy s).take (k+1)→txE env (46::w)∉ (qs s.form).map fun x=>txE env (63::x):=fun w hw hm=>by
     rw[D8 hk]at hm
     rcases List.mem_append.1 hm with hm|hm
     ·exact ht2 w hw hm
     ·rw[List.mem_singleton]at hm
      intro hc
      have h1:=hv ⟨w,hw,hm.symm⟩
      rw[←hm,decide_eq_true hc]at h1
      rw[←hm,decide_eq_true (show(46::w:Bs)∈(gu s).words from jd.2 hw),h1]at e
      cases e
    have htl:t.length=k:=by rw[ht1,List.length_map,List.length_take];omega
    have hsn:((gy s).take (k+1)).map (fun k=>(⟨k.drop 1,txE env k,fmE env k⟩:w5))=t++[⟨(Am.get (gy s) k).drop 1,txE env (Am.get (gy s) k),fmE env (Am.get (gy s) k)⟩]:=by rw[D8 hk,List.map_append,ht1];rfl
    refine Evt.chk ⟨by omega,hk1 _ (get_mem hk)⟩ (Evt.cond (fun e=>?_) (fun e=>Evt.Q8 (Evt.chk ?_ (Evt.pure ?_))))
    ·refine Evt.bind (Iz _ _ (Nat.le_refl _) (OC Cg (Am.get (gy s) k))) fun v hv=>Evt.Q8 (Evt.chk ?_ (Evt.pure ?_))
     ·rw[J4];simp only[List.length_append,List.length_cons,List.length_nil];omega
     ·subst hv
      exact⟨hsn.symm,hnw⟩
    ·rw[J4];simp only[List.length_append,List.length_cons,List.length_nil];omega
    ·exact⟨hsn.symm,hnw⟩
  ·cases e with
   |ret r=>exact he
   |nxt t=>
    obtain⟨h1,h2⟩:=he.elim id False.elim
    rw[List.take_length]at h1
    refine⟨h1,fun⟨w,hw,hc⟩=>?_⟩
    exact h2 w hw (by rw[List.take_length];exact hkw w hw) hc
  ·obtain⟨rfl,ht⟩:=ht
   unfold dG
   refine Evt.pure ?_
   simp only[if_neg ht]
  ·obtain⟨rfl,hr⟩:=hr
   simp only[if_pos hr]
mutual
def fD(fr to:Bs)(a:Nat):u5→u5
 | .mk k n w s=>.mk k (if k=2∧n=fr∧w.length=a then to else n) w (aN fr to a s)
def aN(fr to:Bs)(a:Nat):List u5→List u5
 | []=>[]
 |f::l=>fD fr to a f::aN fr to a l
end
mutual
def tlF(nm:Bs)(a:Nat):u5→Prop
 | .mk k n w s=>(k=2∧n=nm∧w.length=a)∨wY nm a s
def wY(nm:Bs)(a:Nat):List u5→Prop
 | []=>False
 |f::l=>tlF nm a f∨wY nm a l
end
section
variable (fr to:Bs) (a:Nat)
theorem Gr(f:u5):fD fr to a f= .mk f.kind (if f.kind=2∧f.name=fr∧f.words.length=a then to else f.name) f.words (aN fr to a f.subs):=by cases f;rw[fD];rfl
theorem nV:∀l:List u5,aN fr to a l=l.map (fD fr to a)
 | []=>by rw[aN];rfl
 |f::l=>by rw[aN,nV l];rfl
theorem yQ(l:List u5):(aN fr to a l).length=l.length:=by rw[nV,List.length_map]
mutual
theorem sV:∀f:u5,ndF (fD fr to a f)=ndF f
 | .mk k n w s=>by rw[fD,ndF,ndF,qN s]
theorem qN:∀l:List u5,T6 (aN fr to a l)=T6 l
 | []=>by rw[aN]
 |f::l=>by rw[aN,T6,T6,sV f,qN l]
end
mutual
theorem wD:∀f:u5,dpF (fD fr to a f)=dpF f
 | .mk k n w s=>by rw[fD,dpF,dpF,qO s]
theorem qO:∀l:List u5,eM (aN fr to a l)=eM l
 | []=>by rw[aN]
 |f::l=>by rw[aN,eM,eM,wD f,qO l]
end
mutual
theorem Gs:∀f:u5,nq (fD fr to a f)=nq f
 | .mk k n w s=>by rw[fD,nq,nq,Cx s]
theorem Cx:∀l:List u5,nqL (aN fr to a l)=nqL l
 | []=>by rw[aN]
 |f::l=>by rw[aN,nqL,nqL,Gs f,Cx l]
end
theorem q2{k:Int}(h:k=2):¬QK k:=by subst h;unfold QK;omega
theorem KV{k:Int}{n:Bs}{w:List Bs}(h:QK k):(if k=2∧n=fr∧w.length=a then to else n)=n:=if_neg fun e=>q2 e.1 h
mutual
theorem wE(N:Nat→Bs):∀(f:u5) (env:List (Bs×Bs)) (i:Nat),fD fr to a (ren N f env i)=ren N (fD fr to a f) env i
 | .mk k n w s,env,i=>by
   rw[ren,fD,fD,ren]
   by_cases hq:QK k
   ·rw[KV fr to a hq,KV fr to a hq]
    simp only[if_pos hq]
    rw[sW N s]
   ·simp only[if_neg hq,List.length_map]
    rw[sW N s]
theorem sW(N:Nat→Bs):∀(l:List u5) (env:List (Bs×Bs)) (i:Nat),aN fr to a (I7 N l env i)=I7 N (aN fr to a l) env i
 | [],env,i=>by rw[I7,aN,I7]
 |f::l,env,i=>by rw[I7,aN,aN,I7,wE N f,sW N l,Gs]
end
mutual
theorem Cy:∀(f:u5) (bd:List Bs) (x:Bs),fre (fD fr to a f) bd x↔fre f bd x
 | .mk k n w s,bd,x=>by
   rw[fD,fre,fre]
   by_cases hq:QK k
   ·rw[KV fr to a hq,sX s]
   ·simp only[if_neg hq]
    rw[sX s]
theorem sX:∀(l:List u5) (bd:List Bs) (x:Bs),W8 (aN fr to a l) bd x↔W8 l bd x
 | [],bd,x=>by rw[aN]
 |f::l,bd,x=>by rw[aN,W8,W8,Cy f,sX l]
end
mutual
theorem Gt:∀f:u5,ArF f→ArF (fD fr to a f)
 | .mk k n w s,h=>by
   rw[ArF]at h
   rw[fD,ArF,yQ]
   exact⟨h.1,h.2.1,h.2.2.1,Cz s h.2.2.2⟩
theorem Cz:∀l:List u5,kB l→kB (aN fr to a l)
 | [],_=>by rw[aN,kB];trivial
 |f::l,h=>by
  rw[kB]at h
  rw[aN,kB]
  exact⟨Gt f h.1,Cz l h.2⟩
end
theorem qP{f:u5}(h1:(f.subs.length:Int)=arF f.kind)(h2:iE f.kind f.words.length)(h3:f.kind=2∨QK f.kind→B9 f.name)(h4:¬(f.kind=2∨QK f.kind)→f.name=[])(h5:∀w∈f.words,B9 w):dX f=0:=by
 unfold dX
 rw[if_neg (by omega),if_neg (fun e=>e.elim (fun e=>e h1) fun e=>e h2),if_neg (fun e=>e.2 (h3 e.1)),if_neg (fun e=>e.2 (h4 e.1)),if_neg (fun⟨w,h6,h7⟩=>h7 (h5 w h6))]
variable {to}
mutual
theorem AK(ht:B9 to):∀f:u5,WfF f→WfF (fD fr to a f)
 | .mk k n w s,h=>by
   obtain⟨h1,h2⟩:=(Z4 _).1 h
   obtain⟨n1,n2,n3,n4,n5⟩:=Z8 h1
   rw[Z4]
   refine⟨qP ?_ ?_ ?_ ?_ ?_,?_⟩
   ·rw[fD];show((aN fr to a s).length:Int)=_;rw[yQ];exact n1
   ·rw[fD];exact n2
   ·rw[fD]
    intro e
    show B9 (if _ then to else n)
    split
    ·exact ht
    ·exact n3 e
   ·rw[fD]
    intro e
    show(if _ then to else n)=[]
    rw[if_neg fun e2=>e (.inl e2.1)]
    exact n4 e
   ·rw[fD];exact n5
   ·rw[fD];exact CA ht s h2
theorem CA(ht:B9 to):∀l:List u5,gY l→gY (aN fr to a l)
 | [],_=>by rw[aN,gY];trivial
 |f::l,h=>by
  rw[gY]at h
  rw[aN,gY]
  exact⟨AK ht f h.1,CA ht l h.2⟩
end
theorem KW(ht:B9 to){f:u5}(h:OkF f):OkF (fD fr to a f):=⟨AK fr a ht f h.1,by rw[sV];exact h.2.1,by rw[wD];exact h.2.2⟩
variable (to)
mutual
theorem yR:∀f:u5,¬tlF to a f→fD to fr a (fD fr to a f)=f
 | .mk k n w s,h=>by
   rw[tlF,not_or]at h
   rw[fD,fD,uV s h.2]
   congr 1
   by_cases e:k=2∧n=fr∧w.length=a
   ·rw[if_pos e,if_pos ⟨e.1,rfl,e.2.2⟩];exact e.2.1.symm
   ·rw[if_neg e,if_neg h.1]
theorem uV:∀l:List u5,¬wY to a l→aN to fr a (aN fr to a l)=l
 | [],_=>by rw[aN,aN]
 |f::l,h=>by
  rw[wY,not_or]at h
  rw[aN,aN,yR f h.1,uV l h.2]
end
mutual
theorem yS(hne:fr≠to):∀f:u5,¬tlF fr a (fD fr to a f)
 | .mk k n w s=>by
   rw[fD,tlF,not_or]
   refine⟨fun⟨h1,h2,h3⟩=>?_,uW hne s⟩
   by_cases e:k=2∧n=fr∧w.length=a
   ·rw[if_pos e]at h2;exact hne h2.symm
   ·rw[if_neg e]at h2;exact e ⟨h1,h2,h3⟩
theorem uW(hne:fr≠to):∀l:List u5,¬wY fr a (aN fr to a l)
 | []=>by rw[aN,wY];exact id
 |f::l=>by rw[aN,wY,not_or];exact⟨yS hne f,uW hne l⟩
end
mutual
theorem AL(N:Nat→Bs):∀(f:u5) (env:List (Bs×Bs)) (i:Nat),tlF to a (ren N f env i)↔tlF to a f
 | .mk k n w s,env,i=>by
   rw[ren,tlF,tlF,CB N s,List.length_map]
   by_cases hk:k=2
   ·simp only[if_neg (q2 hk)]
   ·simp only[hk,false_and]
theorem CB(N:Nat→Bs):∀(l:List u5) (env:List (Bs×Bs)) (i:Nat),wY to a (I7 N l env i)↔wY to a l
 | [],env,i=>by rw[I7]
 |f::l,env,i=>by rw[I7,wY,wY,AL N f,CB N l]
end
end
theorem KX{f:u5}{fr to:Bs}{a:Nat}(ht:¬tlF to a f):fD to fr a (cf (fD fr to a f))=cf f:=by
 have e:fre (fD fr to a f) []=fre f []:=by
  funext x
  exact propext (Cy fr to a f [] x)
 show fD to fr a (ren (NN (fre (fD fr to a f) [])) (fD fr to a f) [] 0)=_
 rw[e,wE,yR fr to a f ht]
 rfl
def xw(i:Nat):Bs:=120::Lib.decDigits i
def xs(a:Nat):List Bs:=(List.range a).map xw
theorem OI{i:Nat}(h:i<10):Lib.decDigits i=[UInt8.ofNat (48+i)]:=by rw[Lib.decDigits,dif_pos h]
theorem cN(a:Nat):(xs a).length=a:=by unfold xs;simp
theorem OJ{i:Nat}(h:i<3):B9 (xw i):=by
 have e:xw i=[120,UInt8.ofNat (48+i)]:=by unfold xw;rw[OI (by omega)]
 rw[e]
 have hi:i=0∨i=1∨i=2:=by omega
 have hk':∀k,k<2→k=0∨k=1:=fun k h=>by omega
 rcases hi with rfl|rfl|rfl
 ·exact⟨by decide,by decide,by decide,fun k hk=>by rcases hk' k hk with rfl|rfl<;>(unfold OkC;decide)⟩
 ·exact⟨by decide,by decide,by decide,fun k hk=>by rcases hk' k hk with rfl|rfl<;>(unfold OkC;decide)⟩
 ·exact⟨by decide,by decide,by decide,fun k hk=>by rcases hk' k hk with rfl|rfl<;>(unfold OkC;decide)⟩
theorem OL{a:Nat}(h:a≤3):∀w∈xs a,B9 w:=fun w hw=>by
 obtain⟨i,hi,rfl⟩:=List.mem_map.1 hw
 rw[List.mem_range]at hi
 exact OJ (by omega)
theorem sY{a i:Nat}(h:i<a):Am.get (xs a) i=xw i:=by
 unfold xs
 rw[get_map xw (by simpa using h)]
 congr 1
 unfold Am.get
 rw[List.getD_eq_getElem?_getD,List.getElem?_eq_getElem (by simpa using h)]
 simp
theorem JD{i j:Nat}(h:xw i=xw j):i=j:=wq (List.cons.inj h).2
def uf(n:Bs)(a:Nat):u5:=.mk 2 n (xs a) []
def nW(n:Bs)(a:Nat):w9:=⟨uf n a,xs a,[],[]⟩
theorem AO{n:Bs}{a:Nat}(hn:B9 n)(ha:a≤3):OkF (uf n a):=by
 refine⟨(Z4 _).2 ⟨qP (f:=uf n a) rfl ?_ (fun _=>hn) (fun h=>absurd (Or.inl rfl) h) (OL ha),?_⟩,?_,?_⟩
 ·show iE 2 (xs a).length
  rw[cN];unfold iE;rw[if_pos rfl];exact ha
 ·show gY []
  rw[gY];trivial
 ·show ndF (.mk 2 n (xs a) [])≤_
  rw[ndF,T6];omega
 ·show dpF (.mk 2 n (xs a) [])≤_
  rw[dpF,eM];omega
theorem wF(n:Bs)(a:Nat):vns (nW n a)=xs a:=by unfold vns nW;simp
theorem CD(n:Bs)(a:Nat):qs (nW n a).form=[]:=by
 show qs (.mk 2 n (xs a) [])=[]
 rw[qs,qsL,if_neg (q2 rfl)];rfl
theorem KY{n:Bs}{a:Nat}(x:Bs):fre (nW n a).form [] x↔x∈xs a:=by
 show fre (.mk 2 n (xs a) []) [] x↔_
 rw[fre,W8];simp
theorem Gu{n:Bs}{a:Nat}(hn:B9 n)(ha:a≤3):OkS (nW n a):=by
 refine⟨AO hn ha,by rw[wF,cN];omega,fun j hj=>?_,fun k hk=>?_⟩
 ·rw[wF,cN]at hj
  unfold bV
  rw[wF,sY hj,if_neg (fun h=>h (OJ (by omega))),if_neg,if_pos (show j<(nW n a).words.length by show j<(xs a).length;rw[cN];exact hj),if_pos]
  ·rw[KY, ←sY hj];exact get_mem (by rw[cN];exact hj)
  ·intro h
   obtain⟨i,hi,e⟩:=V7.1 h
   rw[List.length_take,cN]at hi
   rw[vX (by omega),sY (by omega)]at e
   have:=JD e
   omega
 ·rw[CD]at hk;cases hk
theorem OM{n:Bs}{a:Nat}(ha:a≤3):SB (nW n a):=by
 refine⟨by show(xs a).length≤_;rw[cN];omega,by simp[nW],by simp[nW],fun x hx=>?_⟩
 rw[wF]at hx
 have:=(OL ha x hx).2.1
 omega
theorem RT:xs 1=[[120,48]]:=by simp[xs,List.range_succ,xw,OI]
theorem RU:xs 2=[[120,48],[120,49]]:=by simp[xs,List.range_succ,xw,OI]
theorem RV:xs 3=[[120,48],[120,49],[120,50]]:=by simp[xs,List.range_succ,xw,OI]
theorem len2{ws:List Bs}(h:ws.length=2):∃x y,ws=[x,y]:=by
 match ws,h with
 | [x,y],_=>exact⟨x,y,rfl⟩
theorem Tt{ws:List Bs}(h:ws.length=3):∃x y z,ws=[x,y,z]:=by
 match ws,h with
 | [x,y,z],_=>exact⟨x,y,z,rfl⟩
theorem KZ{a:Nat}(h:a≤3):a=0∨a=1∨a=2∨a=3:=by omega
def bdL(a:Nat)(ws:List Bs):List w5:=List.zipWith (fun x y=>⟨x,y,zf⟩) (xs a) ws
theorem La{a:Nat}(ha:a≤3)(ws:List Bs)(hw:ws.length=a):∃e,(ptw (xs a) [] (xs a) ws).bind (bW [])=some e∧(((xs a).map (46:: ·)).map fun k=>(⟨k.drop 1,txE e k,fmE e k⟩:w5))=bdL a ws:=by
 rcases KZ ha with rfl|rfl|rfl|rfl
 ·obtain rfl:ws=[]:=by simpa using hw
  exact⟨[],rfl,rfl⟩
 ·obtain⟨x,rfl⟩:∃x,ws=[x]:=List.length_eq_one_iff.1 hw
  rw[RT]
  refine⟨[([46,120,48],⟨[46,120,48],x,zf⟩)],?_,?_⟩
  ·simp[ptw,bW,oE,assoc,B6]
  ·simp[bdL,RT,txE,fmE,assoc]
 ·obtain⟨x,y,rfl⟩:∃x y,ws=[x,y]:=len2 hw
  rw[RU]
  refine⟨[([46,120,48],⟨[46,120,48],x,zf⟩),([46,120,49],⟨[46,120,49],y,zf⟩)],?_,?_⟩
  ·simp[ptw,bW,oE,assoc,B6]
  ·simp[bdL,RU,txE,fmE,assoc]
 ·obtain⟨x,y,z,rfl⟩:∃x y z,ws=[x,y,z]:=Tt hw
  rw[RV]
  refine⟨[([46,120,48],⟨[46,120,48],x,zf⟩),([46,120,49],⟨[46,120,49],y,zf⟩),([46,120,50],⟨[46,120,50],z,zf⟩)],?_,?_⟩
  ·simp[ptw,bW,oE,assoc,B6]
  ·simp[bdL,RV,txE,fmE,assoc]
theorem Lb(o:Option (List w5)):cat (some []) (cat o (some []))=o:=by
 unfold cat
 cases o<;>simp
theorem yT{n:Bs}{a:Nat}(ha:a≤3)(g:u5):DG (nW n a) g=if g.kind=2∧g.name=n∧g.words.length=a then(bdL a g.words,true)else([],false):=by
 have hpart:¬cr (nW n a) (nW n a).form:=fun h=>by cases h.2
 have hc:∀e,¬caught (nW n a) e:=fun e ⟨w,_,h⟩=>by rw[CD]at h;cases h
 have KU:gy (nW n a)=(xs a).map (46:: ·):=by unfold gy;rw[CD];simp[nW]
 have Tv:pth (nW n a) (nW n a).form g=if n=g.name then some []else none:=by
  unfold pth
  rw[if_neg (q2 (show(nW n a).form.kind=2 from rfl)),if_neg (fun e=>by cases e.2)]
  rfl
 have hlen:(nW n a).form.words.length=a:=cN a
 unfold DG
 rw[pY,if_neg hpart,hlen,Tv]
 by_cases h:g.kind=2∧g.name=n∧g.words.length=a
 ·obtain⟨h1,h2,h3⟩:=h
  obtain⟨e,he,hm⟩:=La ha g.words h3
  rw[if_pos (show g.kind=2∧g.name=n∧g.words.length=a from⟨h1,h2,h3⟩),if_neg (fun e=>e.elim (fun e=>e h1.symm) fun e=>e h3.symm),if_pos h2.symm]
  show(match (cat (some []) (cat (ptw (xs a) [] (xs a) g.words) (some []))).bind (bW [])with|none=>_|some e=>_)=_
  rw[Lb,he]
  simp only
  rw[if_neg (hc e),KU,hm]
 ·rw[if_neg h]
  by_cases h1:(nW n a).form.kind≠g.kind∨a≠g.words.length
  ·rw[if_pos h1];rfl
  ·rw[if_neg h1,not_or,Classical.not_not,Classical.not_not]at*
   rw[if_neg fun e=>h ⟨h1.1.symm,e.symm,h1.2.symm⟩];rfl
theorem pC(fr to:Bs)(k:Int):Evt (fun n=>J0 n fr to k) (fun r=>(∃a:Nat,k=(a:Int)∧a≤3∧B9 fr∧B9 to∧r=(⟨nW fr a,uf to a⟩,⟨0,0⟩))∨(r.2.code≠0∧¬(B9 fr∧B9 to∧0≤k∧k≤3))):=by
 unfold J0
 refine Evt.bind (Z1 fr) fun v hv=>?_
 refine Evt.cond (fun e=>?_) (fun e=>?_)
 ·unfold C9
  exact Evt.pure (.inr ⟨by decide,fun h=>by rw[(K5 hv).2 h.1]at e;cases e⟩)
 have h1:B9 fr:=(K5 hv).1 (by simpa using e)
 refine Evt.bind (Z1 to) fun v3 hv3=>?_
 refine Evt.cond (fun e=>?_) (fun e=>?_)
 ·unfold C9
  exact Evt.pure (.inr ⟨by decide,fun h=>by rw[(K5 hv3).2 h.2.1]at e;cases e⟩)
 have h2:B9 to:=(K5 hv3).1 (by simpa using e)
 refine Evt.cond (fun e=>?_) (fun e=>?_)
 ·unfold C9
  exact Evt.pure (.inr ⟨by decide,fun h=>by replace e:=bx e;omega⟩)
 replace e:=bx e
 obtain⟨a,rfl⟩:∃a:Nat,k=(a:Int):=⟨k.toNat,by omega⟩
 have ha:a≤3:=by omega
 refine Evt.C1 (P:=ExP (fun t=>t=(xs a,xs a,xs a)) (fun _=>False)) ((Evt.vY a (fun k s=>s=((xs a).take k,(xs a).take k,(xs a).take k,(k:Int))) (fun t=>t=(xs a,xs a,xs a)) (fun _=>False) (by simp) (fun k s hk hs=>?_) (fun s hs=>?_))) (fun t ht=>?_) (fun _ h=>h.elim)
 ·subst hs
  unfold Y5
  have hsn:(xs a).take (k+1)=(xs a).take k++[xw k]:=by rw[D8 (by rw[cN];exact hk),sY hk]
  have hl:((xs a).take k++[lP [120] (Lib.decDigits k)]).length≤10:=by rw[List.length_append,List.length_take,cN];simp;omega
  refine Evt.cond (fun _=>?_) (fun e=>by replace e:=bx e;omega)
  simp only[oY (m:=k) (by omega),Option.bind_some]
  have hd:=iG (k:=k) (by omega)
  refine Evt.chk (by unfold M5;simp;omega) (Evt.Q8 (Evt.chk ?_ (Evt.Q8 (Evt.chk ?_ (Evt.Q8 (Evt.chk ?_ (Evt.pure ?_)))))))
  ·rw[J4];omega
  ·rw[J4];omega
  ·rw[J4];omega
  ·show(_,_,_,_)=(_,_,_,_)
   rw[hsn,iy (by omega) (by omega)]
   rfl
 ·subst hs
  unfold Y5
  refine Evt.cond (fun e=>by replace e:=bx e;omega) (fun _=>Evt.pure ?_)
  have e:(xs a).take a=xs a:=by rw[List.take_of_length_le (by rw[cN];exact Nat.le_refl _)]
  show(_,_,_)=(_,_,_)
  rw[e]
 ·have ht:t=_:=ht
  subst ht
  unfold bQ
  exact Evt.pure (.inl ⟨a,rfl,ha,h1,h2,rfl⟩)
def ug(fr to:Bs)(a:Nat):u6:=⟨nW fr a,uf to a⟩
theorem nX(fr:Bs)(a:Nat)(f:u5):D4 (nW fr a) f=some false:=by
 rw[pe]
 congr 1
 exact decide_eq_false fun h=>by cases h.2
theorem Gv(n:Bs)(a:Nat):C5 (uf n a)=some false:=by
 rw[aX]
 congr 1
theorem Lc(n:Bs)(a:Nat):qs (uf n a)=[]:=CD n a
theorem mS(n:Bs)(a:Nat):Evt (fun m=>C0 m (uf n a)) (fun r=>r=[]):=by
 refine(jJ _ _ (Nat.le_refl _) ?_).mono fun r hr=>by rw[hr,Lc]
 show ndF (.mk 2 n (xs a) [])≤_
 rw[ndF,T6];omega
theorem DH(fr to:Bs)(a:Nat):Evt (fun n=>U5 n (ug fr to a)) (fun r=>r=false):=by
 unfold U5 cX
 refine Evt.bind (P:=fun v=>v=[]) (Evt.bind (P:=fun _=>True) (Evt.succ ?_) fun _ _=>Evt.pure rfl) fun v hv=>?_
 ·simp only[K7]
  have:=nX fr a (uf fr a)
  show Evt (fun n=>(D4 (nW fr a) (uf fr a)).bind fun v1=>bif v1 then none else R4 (K7 n) (uf fr a) [] 2 fr (xs a) [] (xs a) [] [] [] ()) (fun _=>True)
  rw[this]
  simp only[Option.bind_some,cond_false]
  unfold R4
  rw[Gv]
  simp only[Option.bind_some,cond_false]
  unfold R5
  exact⟨(),trivial,0,fun n _=>rfl⟩
 ·subst hv
  refine Evt.bind (mS fr a) fun v2 hv2=>?_
  subst hv2
  refine Evt.bind (P:=fun v=>v=false) (Evt.succ ?_) fun v hv=>Evt.pure hv
  simp only[E8]
  show Evt (fun n=>(D4 (nW fr a) (uf to a)).bind _) _
  rw[nX]
  simp only[Option.bind_some,cond_false]
  unfold P2
  refine Evt.C1 (P:=ExP (fun _=>True) (fun _=>False)) ((Evt.range (fun _ _=>True) (fun _=>False) (fun _=>False) trivial (fun k s hk hs=>?_)).mono fun e he=>?_) (fun t ht=>?_) (fun _ h=>h.elim)
  ·unfold U6
   rw[F9]
   simp only[Option.bind_some,List.not_mem_nil,decide_false]
   exact Evt.pure trivial
  ·cases e with
   |ret r=>exact he
   |nxt t=>trivial
  ·unfold U7
   show Evt (fun n=>(C5 (uf to a)).bind _) _
   rw[Gv]
   simp only[Option.bind_some,cond_false]
   unfold L1 F8 G5
   exact⟨false,rfl,0,fun n _=>rfl⟩
theorem uh{fr to:Bs}{a:Nat}(h1:B9 fr)(h2:B9 to)(ha:a≤3):Evt (fun n=>R9 n [ug fr to a]) (fun r=>r=⟨0,0⟩):=by
 unfold R9
 refine Evt.cond (fun e=>by simp at e) (fun _=>?_)
 refine Evt.C1 (P:=ExP (fun _=>True) (fun _=>False)) ((Evt.range (fun _ _=>True) (fun _=>False) (fun _=>False) trivial (fun k s hk hs=>?_)).mono fun e he=>?_) (fun t ht=>Evt.pure rfl) (fun _ h=>h.elim)
 ·obtain rfl:k=0:=by simp at hk;omega
  unfold U8
  have e0:Am.get [ug fr to a] 0=ug fr to a:=rfl
  rw[e0]
  refine Evt.bind (sO (OM (n:=fr) ha)) fun v hv=>?_
  obtain rfl:=GY.ok hv (Gu h1 ha)
  refine Evt.cond (fun e=>by simp at e) (fun _=>?_)
  show Evt (fun n=>(D4 (nW fr a) (uf fr a)).bind _) _
  rw[nX]
  simp only[Option.bind_some,cond_false]
  refine Evt.bind (R2 _) fun v hv=>?_
  subst hv
  rw[show kW (ug fr to a).to_=⟨0,0⟩from nP (AO h2 ha)]
  refine Evt.cond (fun e=>by simp at e) (fun _=>?_)
  refine Evt.bind (mS to a) fun v27 hv27=>?_
  subst hv27
  refine Evt.C1 (P:=ExP (fun _=>True) (fun _=>False)) ⟨.nxt (),trivial,0,fun n _=>rfl⟩ (fun _ _=>?_) (fun _ h=>h.elim)
  unfold U9
  rw[e0]
  refine Evt.bind (DH fr to a) fun v hv=>?_
  subst hv
  exact Evt.pure trivial
 ·cases e with
  |ret r=>exact he
  |nxt t=>trivial
theorem wG{a:Nat}{ws:List Bs}(h:ws.length=a):(bdL a ws).length=a:=by unfold bdL;rw[List.length_zipWith,cN,h];omega
theorem Ld{a:Nat}{ws:List Bs}(h:ws.length=a){k:Nat}(hk:k<a):Am.get (bdL a ws) k=⟨xw k,Am.get ws k,zf⟩:=by
 have e1:Am.get (xs a) k=xw k:=sY hk
 unfold Am.get at e1⊢
 unfold bdL
 rw[List.getD_eq_getElem?_getD,List.getElem?_eq_getElem (by rw[cN];exact hk)]at e1
 rw[List.getD_eq_getElem?_getD,List.getElem?_eq_getElem (by rw[List.length_zipWith,cN,h];omega),List.getD_eq_getElem?_getD,List.getElem?_eq_getElem (by omega)]
 simp only[Option.getD_some]at e1⊢
 rw[List.getElem_zipWith,e1]
theorem Le{a:Nat}{ws:List Bs}(h:ws.length=a){k:Nat}(hk:k<a):Evt (fun _=>N3 (bdL a ws) (xw k)) (fun r=>r=Am.get ws k):=by
 unfold N3
 refine Evt.C1 (Evt.scan (fun j _=>j≤k) (fun j r=>r=Am.get ws k) (Nat.zero_le _) (fun j u hj hi=>?_)) (fun t ht=>?_) (fun r hr=>?_)
 ·rw[wG h]at hj
  unfold Y6
  rw[Ld h hj]
  refine Evt.cond (fun e=>Evt.pure ?_) (fun e=>Evt.pure ?_)
  ·replace e:=bx e
   have:=JD e
   subst this
   rfl
  ·replace e:=bx e
   show j+1≤k
   have:j≠k:=fun ej=>e (by rw[ej])
   omega
 ·have ht:(bdL a ws).length≤k:=ht
  rw[wG h]at ht
  omega
 ·obtain⟨_,_,_,_,e⟩:=hr
  exact e
theorem Gw{fr to:Bs}{a:Nat}(ha:a≤3){ws:List Bs}(hw:ws.length=a)(self:Nat→u5→Bs→List u6→Int→List (Bs×Int)→List u7→Option (w6×Bool×Int×List u7))(path:Bs)(rs:List u6)(c:Int)(mp:List (Bs×Int))(u:List u7):
 Evt (fun n=>Z2 (self n) n (ug fr to a) (bdL a ws) path rs c mp u) (fun r=>r=(⟨.mk 2 to ws [],1,1⟩,true,c,u)):=by
 unfold Z2
 refine Evt.bind (mS to a) fun v hv=>?_
 subst hv
 refine Evt.C1 (P:=ExP (fun t=>t=(c,[])) (fun _=>False)) ⟨.nxt (c,[]),rfl,0,fun n _=>rfl⟩ (fun t ht=>?_) (fun _ h=>h.elim)
 have ht:t=_:=ht
 subst ht
 unfold aO cF
 refine Evt.bind (P:=fun _=>True) (Evt.bind (P:=fun _=>True) (Evt.succ ?_) fun _ _=>Evt.pure trivial) fun v19 _=>?_
 ·simp only[P7]
  show Evt (fun n=>(gd (!(assoc fr ([]:List (Bs×Bs))).isSome) (D4 (nW fr a) (uf fr a)) default).bind _) _
  rw[nX]
  exact⟨_,trivial,0,fun n _=>rfl⟩
 refine Evt.bind (P:=fun r=>r.1=⟨.mk 2 to ws [],1,1⟩∧r.2.1=true∧r.2.2.1=c∧r.2.2.2.1=u) (Evt.succ ?_) fun r hr=>Evt.pure ?_
 ·simp only[J1]
  show Evt (fun n=>(D4 (nW fr a) (uf to a)).bind _) _
  rw[nX]
  simp only[Option.bind_some,cond_false]
  refine Evt.C1 (P:=ExP (fun t=>t=ws) (fun _=>False)) ((Evt.range (fun k s=>s=ws.take k) (fun _=>False) (fun _=>False) (by simp) (fun k s hk hs=>?_)).mono fun e he=>?_) (fun t ht=>?_) (fun _ h=>h.elim)
  ·have hk:k<(xs a).length:=hk
   rw[cN]at hk
   have hgw:Am.get (ug fr to a).to_.words k=xw k:=sY hk
   have hlen:((ug fr to a).from_.words.length:Int)=(a:Int):=by show((xs a).length:Int)=_;rw[cN]
   unfold Y7
   rw[F9]
   simp only[Option.bind_some,List.not_mem_nil,decide_false,cond_false]
   rw[hgw,hlen]
   have hbl:=wG hw
   refine Evt.chk ⟨by omega,by rw[hbl];simp⟩ ?_
   have et:(bdL a ws).take ((a:Int)).toNat=bdL a ws:=List.take_of_length_le (by rw[hbl];simp)
   rw[et]
   refine Evt.bind (Le hw hk) fun v hv=>Evt.Q8 (Evt.chk ?_ (Evt.pure ?_))
   ·rw[J4,hs];simp only[List.length_append,List.length_take,List.length_cons,List.length_nil];omega
   ·show s++[v]=_
    rw[hv,hs,D8 (by omega)]
  ·cases e with
   |ret r=>exact he
   |nxt t=>
    have he:t=ws.take (ug fr to a).to_.words.length:=he.elim id False.elim
    rw[show(ug fr to a).to_.words.length=a from cN a,List.take_of_length_le (by omega)]at he
    exact he
  ·have ht:ws=t:=Eq.symm ht
   subst ht
   unfold Y8
   show Evt (fun n=>(C5 (uf to a)).bind _) _
   rw[Gv]
   simp only[Option.bind_some,cond_false]
   have hlen:((ug fr to a).from_.words.length:Int)=(a:Int):=by show((xs a).length:Int)=_;rw[cN]
   have hp:((ug fr to a).from_.C4.length:Int)=0:=rfl
   have hbl:=wG hw
   rw[hlen,hp]
   refine Evt.cond (fun _=>?_) (fun e=>by cases e)
   have hwr:wr .i64 ((a:Int)+0)=(a:Int):=by rw[iy (by omega) (by omega)];omega
   rw[hwr]
   refine Evt.chk ⟨by omega,by omega,by omega,by rw[hbl];simp⟩ ?_
   have ed:((bdL a ws).drop ((a:Int)).toNat).take (((a:Int)).toNat-((a:Int)).toNat)=[]:=by rw[Nat.sub_self,List.take_zero]
   rw[ed]
   refine Evt.bind (P:=fun v=>v=to) ⟨to,rfl,0,fun n _=>rfl⟩ fun v hv=>?_
   subst hv
   unfold K2
   exact⟨_,⟨rfl,rfl,rfl,rfl⟩,0,fun n _=>rfl⟩
 ·obtain⟨e1,e2,e3,e4⟩:=hr
  rw[e1,e2,e3,e4]
mutual
def hits(fr:Bs)(a:Nat):u5→Bs→List Bs
 | .mk k n w s,p=>if k=2∧n=fr∧w.length=a then [p]else lq fr a s p 0
def lq(fr:Bs)(a:Nat):List u5→Bs→Nat→List Bs
 | [],_,_=>[]
 |f::l,p,i=>hits fr a f (p++Lib.decDigits i)++lq fr a l p (i+1)
end
section
variable (fr:Bs) (a:Nat)
theorem Gx(f:u5)(p:Bs):hits fr a f p=if f.kind=2∧f.name=fr∧f.words.length=a then [p]else lq fr a f.subs p 0:=by cases f;rw[hits];rfl
theorem uX:∀(l:List u5) (x:u5) (p:Bs) (i:Nat),lq fr a (l++[x]) p i=lq fr a l p i++hits fr a x (p++Lib.decDigits (i+l.length))
 | [],x,p,i=>by simp[lq]
 |b::l,x,p,i=>by rw[List.cons_append,lq,lq,uX l,List.append_assoc,List.length_cons,show i+1+l.length=i+(l.length+1)by omega]
mutual
theorem wH:∀(f:u5) (p:Bs),(hits fr a f p).Sublist (qK f p)
 | .mk k n w s,p=>by
   rw[hits,qK]
   split
   ·exact(List.nil_sublist _).cons_cons p
   ·exact(sZ s p 0).cons p
theorem sZ:∀(l:List u5) (p:Bs) (i:Nat),(lq fr a l p i).Sublist (fC l p i)
 | [],p,i=>by rw[lq,fC];exact List.nil_sublist _
 |f::l,p,i=>by rw[lq,fC];exact(wH f _).append (sZ l p (i+1))
end
theorem IB(f:u5)(p:Bs):(hits fr a f p).length≤ndF f:=by
 have:=(wH fr a f p).length_le
 rw[qL]at this
 exact this
end
def usd(mp:List (Bs×Int))(q:Bs):u7:=⟨(assoc q mp).getD default,0⟩
theorem Lf{f:u5}(h:SmF f)(hn:ndF f≤200)(fr:Bs)(a:Nat):Oh ((hits fr a f []).map (usd (qM (qK f []) 0))):=by
 have hnd:=AJ f [] h
 have hs:=wH fr a f []
 have key:∀q∈hits fr a f [],∃j,j<ndF f∧Am.get (qK f []) j=q∧usd (qM (qK f []) 0) q=⟨(j:Int),0⟩:=fun q hq=>by
  obtain⟨j,hj,e⟩:=V7.1 (hs.subset hq)
  refine⟨j,by rw[←qL f []];exact hj,e,?_⟩
  unfold usd
  rw[←e,pB _ 0 j hnd hj,Nat.zero_add]
  rfl
 refine⟨fun x hx=>?_,?_⟩
 ·obtain⟨q,hq,rfl⟩:=List.mem_map.1 hx
  obtain⟨j,hj,_,e⟩:=key q hq
  rw[e]
  exact⟨by show(0:Int)≤(j:Int);omega,by show(j:Int)≤_;omega⟩
 ·rw[List.map_map]
  refine List.pairwise_map.2 ((hnd.sublist hs).imp_of_mem fun {x y} hx hy hne e=>?_)
  obtain⟨i,_,e1,e2⟩:=key x hx
  obtain⟨j,_,e3,e4⟩:=key y hy
  have e:(usd (qM (qK f []) 0) x).at_=(usd (qM (qK f []) 0) y).at_:=e
  rw[e2,e4]at e
  have e:(i:Int)=(j:Int):=e
  have:i=j:=by omega
  subst this
  exact hne (e1.symm.trans e3)
section
variable {fr to:Bs} {a:Nat}
theorem AP(hfr:B9 fr)(ha:a≤3):∀(m:Nat) (f:u5),SizeOf.sizeOf f≤m→ArF f→ndF f≤200→dpF f≤40→∀(path:Bs) (c:Int) (mp:List (Bs×Int)) (u:List u7),path.length+ndF f≤100000→u.length+ndF f≤100000→
 Evt (fun n=>F4 n f path [ug fr to a] c mp u) (fun r=>r=(szF (fD fr to a f),true,c,u++(hits fr a f path).map (usd mp))):=by
 intro m
 induction m with
 |zero=>intro f h;cases f;simp only[u5.mk.sizeOf_spec]at h;omega
 |succ m ih=>
  intro f hf har hn hdp path c mp u hp hu
  have hsm:=ArF.sm f har
  have hsl:=kZ hsm
  have hnd:=kr f
  have hdq:=Jw f
  have hgs:=(Gu hfr ha).good
  refine Evt.succ ?_
  simp only[F4]
  by_cases hh:f.kind=2∧f.name=fr∧f.words.length=a
  ·obtain⟨h1,h2,h3⟩:=hh
   have hs:f.subs=[]:=by
    have:=((Gp f).1 har).1
    rw[h1]at this
    have:f.subs.length=0:=by
     have e:arF 2=0:=rfl
     rw[e]at this;omega
    exact List.length_eq_zero_iff.1 this
   have hres:(szF (fD fr to a f),true,c,u++(hits fr a f path).map (usd mp))=((⟨.mk 2 to f.words [],1,1⟩:w6),true,c,u++[usd mp path]):=by
    rw[Gx,if_pos ⟨h1,h2,h3⟩]
    unfold szF
    rw[sV,wD,hnd,hdq,Gr,if_pos ⟨h1,h2,h3⟩,hs,h1]
    rfl
   rw[hres]
   refine Evt.C1 (P:=ExP (fun _=>False) (fun r=>r=((⟨.mk 2 to f.words [],1,1⟩:w6),true,c,u++[usd mp path]))) ((Evt.scan (fun k _=>k=0) (fun _ r=>r=((⟨.mk 2 to f.words [],1,1⟩:w6),true,c,u++[usd mp path])) rfl (fun k s hk hs=>?_)).mono fun e he=>?_) (fun t ht=>ht.elim) (fun r hr=>hr)
   ·subst hs
    unfold P3
    have e0:Am.get [ug fr to a] 0=ug fr to a:=rfl
    rw[e0]
    refine Evt.bind (wC hgs har) fun v hv=>?_
    rw[yT ha,if_pos ⟨h1,h2,h3⟩]at hv
    subst hv
    refine Evt.cond (fun e=>by cases e) (fun _=>Evt.Q8 (Evt.chk ?_ ?_))
    ·rw[J4];simp only[List.length_append,List.length_cons,List.length_nil];omega
    refine Evt.bind (Gw ha h3 _ path _ c mp _) fun v9 hv9=>Evt.pure ?_
    subst hv9
    rfl
   ·cases e with
    |ret r=>obtain⟨_,_,_,_,e⟩:=he;exact e
    |nxt t=>
     have he:(1:Nat)=0:=he
     omega
  ·have Tw:fD fr to a f= .mk f.kind f.name f.words (f.subs.map (fD fr to a)):=by rw[Gr,if_neg hh,nV]
   refine Evt.C1 (P:=ExP (fun _=>True) (fun _=>False)) ((Evt.range (fun _ _=>True) (fun _=>False) (fun _=>False) trivial (fun k s hk hs=>?_)).mono fun e he=>?_) (fun _ _=>?_) (fun _ h=>h.elim)
   ·obtain rfl:k=0:=by simp at hk;omega
    unfold P3
    have e0:Am.get [ug fr to a] 0=ug fr to a:=rfl
    rw[e0]
    refine Evt.bind (wC hgs har) fun v hv=>?_
    rw[yT ha,if_neg hh]at hv
    subst hv
    exact Evt.cond (fun _=>Evt.pure trivial) (fun e=>by cases e)
   ·cases e with
    |ret r=>exact he
    |nxt t=>trivial
   unfold V0
   have hS:∀k:Nat,(c,u++(lq fr a (f.subs.take k) path 0).map (usd mp),(f.subs.take k).map (fun x=>szF (fD fr to a x)),(f.subs.take k).map (fD fr to a))=(c,u++(lq fr a (f.subs.take k) path 0).map (usd mp),(f.subs.take k).map (fun x=>szF (fD fr to a x)),(f.subs.take k).map (fD fr to a)):=fun _=>rfl
   refine Evt.C1 (P:=ExP (fun t=>t=(c,u++(lq fr a f.subs path 0).map (usd mp),f.subs.map (fun x=>szF (fD fr to a x)),f.subs.map (fD fr to a))) (fun _=>False)) ((Evt.range (fun k t=>t=(c,u++(lq fr a (f.subs.take k) path 0).map (usd mp),(f.subs.take k).map (fun x=>szF (fD fr to a x)),(f.subs.take k).map (fD fr to a))) (fun _=>False) (fun _=>False) (by simp[lq]) (fun k t hk ht=>?_)).mono fun e he=>?_) (fun t ht=>?_) (fun _ h=>h.elim)
   ·subst ht
    have hsz:=I6 hk
    have htk:=bE hk
    have hdk:=Cp hk
    have hd:=iG (k:=k) (by omega)
    have hlk:(f.subs.take k).length=k:=by rw[List.length_take];omega
    have hhl:(lq fr a (f.subs.take k) path 0).length≤T6 (f.subs.take k):=by
     have:=(sZ fr a (f.subs.take k) path 0).length_le
     rw[sU]at this
     exact this
    unfold V1
    simp only[oY (m:=k) (by omega),Option.bind_some]
    refine Evt.chk (by unfold M5;omega) (Evt.bind (ih _ (by omega) (Cw har hk) (by omega) (by omega) _ c mp _ ?_ ?_) fun v hv=>?_)
    ·show(path++Lib.decDigits k).length+_≤_
     rw[List.length_append];omega
    ·simp only[List.length_append,List.length_map];omega
    ·subst hv
     refine Evt.cond (fun e=>by cases e) (fun _=>Evt.Q8 (Evt.chk ?_ (Evt.Q8 (Evt.chk ?_ (Evt.pure ?_)))))
     ·rw[J4];simp only[List.length_append,List.length_map,List.length_take,List.length_cons,List.length_nil];omega
     ·rw[J4];simp only[List.length_append,List.length_map,List.length_take,List.length_cons,List.length_nil];omega
     ·show(_,_,_,_)=(_,_,_,_)
      rw[D8 hk,List.map_append,List.map_append,uX,List.map_append,hlk,Nat.zero_add,List.append_assoc];rfl
   ·cases e with
    |ret r=>exact he
    |nxt t=>
     have:=he.elim id False.elim
     rw[List.take_length]at this
     exact this
   ·have ht:t=_:=ht
    subst ht
    unfold V2
    have em:f.subs.map (fun x=>szF (fD fr to a x))=(aN fr to a f.subs).map szF:=by rw[nV,List.map_map];rfl
    simp only[em]
    refine Evt.bind (AH (by rw[qN];omega) (by rw[qO];omega)) fun v hv=>Evt.pure ?_
    subst hv
    rw[qN,qO]
    have h1:decide (1+T6 f.subs≤200∧eM f.subs<40)=true:=decide_eq_true (by omega)
    rw[h1,Gx,if_neg hh]
    unfold szF
    rw[sV,wD,hnd,hdq,Nat.add_comm (eM f.subs) 1,Tw]
theorem Gy(hfr:B9 fr)(hto:B9 to)(ha:a≤3){f:u5}(h:OkF f):Evt (fun n=>cx n [ug fr to a] f) (fun r=>r.1=cf (fD fr to a f)∧r.2.2=true):=by
 have hn:=h.2.1
 have hq:=oW f
 have har:=WfF.ar f h.1
 have hsm:=WfF.sm f h.1
 have hag:ArF (ren qn f [] 0):=ArF.ren qn f [] 0 har
 have hsg:SmF (ren qn f [] 0):=ArF.sm _ hag
 have hgn:ndF (ren qn f [] 0)=ndF f:=sI qn f [] 0
 have hgd:dpF (ren qn f [] 0)=dpF f:=uQ qn f [] 0
 unfold cx
 refine Evt.bind (Co _ f (Nat.le_refl _) hsm _ 0 [] [] (by omega)) fun v1 hv1=>?_
 subst hv1
 refine Evt.bind (uU _ _ (Nat.le_refl _) hsg [] _ _ [] [] (by simp;omega) (fun q hq=>by cases hq)) fun v2 hv2=>?_
 subst hv2
 refine Evt.bind (AP hfr ha _ _ (Nat.le_refl _) hag (by omega) (by rw[hgd];exact h.2.2) [] _ _ [] (by simp;omega) (by simp;omega)) fun v3 hv3=>?_
 subst hv3
 refine Evt.cond (fun e=>by cases e) (fun _=>?_)
 refine Evt.bind (P:=fun _=>True) ?_ fun v4 _=>Evt.bind (P:=fun v=>v=cf (fD fr to a (ren qn f [] 0))) (yO (f:=fD fr to a (ren qn f [] 0)) (ArF.sm _ (Gt fr to a _ hag)) (by rw[sV];omega)) fun v6 hv6=>Evt.pure ⟨?_,rfl⟩
 ·unfold D0
  have hl:=IB fr a (ren qn f [] 0) []
  refine Evt.chk ⟨?_,?_⟩ (Evt.pure trivial)
  ·simp only[List.nil_append,List.length_map];omega
  ·exact Lf hsg (by omega) fr a
 ·show v6=_
  rw[hv6,wE,OG (AK fr a hto f h.1) Gk AF]
theorem yU(hfr:B9 fr)(hto:B9 to)(ha:a≤3){f:u5}(h:OkF f):Evt (fun n=>K8 n [ug fr to a] f) (fun r=>r=(cf (fD fr to a f),⟨0,0⟩)):=by
 unfold K8 cG
 refine Evt.bind (P:=fun v=>v=⟨0,0⟩) (Evt.bind (uh hfr hto ha) fun v hv=>?_) fun v hv=>?_
 ·subst hv
  refine Evt.cond (fun e=>by simp at e) (fun _=>Evt.bind (R2 f) fun v hv=>Evt.pure ?_)
  rw[hv,nP h]
 ·subst hv
  refine Evt.cond (fun e=>by simp at e) (fun _=>Evt.bind (Gy hfr hto ha h) fun w hw=>?_)
  obtain⟨e1,e2⟩:=hw
  rw[e1,e2]
  exact Evt.cond (fun e=>by cases e) (fun _=>Evt.pure rfl)
end
open Classical in
theorem CF(nm:Bs)(a:Nat):∀(m:Nat) (f:u5),SizeOf.sizeOf f≤m→SmF f→Evt (fun n=>H6 n f nm (a:Int)) (fun r=>r=decide (tlF nm a f)):=by
 intro m
 induction m with
 |zero=>intro f h;cases f;simp only[u5.mk.sizeOf_spec]at h;omega
 |succ m ih=>
  intro f hf hsm
  have hsl:=kZ hsm
  have hte:tlF nm a f↔(f.kind=2∧f.name=nm∧f.words.length=a)∨wY nm a f.subs:=by cases f;rw[tlF];exact Iff.rfl
  have hL:∀l:List u5,wY nm a l↔ ∃x∈l,tlF nm a x:=fun l=>by
   induction l with
   |nil=>rw[wY];simp
   |cons x l ihl=>rw[wY,ihl];simp
  refine Evt.succ ?_
  simp only[H6]
  refine Evt.cond (fun e=>Evt.pure ?_) (fun e=>?_)
  ·replace e:=bx e
   have e:f.kind=2∧f.name=nm∧f.words.length=a:=⟨e.1.1,e.1.2,by have:=e.2;omega⟩
   exact(decide_eq_true (hte.2 (.inl e))).symm
  ·have e':¬(f.kind=2∧f.name=nm∧f.words.length=a):=fun⟨h1,h2,h3⟩=>by
    have h4:((f.words.length:Nat):Int)=(a:Int):=by omega
    simp[h1,h2,h4]at e
   refine Evt.C1 (Evt.vY f.subs.length (fun k s=>s=(k:Int)∧∀i,i<k→¬tlF nm a (Am.get f.subs i)) (fun _=>¬wY nm a f.subs) (fun r=>r=true∧wY nm a f.subs) ⟨rfl,fun i hi=>absurd hi (Nat.not_lt_zero _)⟩ (fun k s hk hs=>?_) (fun s hs=>?_)) (fun t ht=>?_) (fun r hr=>?_)
   ·obtain⟨rfl,hs⟩:=hs
    have hsz:=I6 hk
    unfold N4
    refine Evt.cond (fun _=>Evt.chk (by omega) (Evt.bind (ih _ (by show SizeOf.sizeOf (Am.get f.subs ((k:Int)).toNat)≤m;rw[Int.toNat_natCast];omega) (by rw[Int.toNat_natCast];exact mB hsm hk)) fun v hv=>?_)) (fun e=>by replace e:=bx e;omega)
    rw[Int.toNat_natCast]at hv
    subst hv
    refine Evt.cond (fun e=>Evt.pure ⟨rfl,(hL _).2 ⟨_,get_mem hk,of_decide_eq_true e⟩⟩) (fun e=>Evt.pure ?_)
    rw[iy (by omega) (by omega)]
    refine⟨rfl,fun i hi=>?_⟩
    by_cases ei:i=k
    ·subst ei;exact of_decide_eq_false e
    ·exact hs i (by omega)
   ·obtain⟨rfl,hs⟩:=hs
    unfold N4
    refine Evt.cond (fun e=>by replace e:=bx e;omega) (fun _=>Evt.pure fun h=>?_)
    obtain⟨x,hx,ht⟩:=(hL _).1 h
    obtain⟨j,hj,rfl⟩:=V7.1 hx
    exact hs j hj ht
   ·have ht:¬wY nm a f.subs:=ht
    unfold T5
    exact Evt.pure (decide_eq_false fun h=>(hte.1 h).elim e' ht).symm
   ·rw[hr.1]
    exact(decide_eq_true (hte.2 (.inr hr.2))).symm
open Classical in
theorem yt(fr to:Bs)(k:Int)(f:u5):Evt (fun n=>G3 n fr to k f) (fun b=>b=true):=by
 unfold G3
 refine Evt.bind eT fun v hv=>?_
 subst hv
 refine Evt.cond (fun e=>by cases e) (fun _=>?_)
 refine Evt.bind (pC fr to k) fun v2 h2=>Evt.bind (pC to fr k) fun v3 h3=>Evt.bind (nU f) fun v4 h4=>?_
 by_cases hok:¬OkF f
 ·have e4:=h4.1 hok
  subst e4
  have hne:=Gn hok
  refine Evt.bind (P:=fun _=>True) (Evt.gd (fun e=>by simp[hne]at e) (fun _=>trivial)) fun v5 _=>Evt.cond (fun _=>Evt.pure rfl) (fun e=>by simp[hne]at e)
 replace hok:=Classical.not_not.1 hok
 have e4:=h4.2 hok
 subst e4
 rcases h2.symm with⟨h2,_⟩|⟨a,rfl,ha,hfr,hto,rfl⟩
 ·refine Evt.bind (P:=fun _=>True) (Evt.gd (fun e=>by simp[h2]at e) (fun _=>trivial)) fun v5 _=>Evt.cond (fun _=>Evt.pure rfl) (fun e=>by simp[h2]at e)
 rcases h3.symm with⟨h3,_⟩|⟨a',hk,_,_,_,rfl⟩
 ·refine Evt.bind (P:=fun _=>True) (Evt.gd (fun e=>by simp[h3]at e) (fun _=>trivial)) fun v5 _=>Evt.cond (fun _=>Evt.pure rfl) (fun e=>by simp[h3]at e)
 obtain rfl:a=a':=by omega
 have hcf:=KS hok
 refine Evt.bind (P:=fun v=>v=decide (tlF to a (cf f))) (Evt.gd (fun _=>CF to a _ _ (Nat.le_refl _) (WfF.sm _ hcf.1)) (fun e=>by simp at e)) fun v5 hv5=>?_
 subst hv5
 refine Evt.cond (fun _=>Evt.pure rfl) (fun e=>?_)
 have ht:¬tlF to a (cf f):=fun h=>by simp[h]at e
 have ht:¬tlF to a f:=fun h=>ht ((AL to a _ f [] 0).2 h)
 have hr:=KW fr a hto hok
 have hg:=KS hr
 refine Evt.bind (yU hfr hto ha hok) fun v7 hv7=>?_
 subst hv7
 refine Evt.bind (P:=fun v=>fr≠to→v=false) (Evt.gd (fun _=>(CF fr a _ _ (Nat.le_refl _) (WfF.sm _ hg.1)).mono fun r hr hne=>?_) (fun e hne=>by simp[hne]at e)) fun v8 hv8=>?_
 ·rw[hr]
  exact decide_eq_false fun h=>yS fr to a hne f ((AL fr a _ _ [] 0).1 h)
 refine Evt.cond (fun e=>?_) (fun _=>?_)
 ·by_cases hne:fr=to
  ·simp[hne]at e
  ·have:=hv8 hne
   simp[this]at e
 refine Evt.bind (yU hto hfr ha hg) fun v10 hv10=>?_
 subst hv10
 have hb:cf (fD to fr a (cf (fD fr to a f)))=cf f:=by rw[KX ht,QX hok]
 rw[hb]
 refine Evt.bind (P:=fun v=>v=true) (Evt.gd (fun _=>eS _ _ (Nat.le_refl _) (WfF.sm _ hcf.1)) (fun e=>by simp at e)) fun v11 hv11=>Evt.pure ?_
 subst hv11
 rfl
def zT:u6:=⟨⟨zf,[],[],[]⟩,zf⟩
def Tx(fr to:Bs)(k:Int)(r:u6×B1):Prop:=
 (¬B9 fr∧r=(zT,⟨10, -1⟩))∨(B9 fr∧¬B9 to∧r=(zT,⟨10, -2⟩))∨(B9 fr∧B9 to∧(k<0∨3<k)∧r=(zT,⟨3, -3⟩))∨(B9 fr∧B9 to∧∃a:Nat,k=(a:Int)∧a≤3∧r=(ug fr to a,⟨0,0⟩))
theorem AU(fr to:Bs)(k:Int):Evt (fun n=>J0 n fr to k) (Tx fr to k):=by
 by_cases h1:B9 fr
 ·by_cases h2:B9 to
  ·by_cases h3:k<0∨3<k
   ·unfold J0
    refine Evt.bind (Z1 fr) fun v hv=>Evt.cond (fun e=>?_) (fun _=>?_)
    ·rw[(K5 hv).2 h1]at e;cases e
    refine Evt.bind (Z1 to) fun v hv=>Evt.cond (fun e=>?_) (fun _=>?_)
    ·rw[(K5 hv).2 h2]at e;cases e
    refine Evt.cond (fun _=>?_) (fun e=>by replace e:=bx e;omega)
    unfold C9
    exact Evt.pure (.inr (.inr (.inl ⟨h1,h2,h3,rfl⟩)))
   ·obtain⟨a,rfl⟩:∃a:Nat,k=(a:Int):=⟨k.toNat,by omega⟩
    refine(pC fr to a).mono fun r hr=>?_
    rcases hr with⟨a',e,ha,_,_,rfl⟩|⟨_,h⟩
    ·exact .inr (.inr (.inr ⟨h1,h2,a',e,ha,rfl⟩))
    ·exact absurd ⟨h1,h2,by omega,by omega⟩ h
  ·unfold J0
   refine Evt.bind (Z1 fr) fun v hv=>Evt.cond (fun e=>?_) (fun _=>?_)
   ·rw[(K5 hv).2 h1]at e;cases e
   refine Evt.bind (Z1 to) fun v hv=>Evt.cond (fun _=>?_) (fun e=>?_)
   ·unfold C9
    exact Evt.pure (.inr (.inl ⟨h1,h2,rfl⟩))
   ·exact absurd ((K5 hv).1 (by simpa using e)) h2
 ·unfold J0
  refine Evt.bind (Z1 fr) fun v hv=>Evt.cond (fun _=>?_) (fun e=>?_)
  ·unfold C9
   exact Evt.pure (.inl ⟨h1,rfl⟩)
  ·exact absurd ((K5 hv).1 (by simpa using e)) h1
theorem yV:Evt (fun n=>L7 n zf) (fun b=>b=true):=by
 unfold L7
 exact Evt.bind (eS _ _ (Nat.le_refl _) smz) fun v hv=>Evt.pure hv
theorem Lg{k:Nat}(h:k<3): [UInt8.ofNat 120,UInt8.ofNat (wr .u8 (wr .i64 (48+(k:Int)))).toNat]=xw k:=by
 have hk:k=0∨k=1∨k=2:=by omega
 unfold xw
 rw[OI (by omega)]
 rcases hk with rfl|rfl|rfl<;>decide
theorem Gz(fr to:Bs)(k:Int)(c i:Int)(hc:c≠0):Evt (fun n=>B2 n (zT,⟨c,i⟩) k fr to (c,i)) (fun b=>b=true):=by
 unfold B2
 refine Evt.cond (fun _=>?_) (fun e=>by simp[hc]at e)
 refine Evt.bind (P:=fun v=>v=true) (Evt.gd (fun _=>yV) (fun e=>by simp at e)) fun v hv=>?_
 subst hv
 refine Evt.bind (P:=fun v=>v=true) (Evt.gd (fun _=>yV) (fun e=>by simp at e)) fun v hv=>Evt.pure ?_
 subst hv
 simp[zT]
theorem ud{fr to:Bs}(hf:fr.length≤8000000)(ht:to.length≤8000000)(k:Int):Evt (fun n=>F1 n fr to k) (fun b=>b=true):=by
 unfold F1
 refine Evt.bind eT fun v hv=>?_
 subst hv
 refine Evt.cond (fun e=>by cases e) (fun _=>Evt.bind (AU fr to k) fun v2 h2=>Evt.bind (iY hf) fun v3 hv3=>?_)
 rcases h2 with⟨h1,rfl⟩|⟨h1,h2,rfl⟩|⟨h1,h2,h3,rfl⟩|⟨h1,h2,a,rfl,ha,rfl⟩
 ·refine Evt.cond (fun _=>Gz fr to k 10 (-1) (by decide)) (fun e=>?_)
  exact absurd ((K5 hv3).1 (by simpa using e)) h1
 ·refine Evt.cond (fun e=>?_) (fun _=>Evt.bind (iY ht) fun v4 hv4=>Evt.cond (fun _=>Gz fr to k 10 (-2) (by decide)) (fun e=>?_))
  ·rw[(K5 hv3).2 h1]at e;cases e
  ·exact absurd ((K5 hv4).1 (by simpa using e)) h2
 ·refine Evt.cond (fun e=>?_) (fun _=>Evt.bind (iY ht) fun v4 hv4=>Evt.cond (fun e=>?_) (fun _=>Evt.cond (fun _=>Gz fr to k 3 (-3) (by decide)) (fun e=>by replace e:=bx e;omega)))
  ·rw[(K5 hv3).2 h1]at e;cases e
  ·rw[(K5 hv4).2 h2]at e;cases e
 ·refine Evt.cond (fun e=>?_) (fun _=>Evt.bind (iY ht) fun v4 hv4=>Evt.cond (fun e=>?_) (fun _=>Evt.cond (fun e=>by replace e:=bx e;omega) (fun _=>?_)))
  ·rw[(K5 hv3).2 h1]at e;cases e
  ·rw[(K5 hv4).2 h2]at e;cases e
  unfold B2
  refine Evt.cond (fun e=>by simp at e) (fun _=>?_)
  have e0:(xs a).take a=xs a:=by rw[List.take_of_length_le (by rw[cN];exact Nat.le_refl _)]
  refine Evt.C1 (P:=ExP (fun t=>t=xs a) (fun _=>False)) ((Evt.vY a (fun k s=>s=((xs a).take k,(k:Int))) (fun t=>t=xs a) (fun _=>False) (by simp) (fun k s hk hs=>?_) (fun s hs=>?_))) (fun t ht=>?_) (fun _ h=>h.elim)
  ·subst hs
   unfold D1
   refine Evt.cond (fun _=>Evt.Q8 (Evt.chk ?_ (Evt.pure ?_))) (fun e=>by replace e:=bx e;omega)
   ·rw[J4];simp only[List.length_append,List.length_take,cN,List.length_cons,List.length_nil];omega
   ·show(_,_)=(_,_)
    have hc:=Lg (show k<3 by omega)
    rw[D8 (by rw[cN];exact hk),sY hk]
    simp only[hc]
    rw[iy (by omega) (by omega)]
    rfl
  ·subst hs
   unfold D1
   refine Evt.cond (fun e=>by replace e:=bx e;omega) (fun _=>Evt.pure ?_)
   exact e0
  ·have ht:t=_:=ht
   subst ht
   unfold D9
   have hl:(xs a).length≤3:=by rw[cN];exact ha
   have hsf:∀n:Bs,B9 n→SmF (u5.mk 2 n (xs a) []):=fun n hn=>WfF.sm _ (AO hn ha).1
   unfold E9
   refine Evt.bind (P:=fun v=>v=uf fr a) (Evt.gd (fun _=>Evt.pure rfl) (fun e=>by simp at e)) fun v hv=>?_
   subst hv
   refine Evt.bind (P:=fun v=>v=true) (Evt.gd (fun _=>eS _ (uf fr a) (Nat.le_refl _) (hsf fr h1)) (fun e=>by simp at e)) fun v hv=>?_
   subst hv
   refine Evt.bind (P:=fun v=>v=uf to a) (Evt.gd (fun _=>Evt.pure rfl) (fun e=>by simp at e)) fun v hv=>?_
   subst hv
   refine Evt.bind (P:=fun v=>v=true) (Evt.gd (fun _=>eS _ (uf to a) (Nat.le_refl _) (hsf to h2)) (fun e=>by simp at e)) fun v hv=>?_
   subst hv
   refine Evt.bind (P:=fun v=>v=true) (Evt.gd (fun _=>mA (l:=xs a) (by omega)) (fun e=>by simp at e)) fun v hv=>Evt.pure ?_
   subst hv
   simp[ug,nW]
end Go.Proofs.YtfacbpehlibilaaGreatDoor
