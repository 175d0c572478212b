import Derived.Test.YtfacbpehlibilaaGreatDoorTBLaw3
set_option linter.unusedVariables false
set_option linter.unusedSimpArgs false
namespace Go.Proofs.YtfacbpehlibilaaGreatDoor
open Go Go.Am
def Er(m E:List (Bs×Bs)):Prop:=∀w,(assoc w m).getD w=sub E w
theorem Er.nil:Er [] []:=fun w=>rfl
theorem Er.put{m E:List (Bs×Bs)}(h:Er m E)(a v:Bs):Er (OU a v m) ((a,v)::E):=fun w=>by
 rw[Tq]
 by_cases e:a=w
 ·subst e
  rw[ZE,if_pos rfl];rfl
 ·rw[d2u (fun x=>e x.symm),if_neg e];exact h w
theorem i1R{c:Nat}(hc:c≤1000000)(rs:List Oz)(m:List (Bs×Int))(u:List Oy):Ry rs (c:Int) m u=some (qn c,((c+1:Nat):Int)):=by
 unfold Ry
 have hw:wr .i64 ((c:Int)+1)=((c+1:Nat):Int):=by rw[d0H (by omega) (by omega)];rfl
 have hl:=d7G (m:=c+1) (by omega)
 rw[hw,d5o (by omega),Option.bind_some,d3j (show RG _ _ by unfold RG;simp;omega)]
 rfl
theorem i1S:∀(m:Nat) (f:Ox),SizeOf.sizeOf f≤m→SmF f→∀(rs:List Oz) (c:Nat) (mp:List (Bs×Int)) (u:List Oy) (env E:List (Bs×Bs)),Er env E→c+nq f≤1000000→
 Evt (fun n=>PN n f rs (c:Int) mp u env) (fun r=>r=(ren qn f E c,((c+nq f:Nat):Int))):=by
 intro m
 induction m with
 |zero=>intro f h;cases f;simp only[Ox.mk.sizeOf_spec]at h;omega
 |succ m ih=>
  intro f hf hsm rs c mp u env E hE hc
  have hws:=d8J hsm
  have hsl:=d1x hsm
  have hnq:=i3f f
  refine Evt.succ ?_
  simp only[PN]
  refine Evt.Pg (P:=ExP (fun t=>t=f.words.map (sub E)) (fun _=>False)) ((Evt.range (fun k s=>s=(f.words.take k).map (sub E)) (fun _=>False) (fun _=>False) (by simp) (fun k s hk hs=>?_)).mono fun e he=>?_) (fun t ht=>?_) (fun _ h=>h.elim)
  ·have hw:=hE (Am.get f.words k)
   have hsn:(f.words.take (k+1)).map (sub E)=s++[sub E (Am.get f.words k)]:=by rw[QL hk,List.map_append,hs];rfl
   have hsl:s.length≤3:=by rw[hs,List.length_map,List.length_take];omega
   unfold RR
   cases ha:assoc (Am.get f.words k) env with
   |none=>
    rw[ha]at hw
    refine Evt.cond (fun e=>by cases e) (fun _=>Evt.Tg (Evt.chk ?_ (Evt.pure ?_)))
    ·rw[Vl];simp only[List.length_append,List.length_cons,List.length_nil];omega
    ·show s++[_]=_
     rw[hsn, ←hw];rfl
   |some v=>
    rw[ha]at hw
    refine Evt.cond (fun _=>Evt.Tg (Evt.chk ?_ (Evt.pure ?_))) (fun e=>by cases e)
    ·rw[Vl];simp only[List.length_append,List.length_cons,List.length_nil];omega
    ·show s++[_]=_
     rw[hsn, ←hw];rfl
  ·cases e with
   |ret r=>exact he
   |nxt t=>
    have:=he.elim id False.elim
    rw[List.take_length]at this
    exact this
  ·have ht:t=f.words.map (sub E):=ht
   subst ht
   unfold RS
   simp only[WU,Option.bind_some]
   refine Evt.cond (fun e=>?_) (fun e=>?_)
   ·replace e:=bx e
    rw[if_pos e]at hnq
    simp only[i1R (c:=c) (by omega),Option.bind_some]
    refine Evt.Tg ?_
    have hE':=hE.put f.name (qn c)
    refine Evt.Pg (P:=ExP (fun t=>t=(((c+1+nqL f.subs:Nat):Int),Sc qn f.subs ((f.name,qn c)::E) (c+1))) (fun _=>False)) ((Evt.range (fun k s=>s=(((c+1+nqL (f.subs.take k):Nat):Int),Sc qn (f.subs.take k) ((f.name,qn c)::E) (c+1))) (fun _=>False) (fun _=>False) (by simp[nqL,Sc]) (fun k s hk hs=>?_)).mono fun e he=>?_) (fun t ht=>?_) (fun _ h=>h.elim)
    ·subst hs
     have hsz:=Rw hk
     have hqk:=ZD hk
     unfold RT
     refine Evt.bind (ih _ (by omega) (d0Q hsm hk) rs (c+1+nqL (f.subs.take k)) mp u _ _ hE' (by omega)) fun v hv=>Evt.Tg (Evt.chk ?_ (Evt.pure ?_))
     ·rw[Vl];simp only[List.length_append,Vm,List.length_take,List.length_cons,List.length_nil];omega
     ·subst hv
      show(_,_)=(_,_)
      rw[QL hk,Xk,XK,Nat.add_assoc (c+1)]
    ·cases e with
     |ret r=>exact he
     |nxt t=>
      have:=he.elim id False.elim
      rw[List.take_length]at this
      exact this
    ·have ht:t=_:=ht
     subst ht
     unfold RU
     refine Evt.pure ?_
     rw[d4B]
     simp only[if_pos e]
     rw[show c+nq f=c+1+nqL f.subs by omega]
   ·replace e:=bx e
    rw[if_neg e]at hnq
    refine Evt.Pg (P:=ExP (fun t=>t=(((c+nqL f.subs:Nat):Int),Sc qn f.subs E c)) (fun _=>False)) ((Evt.range (fun k s=>s=(((c+nqL (f.subs.take k):Nat):Int),Sc qn (f.subs.take k) E c)) (fun _=>False) (fun _=>False) (by simp[nqL,Sc]) (fun k s hk hs=>?_)).mono fun e he=>?_) (fun t ht=>?_) (fun _ h=>h.elim)
    ·subst hs
     have hsz:=Rw hk
     have hqk:=ZD hk
     unfold RV
     refine Evt.bind (ih _ (by omega) (d0Q hsm hk) rs (c+nqL (f.subs.take k)) mp u _ _ hE (by omega)) fun v hv=>Evt.Tg (Evt.chk ?_ (Evt.pure ?_))
     ·rw[Vl];simp only[List.length_append,Vm,List.length_take,List.length_cons,List.length_nil];omega
     ·subst hv
      show(_,_)=(_,_)
      rw[QL hk,Xk,XK,Nat.add_assoc c]
    ·cases e with
     |ret r=>exact he
     |nxt t=>
      have:=he.elim id False.elim
      rw[List.take_length]at this
      exact this
    ·have ht:t=_:=ht
     subst ht
     unfold RW
     refine Evt.pure ?_
     rw[d4B]
     simp only[if_neg e,Nat.add_zero]
     rw[show c+nq f=c+nqL f.subs by omega]
theorem d3z(l:List Bs):l.map (sub [])=l:=(List.map_congr_left fun x _=>d7A x).trans (List.map_id' l)
theorem i3t:∀(m:Nat) (f:Ox),SizeOf.sizeOf f≤m→SmF f→∀(rs:List Oz) (c:Nat) (mp:List (Bs×Int)) (u:List Oy),c+nq f≤1000000→
 Evt (fun n=>Qz n f rs (c:Int) mp u) (fun r=>r=(ren qn f [] c,((c+nq f:Nat):Int))):=by
 intro m
 induction m with
 |zero=>intro f h;cases f;simp only[Ox.mk.sizeOf_spec]at h;omega
 |succ m ih=>
  intro f hf hsm rs c mp u hc
  have hws:=d8J hsm
  have hsl:=d1x hsm
  have hnq:=i3f f
  refine Evt.succ ?_
  simp only[Qz]
  refine Evt.Pg (P:=ExP (fun t=>t=f.words) (fun _=>False)) ((Evt.range (fun k s=>s=f.words.take k) (fun _=>False) (fun _=>False) (by simp) (fun k s hk hs=>?_)).mono fun e he=>?_) (fun t ht=>?_) (fun _ h=>h.elim)
  ·subst hs
   unfold SC
   refine Evt.cond (fun e=>by cases e) (fun _=>Evt.Tg (Evt.chk ?_ (Evt.pure ?_)))
   ·rw[Vl];simp only[List.length_append,List.length_take,List.length_cons,List.length_nil];omega
   ·show _++[_]=_
    rw[QL hk]
  ·cases e with
   |ret r=>exact he
   |nxt t=>
    have:=he.elim id False.elim
    rw[List.take_length]at this
    exact this
  ·have ht:t=f.words:=ht
   subst ht
   unfold SD
   simp only[WU,Option.bind_some]
   refine Evt.cond (fun e=>?_) (fun e=>?_)
   ·replace e:=bx e
    rw[if_pos e]at hnq
    simp only[i1R (c:=c) (by omega),Option.bind_some]
    refine Evt.Tg ?_
    have hE':=Er.nil.put f.name (qn c)
    refine Evt.Pg (P:=ExP (fun t=>t=(((c+1+nqL f.subs:Nat):Int),Sc qn f.subs [(f.name,qn c)] (c+1))) (fun _=>False)) ((Evt.range (fun k s=>s=(((c+1+nqL (f.subs.take k):Nat):Int),Sc qn (f.subs.take k) [(f.name,qn c)] (c+1))) (fun _=>False) (fun _=>False) (by simp[nqL,Sc]) (fun k s hk hs=>?_)).mono fun e he=>?_) (fun t ht=>?_) (fun _ h=>h.elim)
    ·subst hs
     have hqk:=ZD hk
     unfold SE
     refine Evt.bind (i1S _ _ (Nat.le_refl _) (d0Q hsm hk) rs (c+1+nqL (f.subs.take k)) mp u _ _ hE' (by omega)) fun v hv=>Evt.Tg (Evt.chk ?_ (Evt.pure ?_))
     ·rw[Vl];simp only[List.length_append,Vm,List.length_take,List.length_cons,List.length_nil];omega
     ·subst hv
      show(_,_)=(_,_)
      rw[QL hk,Xk,XK,Nat.add_assoc (c+1)]
    ·cases e with
     |ret r=>exact he
     |nxt t=>
      have:=he.elim id False.elim
      rw[List.take_length]at this
      exact this
    ·have ht:t=_:=ht
     subst ht
     unfold SF
     refine Evt.pure ?_
     rw[d4B,d3z]
     simp only[if_pos e]
     rw[show c+nq f=c+1+nqL f.subs by omega]
   ·replace e:=bx e
    rw[if_neg e]at hnq
    refine Evt.Pg (P:=ExP (fun t=>t=(((c+nqL f.subs:Nat):Int),Sc qn f.subs [] c)) (fun _=>False)) ((Evt.range (fun k s=>s=(((c+nqL (f.subs.take k):Nat):Int),Sc qn (f.subs.take k) [] c)) (fun _=>False) (fun _=>False) (by simp[nqL,Sc]) (fun k s hk hs=>?_)).mono fun e he=>?_) (fun t ht=>?_) (fun _ h=>h.elim)
    ·subst hs
     have hsz:=Rw hk
     have hqk:=ZD hk
     unfold SG
     refine Evt.bind (ih _ (by omega) (d0Q hsm hk) rs (c+nqL (f.subs.take k)) mp u (by omega)) fun v hv=>Evt.Tg (Evt.chk ?_ (Evt.pure ?_))
     ·rw[Vl];simp only[List.length_append,Vm,List.length_take,List.length_cons,List.length_nil];omega
     ·subst hv
      show(_,_)=(_,_)
      rw[QL hk,Xk,XK,Nat.add_assoc c]
    ·cases e with
     |ret r=>exact he
     |nxt t=>
      have:=he.elim id False.elim
      rw[List.take_length]at this
      exact this
    ·have ht:t=_:=ht
     subst ht
     unfold SH
     refine Evt.pure ?_
     rw[d4B,d3z]
     simp only[if_neg e,Nat.add_zero]
     rw[show c+nq f=c+nqL f.subs by omega]
theorem Zq{k:Nat}(hk:k<10):(Lib.decDigits k).length=1:=by rw[Lib.decDigits,dif_pos hk];rfl
theorem i1T:∀(m:Nat) (f:Ox),SizeOf.sizeOf f≤m→SmF f→∀(path:Bs) (rs:List Oz) (c:Int) (mp:List (Bs×Int)) (u:List Oy),path.length+ndF f≤100000→Evt (fun n=>QN n f path rs c mp u) (fun _=>True):=by
 intro m
 induction m with
 |zero=>intro f h;cases f;simp only[Ox.mk.sizeOf_spec]at h;omega
 |succ m ih=>
  intro f hf hsm path rs c mp u hp
  have hsl:=d1x hsm
  have hnd:=d4A f
  refine Evt.succ ?_
  simp only[QN]
  refine Evt.Tg (Evt.Pg (P:=ExP (fun _=>True) (fun _=>False)) ((Evt.range (fun _ _=>True) (fun _=>False) (fun _=>False) trivial (fun k s hk hs=>?_)).mono fun e he=>?_) (fun t ht=>?_) (fun _ h=>h.elim))
  ·have hsz:=Rw hk
   have htk:=Xj hk
   have hd:=Zq (k:=k) (by omega)
   unfold Sf
   simp only[d5o (m:=k) (by omega),Option.bind_some]
   refine Evt.chk (by unfold RG;omega) (Evt.bind (ih _ (by omega) (d0Q hsm hk) _ rs c s u ?_) fun v _=>Evt.pure trivial)
   show(path++Lib.decDigits k).length+_≤_
   rw[List.length_append];omega
  ·cases e with
   |ret r=>exact he
   |nxt t=>trivial
  ·unfold Sg
   exact Evt.pure trivial
theorem d8K:∀(l:List Ox) (x:Ox),YT (l++[x])=max (YT l) (dpF x)
 | [],x=>by simp[YT]
 |a::l,x=>by
  rw[List.cons_append,YT,YT,d8K l x]
  omega
theorem d8L:∀ {l:List Ox} {k:Nat},k<l.length→dpF (Am.get l k)≤YT l
 | [],k,h=>by simp at h
 |a::l,0,_=>by
  rw[YT]
  show dpF a≤_
  omega
 |a::l,k+1,h=>by
  rw[YT]
  have:=d8L (l:=l) (k:=k) (by simpa using h)
  have e:Am.get (a::l) (k+1)=Am.get l k:=rfl
  rw[e];omega
def szF(f:Ox):OA:=⟨f,((ndF f:Nat):Int),((dpF f:Nat):Int)⟩
theorem i5r{l:List Ox}(hn:Tx l≤100000)(hd:YT l≤100000):Evt (fun _=>UU (l.map szF)) (fun r=>r=(((1+Tx l:Nat):Int),((YT l+1:Nat):Int),decide (1+Tx l≤200∧YT l<40))):=by
 unfold UU
 rw[List.length_map]
 refine Evt.Pg (P:=ExP (fun t=>t=(((1+Tx l:Nat):Int),((YT l:Nat):Int))) (fun _=>False)) ((Evt.range (fun k t=>t=(((1+Tx (l.take k):Nat):Int),((YT (l.take k):Nat):Int))) (fun _=>False) (fun _=>False) (by simp[Tx,YT]) (fun k t hk ht=>?_)).mono fun e he=>?_) (fun t ht=>?_) (fun _ h=>h.elim)
 ·subst ht
  have htk:=Xj hk
  unfold Vp
  rw[get_map szF hk]
  refine Evt.pure ?_
  show(_,_)=(_,_)
  rw[QL hk,Zn,d8K]
  simp only[szF]
  rw[d0H (by omega) (by omega)]
  refine Prod.ext ?_ ?_
  ·show((1+Tx (l.take k):Nat):Int)+((ndF (Am.get l k):Nat):Int)=((1+(Tx (l.take k)+ndF (Am.get l k)):Nat):Int);omega
  ·show max ((YT (l.take k):Nat):Int) ((dpF (Am.get l k):Nat):Int)=((max (YT (l.take k)) (dpF (Am.get l k)):Nat):Int);omega
 ·cases e with
  |ret r=>exact he
  |nxt t=>
   have:=he.elim id False.elim
   rw[List.take_length]at this
   exact this
 ·have ht:t=_:=ht
  subst ht
  unfold Vq
  refine Evt.pure ?_
  show(_,_,_)=(_,_,_)
  rw[d0H (by omega) (by omega)]
  refine Prod.ext rfl (Prod.ext ?_ ?_)
  ·show((YT l:Nat):Int)+1=((YT l+1:Nat):Int);omega
  ·show(bif decide (((1+Tx l:Nat):Int)≤200)then decide (((YT l:Nat):Int)<40)else false)=decide _
   by_cases h:1+Tx l≤200
   ·rw[decide_eq_true (show((1+Tx l:Nat):Int)≤200 by omega),cond_true]
    exact decide_eq_decide.2 (by omega)
   ·rw[decide_eq_false (show ¬((1+Tx l:Nat):Int)≤200 by omega),cond_false]
    exact(decide_eq_false (by omega)).symm
theorem d7N:∀(m:Nat) (f:Ox),SizeOf.sizeOf f≤m→SmF f→ndF f≤200→dpF f≤40→∀(path:Bs) (c:Int) (mp:List (Bs×Int)) (u:List Oy),path.length+ndF f≤100000→
 Evt (fun n=>PB n f path [] c mp u) (fun r=>r=(szF f,true,c,u)):=by
 intro m
 induction m with
 |zero=>intro f h;cases f;simp only[Ox.mk.sizeOf_spec]at h;omega
 |succ m ih=>
  intro f hf hsm hn hdp path c mp u hp
  have hsl:=d1x hsm
  have hnd:=d4A f
  have hdq:=i7G f
  refine Evt.succ ?_
  simp only[PB]
  refine Evt.Pg (P:=ExP (fun _=>True) (fun _=>False)) ⟨.nxt (),trivial,0,fun n _=>rfl⟩ (fun _ _=>?_) (fun _ h=>h.elim)
  unfold SI
  refine Evt.Pg (P:=ExP (fun t=>t=(c,u,f.subs.map szF,f.subs)) (fun _=>False)) ((Evt.range (fun k t=>t=(c,u,(f.subs.take k).map szF,f.subs.take k)) (fun _=>False) (fun _=>False) (by simp) (fun k t hk ht=>?_)).mono fun e he=>?_) (fun t ht=>?_) (fun _ h=>h.elim)
  ·subst ht
   have hsz:=Rw hk
   have htk:=Xj hk
   have hdk:=d8L hk
   have hd:=Zq (k:=k) (by omega)
   unfold SJ
   simp only[d5o (m:=k) (by omega),Option.bind_some]
   refine Evt.chk (by unfold RG;omega) (Evt.bind (ih _ (by omega) (d0Q hsm hk) (by omega) (by omega) _ c mp u ?_) fun v hv=>?_)
   ·show(path++Lib.decDigits k).length+_≤_
    rw[List.length_append];omega
   ·subst hv
    refine Evt.cond (fun e=>by cases e) (fun _=>Evt.Tg (Evt.chk ?_ (Evt.Tg (Evt.chk ?_ (Evt.pure ?_)))))
    ·rw[Vl];simp only[List.length_append,List.length_map,List.length_take,List.length_cons,List.length_nil];omega
    ·rw[Vl];simp only[List.length_append,List.length_take,List.length_cons,List.length_nil];omega
    ·show(_,_,_,_)=(_,_,_,_)
     rw[QL hk,List.map_append];rfl
  ·cases e with
   |ret r=>exact he
   |nxt t=>
    have:=he.elim id False.elim
    rw[List.take_length]at this
    exact this
  ·have ht:t=_:=ht
   subst ht
   unfold SK
   refine Evt.bind (i5r (by omega) (by omega)) fun v hv=>Evt.pure ?_
   subst hv
   have h1:decide (1+Tx f.subs≤200∧YT f.subs<40)=true:=decide_eq_true (by omega)
   rw[h1]
   unfold szF
   rw[i3s,hnd,hdq,Nat.add_comm (YT f.subs) 1]
theorem d6x{f:Ox}(h:OkF f):Evt (fun n=>VX n [] f) (fun r=>r=(cf f,[],true)):=by
 have hn:=h.2.1
 have hq:=i1o f
 have hsm:=WfF.sm f h.1
 have hsg:SmF (ren qn f [] 0):=SmF.ren qn f [] 0 hsm
 have hgn:ndF (ren qn f [] 0)=ndF f:=i1t qn f [] 0
 have hgd:dpF (ren qn f [] 0)=dpF f:=i1v qn f [] 0
 unfold VX
 refine Evt.bind (i3t _ f (Nat.le_refl _) hsm [] 0 [] [] (by omega)) fun v1 hv1=>?_
 subst hv1
 refine Evt.bind (i1T _ _ (Nat.le_refl _) hsg [] [] _ [] [] (by simp;omega)) fun v2 _=>?_
 refine Evt.bind (d7N _ _ (Nat.le_refl _) hsg (by omega) (by rw[hgd];exact h.2.2) [] _ v2 [] (by simp;omega)) fun v3 hv3=>?_
 subst hv3
 refine Evt.cond (fun e=>by cases e) (fun _=>?_)
 refine Evt.bind (P:=fun v=>v=[]) ?_ fun v4 hv4=>Evt.bind (P:=fun v=>v=cf (ren qn f [] 0)) (i1P (f:=ren qn f [] 0) hsg (by omega)) fun v6 hv6=>Evt.pure ?_
 ·show Evt (fun _=>OY []) _
  unfold OY
  exact Evt.chk (by decide) (Evt.pure rfl)
 subst hv4
 rw[hv6,i7W h.1 i7X i5q]
theorem d5t(f:Ox):Evt (fun n=>RL n f) (fun r=>(¬OkF f→r=(zf,Zm f))∧(OkF f→r=(cf f,⟨0,0⟩))):=by
 unfold RL
 refine Evt.bind (XH f) fun v hv=>?_
 subst hv
 refine Evt.cond (fun e=>Evt.pure ⟨fun _=>rfl,fun h=>?_⟩) (fun e=>?_)
 ·rw[d3u h]at e;simp at e
 have hok:OkF f:=(YI f).1 (by simpa using e)
 refine Evt.bind (i3l hok) fun c hc=>Evt.pure ⟨fun h=>absurd hok h,fun _=>?_⟩
 rw[hc]
theorem d3A(f:Ox):Evt (fun n=>TQ n [] f) (fun r=>r=Zm f):=by
 unfold TQ
 refine Evt.bind (P:=fun v=>v=⟨0,0⟩) ?_ fun v hv=>?_
 ·unfold Uq
  refine Evt.cond (fun e=>by simp at e) (fun _=>?_)
  exact Evt.Pg (P:=ExP (fun _=>True) (fun _=>False)) ⟨.nxt (),trivial,0,fun n _=>rfl⟩ (fun _ _=>Evt.pure rfl) (fun _ h=>h.elim)
 ·subst hv
  exact Evt.cond (fun e=>by simp at e) (fun _=>Evt.bind (XH f) fun v hv=>Evt.pure hv)
theorem smz:SmF zf:=by
 show SmF (Ox.mk 0 [] [] [])
 rw[SmF]
 exact⟨Nat.zero_le _,Nat.zero_le _,by rw[d2a];trivial⟩
theorem d4b(f:Ox):Evt (fun n=>Qb n f) (fun b=>b=true):=by
 unfold Qb
 refine Evt.bind d0R fun v hv=>?_
 subst hv
 refine Evt.cond (fun e=>by cases e) (fun _=>?_)
 refine Evt.bind (P:=fun r=>(¬OkF f→r=(zf,Zm f))∧(OkF f→r=(cf f,⟨0,0⟩))) ?_ fun v2 h2=>Evt.bind (P:=fun r=>(¬OkF f→r=([],Zm f))∧(OkF f→r=([],⟨0,0⟩))) ?_ fun v3 h3=>Evt.bind (d5t f) fun v4 h4=>?_
 ·unfold SL
  refine Evt.bind (d3A f) fun v hv=>?_
  subst hv
  refine Evt.cond (fun e=>Evt.pure ⟨fun _=>rfl,fun h=>?_⟩) (fun e=>?_)
  ·rw[d3u h]at e;simp at e
  have hok:OkF f:=(YI f).1 (by simpa using e)
  refine Evt.bind (d6x hok) fun w hw=>?_
  subst hw
  exact Evt.cond (fun e=>by cases e) (fun _=>Evt.pure ⟨fun h=>absurd hok h,fun _=>rfl⟩)
 ·unfold Vr
  refine Evt.bind (d3A f) fun v hv=>?_
  subst hv
  refine Evt.cond (fun e=>Evt.pure ⟨fun _=>rfl,fun h=>?_⟩) (fun e=>?_)
  ·rw[d3u h]at e;simp at e
  have hok:OkF f:=(YI f).1 (by simpa using e)
  refine Evt.bind (d6x hok) fun w hw=>?_
  subst hw
  exact Evt.cond (fun e=>by cases e) (fun _=>Evt.pure ⟨fun h=>absurd hok h,fun _=>rfl⟩)
 ·by_cases hok:OkF f
  ·have e2:=h2.2 hok
   have e3:=h3.2 hok
   have e4:=h4.2 hok
   subst e2 e3 e4
   refine Evt.bind (P:=fun v=>v=true) (Evt.gd (fun _=>d0P _ _ (Nat.le_refl _) (WfF.sm _ (i9Q hok).1)) (fun g=>by simp at g)) fun v hv=>Evt.pure ?_
   rw[hv];simp
  ·have e2:=h2.1 hok
   have e3:=h3.1 hok
   have e4:=h4.1 hok
   subst e2 e3 e4
   refine Evt.bind (P:=fun v=>v=true) (Evt.gd (fun _=>d0P _ _ (Nat.le_refl _) smz) (fun g=>by simp at g)) fun v hv=>Evt.pure ?_
   rw[hv];simp
mutual
def i3u:Ox→Bs→List Bs
 | .mk _ _ _ l,p=>p::d0S l p 0
def d0S:List Ox→Bs→Nat→List Bs
 | [],_,_=>[]
 |f::l,p,i=>i3u f (p++Lib.decDigits i)++d0S l p (i+1)
end
mutual
theorem i3v:∀(f:Ox) (p:Bs),(i3u f p).length=ndF f
 | .mk _ _ _ l,p=>by rw[i3u,ndF,List.length_cons,d6y l];omega
theorem d6y:∀(l:List Ox) (p:Bs) (i:Nat),(d0S l p i).length=Tx l
 | [],p,i=>by rw[d0S,Tx];rfl
 |f::l,p,i=>by rw[d0S,Tx,List.length_append,i3v f,d6y l]
end
mutual
theorem d8M:∀(f:Ox) (p:Bs),∀q∈i3u f p,p <+: q
 | .mk _ _ _ l,p,q,h=>by
   rw[i3u]at h
   rcases List.mem_cons.1 h with rfl|h
   ·exact List.prefix_refl _
   ·obtain⟨j,_,_,hj⟩:=d0T l p 0 q h
    exact(List.prefix_append _ _).trans hj
theorem d0T:∀(l:List Ox) (p:Bs) (i:Nat),∀q∈d0S l p i,∃j,i≤j∧j<i+l.length∧(p++Lib.decDigits j) <+: q
 | [],p,i,q,h=>by rw[d0S]at h;cases h
 |f::l,p,i,q,h=>by
  rw[d0S]at h
  rcases List.mem_append.1 h with h|h
  ·exact⟨i,Nat.le_refl _,by rw[List.length_cons];omega,d8M f _ q h⟩
  ·obtain⟨j,h1,h2,h3⟩:=d0T l p (i+1) q h
   exact⟨j,by omega,by rw[List.length_cons];omega,h3⟩
end
theorem i7Y{a b q:Bs}(h1:a <+: q)(h2:b <+: q)(hl:a.length=b.length):a=b:=
 (List.prefix_of_prefix_length_le h1 h2 (by omega)).eq_of_length hl
theorem i7Z{p q:Bs}{i j:Nat}(hi:i<10)(hj:j<10)(h1:(p++Lib.decDigits i) <+: q)(h2:(p++Lib.decDigits j) <+: q):i=j:=by
 have hl:(p++Lib.decDigits i).length=(p++Lib.decDigits j).length:=by rw[List.length_append,List.length_append,Zq hi,Zq hj]
 exact d7F (List.append_cancel_left (i7Y h1 h2 hl))
mutual
theorem i5s:∀(f:Ox) (p:Bs),SmF f→(i3u f p).Nodup
 | .mk k n w l,p,h=>by
   rw[SmF]at h
   rw[i3u,List.nodup_cons]
   refine⟨fun hm=>?_,d8N l p 0 (by omega) h.2.2⟩
   obtain⟨j,_,hj,h3⟩:=d0T l p 0 p hm
   have:=h3.length_le
   rw[List.length_append,Zq (by omega)]at this
   omega
theorem d8N:∀(l:List Ox) (p:Bs) (i:Nat),i+l.length≤10→d2a l→(d0S l p i).Nodup
 | [],p,i,_,_=>by rw[d0S];exact List.nodup_nil
 |f::l,p,i,hi,h=>by
  rw[d2a]at h
  rw[List.length_cons]at hi
  rw[d0S,List.nodup_append]
  refine⟨i5s f _ h.1,d8N l p (i+1) (by omega) h.2,fun x hx y hy e=>?_⟩
  subst e
  obtain⟨j,h1,h2,h3⟩:=d0T l p (i+1) x hy
  have:=i7Z (by omega) (by omega) (d8M f _ x hx) h3
  omega
end
mutual
def ArF:Ox→Prop
 | .mk k _ w s=>((s.length:Nat):Int)=arF k∧w.length≤3∧s.length≤2∧d1U s
def d1U:List Ox→Prop
 | []=>True
 |f::l=>ArF f∧d1U l
end
theorem i4l(f:Ox):ArF f↔((f.subs.length:Nat):Int)=arF f.kind∧f.words.length≤3∧f.subs.length≤2∧d1U f.subs:=by cases f;rw[ArF];rfl
theorem d8O:∀ {l:List Ox},d1U l→∀x∈l,ArF x
 | [],_,x,h=>by cases h
 |f::l,h,x,hx=>by
  rw[d1U]at h
  rcases List.mem_cons.1 hx with rfl|hx
  ·exact h.1
  ·exact d8O h.2 x hx
theorem i4m{f:Ox}(h:ArF f){k:Nat}(hk:k<f.subs.length):ArF (Am.get f.subs k):=d8O ((i4l f).1 h).2.2.2 _ (get_mem hk)
mutual
theorem ArF.sm:∀(f:Ox),ArF f→SmF f
 | .mk k n w s,h=>by
   rw[ArF]at h
   rw[SmF]
   exact⟨h.2.1,h.2.2.1,d1U.sm s h.2.2.2⟩
theorem d1U.sm:∀(l:List Ox),d1U l→d2a l
 | [],_=>by rw[d2a];trivial
 |f::l,h=>by
  rw[d1U]at h
  rw[d2a]
  exact⟨ArF.sm f h.1,d1U.sm l h.2⟩
end
mutual
theorem WfF.ar:∀(f:Ox),WfF f→ArF f
 | .mk k n w s,h=>by
   rw[ArF]
   exact⟨(Uk ((Uf _).1 h).1).1,d8y h,d7E h,ZB.ar s ((Uf _).1 h).2⟩
theorem ZB.ar:∀(l:List Ox),ZB l→d1U l
 | [],_=>by rw[d1U];trivial
 |f::l,h=>by
  rw[d1U]
  exact⟨WfF.ar f (Qt.1 h f (List.mem_cons_self ..)),ZB.ar l (Qt.2 fun x hx=>Qt.1 h x (List.mem_cons_of_mem _ hx))⟩
end
mutual
theorem ArF.ren(N:Nat→Bs):∀(f:Ox) (env:List (Bs×Bs)) (i:Nat),ArF f→ArF (ren N f env i)
 | .mk k n w s,env,i,h=>by
   rw[ArF]at h
   rw[Go.Proofs.YtfacbpehlibilaaGreatDoor.ren,ArF]
   exact⟨by rw[Vm];exact h.1,by rw[List.length_map];exact h.2.1,by rw[Vm];exact h.2.2.1,d1U.ren N s _ _ h.2.2.2⟩
theorem d1U.ren(N:Nat→Bs):∀(l:List Ox) (env:List (Bs×Bs)) (i:Nat),d1U l→d1U (Sc N l env i)
 | [],env,i,_=>by rw[Sc,d1U];trivial
 |f::l,env,i,h=>by
  rw[d1U]at h
  rw[Sc,d1U]
  exact⟨ArF.ren N f env i h.1,d1U.ren N l env _ h.2⟩
end
section
variable {s:OG}
open Classical in
theorem i8a:∀(m:Nat) (f:Ox),SizeOf.sizeOf f≤m→WfF f→∀(g:Ox),ArF g→∀(bd:List Bs) (env:Env),ZJ env→Has bd env→
 Evt (fun n=>Pn n (Zo s) (Td s f bd) g env) (RM ((pts s f bd g).bind (Vo env))):=by
 intro m
 induction m with
 |zero=>intro f h;cases f;simp only[Ox.mk.sizeOf_spec]at h;omega
 |succ m ih=>
  intro f hf hwf g hwg bd env he hh
  have hnf:=Uk ((Uf f).1 hwf).1
  have hng:=(i4l g).1 hwg
  have hml:(Td s f bd).words.length=f.words.length:=by rw[Wk];exact List.length_map _
  have hmk:(Td s f bd).kind=f.kind:=by rw[Wk];rfl
  have hmn:(Td s f bd).name=mkn s f:=by rw[Wk];rfl
  have hms:(Td s f bd).subs=Tr s f.subs (if QK f.kind then f.name::bd else bd):=by rw[Wk];rfl
  have hk2:f.kind=2→¬QK f.kind:=fun h=>by unfold QK;omega
  have hplain:f.kind=2→¬IsKey f.name:=fun h=>d5q (hnf.2.2.1 (.inl h))
  have hpart:VO (Zo s) (Td s f bd)↔VO s f:=by
   unfold VO
   rw[hmk,hml,hmn]
   constructor
   ·rintro⟨h1,h2⟩
    refine⟨h1,?_⟩
    unfold mkn at h2
    rw[if_neg (hk2 h1.1)]at h2
    split at h2
    ·rename_i h3;exact h3.2
    ·exfalso
     obtain⟨y,_,e⟩:=List.mem_map.1 h2
     split at e
     ·cases (List.cons.inj e).1
     ·exact hplain h1.1 (e▸ ⟨43,y,rfl,by simp⟩)
   ·rintro⟨h1,h2⟩
    refine⟨h1,?_⟩
    unfold mkn
    rw[if_neg (hk2 h1.1),if_pos (show VO s f from⟨h1,h2⟩)]
    exact d0O.2 h2
  refine Evt.succ ?_
  simp only[Pn,i1G,Option.bind_some,WU,TG,hmk,hml,hmn]
  rw[i4i]
  refine Evt.cond (fun e=>?_) (fun e=>?_)
  ·have hp:VO s f:=hpart.1 (of_decide_eq_true e)
   rw[if_pos hp]
   have i9N:mkn s f=43::f.name:=by unfold mkn;rw[if_neg (hk2 hp.1.1),if_pos hp]
   rw[i9N]
   show Evt _ (RM (Vo env [_]))
   rw[d8H]
   unfold d4c
   cases h:assoc (43::f.name) env with
   |none=>
    refine Evt.cond (fun e=>by simp at e) (fun _=>Evt.Tg (Evt.pure ?_))
    exact⟨fun e he=>by cases he;rfl,fun he=>by cases he⟩
   |some b=>
    refine Evt.cond (fun _=>?_) (fun e=>by simp at e)
    obtain⟨h1,h2⟩:=he _ _ h
    have hsm:=h2.1
    have htx:b.text=[]:=by
     rcases h2.2 with⟨z,e1,e2⟩|⟨c',z,e1,hc',e2⟩
     ·exact e2
     ·rw[h1]at e1
      have:=(List.cons.inj e1).1
      rcases hc' with rfl|rfl|rfl<;>cases this
    have hiff:b=⟨43::f.name,[],g⟩↔b.form=g:=by
     constructor
     ·intro e;rw[e]
     ·intro e
      cases b
      simp only at h1 htx e
      rw[h1,htx,e]
    refine Evt.bind (i1M _ b.form (Nat.le_refl _) hsm g) fun v hv=>Evt.pure ?_
    subst hv
    by_cases hb:b.form=g
    ·simp only[if_pos (hiff.2 hb),decide_eq_true hb]
     exact⟨fun e he=>by cases he;rfl,fun he=>by cases he⟩
    ·simp only[if_neg fun e=>hb (hiff.1 e),decide_eq_false hb]
     exact⟨fun e he=>(by cases he),fun _=>rfl⟩
  have hp:¬VO s f:=fun h=>(of_decide_eq_false e) (hpart.2 h)
  rw[if_neg hp]
  refine Evt.cond (fun e=>Evt.pure ?_) (fun e=>?_)
  ·have hc:f.kind≠g.kind∨f.words.length≠g.words.length:=Classical.byContradiction fun h=>by
    obtain⟨h1,h2⟩:=not_or.1 h
    have h1:=Classical.not_not.1 h1
    have h2:=Classical.not_not.1 h2
    simp[h1,h2]at e
   rw[if_pos hc]
   exact⟨fun e he=>(by cases he),fun _=>rfl⟩
  have hk:f.kind=g.kind:=Classical.byContradiction fun h=>by simp[h]at e
  have hl:f.words.length=g.words.length:=Classical.byContradiction fun h=>by
   have:¬((f.words.length:Int)=(g.words.length:Int)):=by omega
   simp[this]at e
  rw[if_neg fun h=>h.elim (fun h=>h hk) (fun h=>h hl),d1v]
  have hsl:f.subs.length=g.subs.length:=by have:=hnf.1;have:=hng.1;rw[hk]at *; omega
  have rest:∀d9E:Env,ZJ d9E→Has bd d9E→Has (if QK f.kind then f.name::bd else bd) d9E→Evt (fun n=>Qk (Pn n) (Td s f bd) (Zo s) g d9E) (RM ((cat (ptw s.words bd f.words g.words) (d1w s f.subs (if QK f.kind then f.name::bd else bd) g.subs)).bind (Vo d9E))):=by
   intro d9E he1 hh1 i9O
   rw[d1v]
   unfold Qk
   refine Evt.Pg (d8I hwf hl bd he1 hh1) (fun t ht=>?_) (fun r hr=>?_)
   ·obtain⟨ht,hte,hth⟩:=ht
    have hmono:Has (if QK f.kind then f.name::bd else bd) t:=by
     cases hw:ptw s.words bd f.words g.words with
     |none=>rw[hw]at ht;cases ht
     |some ps=>rw[hw]at ht;exact i9O.mono (ZF _ _ _ ht).2.1
    rw[ht]
    unfold Sp
    rw[hms,d1u]
    refine Evt.Pg (P:=ExP (fun t'=>(d1w s f.subs (if QK f.kind then f.name::bd else bd) g.subs).bind (Vo t)=some t') (fun r=>(d1w s f.subs (if QK f.kind then f.name::bd else bd) g.subs).bind (Vo t)=none∧r.1=false)) ((Evt.range (fun k t'=>(d1w s f.subs (if QK f.kind then f.name::bd else bd) g.subs).bind (Vo t)=(d1w s (f.subs.drop k) (if QK f.kind then f.name::bd else bd) (g.subs.drop k)).bind (Vo t')∧ZJ t'∧Has (if QK f.kind then f.name::bd else bd) t') (fun _=>False) (fun r=>(d1w s f.subs (if QK f.kind then f.name::bd else bd) g.subs).bind (Vo t)=none∧r.1=false) ⟨rfl,hte,hmono⟩ (fun k t' hk ht'=>?_)).mono fun e h=>?_) (fun t' ht'=>?_) (fun r hr=>?_)
    ·obtain⟨ht',i7S,i7T⟩:=ht'
     have hkg:k<g.subs.length:=by omega
     have hkm:Am.get (Td s f bd).subs k=Td s (Am.get f.subs k) (if QK f.kind then f.name::bd else bd):=by
      rw[hms]
      have:∀(l:List Ox) (bd:List Bs) (k:Nat),k<l.length→Am.get (Tr s l bd) k=Td s (Am.get l k) bd:=by
       intro l
       induction l with
       |nil=>intro bd k h;cases h
       |cons a l ih=>
        intro bd k h
        rw[Tr]
        cases k with
        |zero=>rfl
        |succ k=>exact ih bd k (by simpa using h)
      exact this _ _ _ hk
     have e1:f.subs.drop k=Am.get f.subs k::f.subs.drop (k+1):=by rw[List.drop_eq_getElem_cons hk];simp[Am.get,hk]
     have e2:g.subs.drop k=Am.get g.subs k::g.subs.drop (k+1):=by rw[List.drop_eq_getElem_cons hkg];simp[Am.get,hkg]
     rw[e1,e2,d1w,d1v]at ht'
     unfold Sq
     simp only[hkm]
     have hsz:=Rw hk
     refine Evt.chk (by omega) (Evt.bind (ih _ (by omega) (d4C hwf hk) _ (i4m hwg hkg) _ t' i7S i7T) fun v hv=>?_)
     cases hp:(pts s (Am.get f.subs k) (if QK f.kind then f.name::bd else bd) (Am.get g.subs k)).bind (Vo t')with
     |none=>
      rw[hp]at ht' hv
      have h1:=hv.2 rfl
      exact Evt.cond (fun _=>Evt.pure ⟨ht',rfl⟩) (fun e=>by rw[h1]at e;cases e)
     |some t''=>
      rw[hp]at ht' hv
      have h1:=hv.1 _ rfl
      subst h1
      refine Evt.cond (fun e=>by cases e) (fun _=>Evt.pure ⟨ht',?_,?_⟩)
      ·cases hq:pts s (Am.get f.subs k) (if QK f.kind then f.name::bd else bd) (Am.get g.subs k)with
       |none=>rw[hq]at hp;cases hp
       |some ps=>rw[hq]at hp;exact i1I i7S (i1K s _ _ _ (ArF.sm _ (i4m hwg hkg)) ps hq) hp
      ·cases hq:pts s (Am.get f.subs k) (if QK f.kind then f.name::bd else bd) (Am.get g.subs k)with
       |none=>rw[hq]at hp;cases hp
       |some ps=>rw[hq]at hp;exact i7T.mono (ZF _ _ _ hp).2.1
    ·cases e with
     |ret r=>exact h
     |nxt t'=>
      obtain⟨h1,h2,h3⟩:=h.elim id False.elim
      rw[List.drop_length,d1w]at h1
      exact h1
    ·unfold Sr
     have ht':(d1w s f.subs (if QK f.kind then f.name::bd else bd) g.subs).bind (Vo t)=some t':=ht'
     refine Evt.pure ?_
     show RM ((some t).bind _) _
     rw[Option.bind_some,ht']
     exact⟨fun e he=>by cases he;rfl,fun he=>by cases he⟩
    ·show RM ((some t).bind _) _
     rw[Option.bind_some,hr.1]
     exact⟨fun e he=>(by cases he),fun _=>hr.2⟩
   ·rw[hr.1]
    exact⟨fun e he=>(by cases he),fun _=>hr.2⟩
  have i7U:∀c:UInt8,c=33∨c=63→mkn s f=c::f.name→pth s f g=some [⟨c::f.name,g.name,zf⟩]→(QK f.kind→c=63)→Evt (fun n=>PE (Pn n) (Td s f bd) g env (Zo s) true) (RM (((pth s f g).bind (Vo env)).bind fun s'=>(cat (ptw s.words bd f.words g.words) (d1w s f.subs (if QK f.kind then f.name::bd else bd) g.subs)).bind (Vo s'))):=by
   intro c hc hm hpt hq
   have hc3:c=33∨c=46∨c=63:=hc.elim .inl fun h=>.inr (.inr h)
   unfold PE
   simp only[cond_true,hmn,hm,hpt]
   have e0:(some [(⟨c::f.name,g.name,zf⟩:OB)]).bind (Vo env)=d4c env ⟨c::f.name,g.name,zf⟩:=by
    show Vo env [_]=_
    rw[Vo]
    cases d4c env ⟨c::f.name,g.name,zf⟩<;>rfl
   rw[e0]
   refine Evt.bind (d3y he hc3 f.name g.name) fun v hv=>?_
   cases hp:d4c env ⟨c::f.name,g.name,zf⟩with
   |none=>
    rw[hp]at hv
    have h1:=hv.2 rfl
    exact Evt.cond (fun _=>Evt.pure ⟨fun e he=>(by cases he),fun _=>rfl⟩) (fun e=>by rw[h1]at e;cases e)
   |some t=>
    rw[hp]at hv
    have h1:=hv.1 _ rfl
    subst h1
    refine Evt.cond (fun e=>by cases e) (fun _=>?_)
    have hm1:=hh.mono (YJ hp).2.1
    refine rest t (d7I he (d7J hc3) hp) hm1 ?_
    by_cases hqk:QK f.kind
    ·rw[if_pos hqk]
     intro x hx
     rcases List.mem_cons.1 hx with rfl|hx
     ·have:=(YJ hp).1
      obtain rfl:=hq hqk
      show(assoc (63::f.name) t).isSome=true
      rw[show assoc (63::f.name) t=some _ from this];rfl
     ·exact hm1 x hx
    ·rw[if_neg hqk];exact hm1
  refine Evt.cond (fun e=>?_) (fun e=>?_)
  ·have hq:QK f.kind:=of_decide_eq_true e
   rw[e]
   exact i7U 63 (.inr rfl) (by unfold mkn;rw[if_pos hq]) (by unfold pth;rw[if_pos hq]) (fun _=>rfl)
  ·have hq:¬QK f.kind:=of_decide_eq_false e
   have d9F:mkn s f=if f.kind=2∧f.name∈s.PA then 33::f.name else f.name:=by unfold mkn;rw[if_neg hq,if_neg hp]
   refine Evt.bind (P:=fun v=>f.kind=2→v=decide (mkn s f∈(Zo s).PA)) (Evt.gd (fun _=>Evt.pure fun _=>rfl) (fun g h=>by simp[h]at g)) fun v hv=>?_
   by_cases hpr:f.kind=2∧f.name∈s.PA
   ·rw[if_pos hpr]at d9F
    have h1:=hv hpr.1
    rw[d9F,decide_eq_true (show(33::f.name:Bs)∈(Zo s).PA from d0O.2 hpr.2)]at h1
    have e2:(bif decide (f.kind=2)then v else false)=true:=by simp[hpr.1,h1]
    rw[e2]
    exact i7U 33 (.inl rfl) d9F (by unfold pth;rw[if_neg hq,if_pos hpr]) (fun h=>absurd h hq)
   ·rw[if_neg hpr]at d9F
    have e2:(bif decide (f.kind=2)then v else false)=false:=by
     by_cases h2:f.kind=2
     ·have h1:=hv h2
      rw[d9F,decide_eq_false (show ¬f.name∈(Zo s).PA from fun h=>hplain h2 (d7K (.inl rfl) h))]at h1
      simp[h1]
     ·simp[h2]
    rw[e2]
    have hpt:pth s f g=if f.name=g.name then some []else none:=by unfold pth;rw[if_neg hq,if_neg hpr]
    unfold PE
    simp only[cond_false,hmn,d9F,hpt]
    refine Evt.cond (fun e=>Evt.pure ?_) (fun e=>?_)
    ·replace e:=bx e
     rw[if_neg e]
     exact⟨fun e he=>(by cases he),fun _=>rfl⟩
    ·replace e:=bx e
     rw[if_pos e]
     exact rest env he hh (by rw[if_neg hq];exact hh)
end
mutual
def d0U(fr to:Bs)(a:Nat):Ox→Ox
 | .mk k n w s=>.mk k (if k=2∧n=fr∧w.length=a then to else n) w (SM fr to a s)
def SM(fr to:Bs)(a:Nat):List Ox→List Ox
 | []=>[]
 |f::l=>d0U fr to a f::SM fr to a l
end
mutual
def tlF(nm:Bs)(a:Nat):Ox→Prop
 | .mk k n w s=>(k=2∧n=nm∧w.length=a)∨d5E nm a s
def d5E(nm:Bs)(a:Nat):List Ox→Prop
 | []=>False
 |f::l=>tlF nm a f∨d5E nm a l
end
section
variable (fr to:Bs) (a:Nat)
theorem d6z:∀l:List Ox,SM fr to a l=l.map (d0U fr to a)
 | []=>by rw[SM];rfl
 |f::l=>by rw[SM,d6z l];rfl
theorem d6A(l:List Ox):(SM fr to a l).length=l.length:=by rw[d6z,List.length_map]
mutual
theorem i5t:∀f:Ox,ndF (d0U fr to a f)=ndF f
 | .mk k n w s=>by rw[d0U,ndF,ndF,d8P s]
theorem d8P:∀l:List Ox,Tx (SM fr to a l)=Tx l
 | []=>by rw[SM]
 |f::l=>by rw[SM,Tx,Tx,i5t f,d8P l]
end
mutual
theorem i5u:∀f:Ox,dpF (d0U fr to a f)=dpF f
 | .mk k n w s=>by rw[d0U,dpF,dpF,d8Q s]
theorem d8Q:∀l:List Ox,YT (SM fr to a l)=YT l
 | []=>by rw[SM]
 |f::l=>by rw[SM,YT,YT,i5u f,d8Q l]
end
mutual
theorem i1U:∀f:Ox,nq (d0U fr to a f)=nq f
 | .mk k n w s=>by rw[d0U,nq,nq,d8R s]
theorem d8R:∀l:List Ox,nqL (SM fr to a l)=nqL l
 | []=>by rw[SM]
 |f::l=>by rw[SM,nqL,nqL,i1U f,d8R l]
end
theorem q2{k:Int}(h:k=2):¬QK k:=by subst h;unfold QK;omega
theorem i5v{k:Int}{n:Bs}{w:List Bs}(h:QK k):(if k=2∧n=fr∧w.length=a then to else n)=n:=if_neg fun e=>q2 e.1 h
mutual
theorem i3w(N:Nat→Bs):∀(f:Ox) (env:List (Bs×Bs)) (i:Nat),d0U fr to a (ren N f env i)=ren N (d0U fr to a f) env i
 | .mk k n w s,env,i=>by
   rw[ren,d0U,d0U,ren]
   by_cases hq:QK k
   ·rw[i5v fr to a hq,i5v fr to a hq]
    simp only[if_pos hq]
    rw[d3B N s]
   ·simp only[if_neg hq,List.length_map]
    rw[d3B N s]
theorem d3B(N:Nat→Bs):∀(l:List Ox) (env:List (Bs×Bs)) (i:Nat),SM fr to a (Sc N l env i)=Sc N (SM fr to a l) env i
 | [],env,i=>by rw[Sc,SM,Sc]
 |f::l,env,i=>by rw[Sc,SM,SM,Sc,i3w N f,d3B N l,i1U]
end
mutual
theorem i3x:∀(f:Ox) (bd:List Bs) (x:Bs),fre (d0U fr to a f) bd x↔fre f bd x
 | .mk k n w s,bd,x=>by
   rw[d0U,fre,fre]
   by_cases hq:QK k
   ·rw[i5v fr to a hq,d3C s]
   ·simp only[if_neg hq]
    rw[d3C s]
theorem d3C:∀(l:List Ox) (bd:List Bs) (x:Bs),XZ (SM fr to a l) bd x↔XZ l bd x
 | [],bd,x=>by rw[SM]
 |f::l,bd,x=>by rw[SM,XZ,XZ,i3x f,d3C l]
end
mutual
theorem i5w:∀f:Ox,ArF f→ArF (d0U fr to a f)
 | .mk k n w s,h=>by
   rw[ArF]at h
   rw[d0U,ArF,d6A]
   exact⟨h.1,h.2.1,h.2.2.1,d8S s h.2.2.2⟩
theorem d8S:∀l:List Ox,d1U l→d1U (SM fr to a l)
 | [],_=>by rw[SM,d1U];trivial
 |f::l,h=>by
  rw[d1U]at h
  rw[SM,d1U]
  exact⟨i5w f h.1,d8S l h.2⟩
end
theorem i3y{f:Ox}(h1:(f.subs.length:Int)=arF f.kind)(h2:Zk f.kind f.words.length)(h3:f.kind=2∨QK f.kind→PK f.name)(h4:¬(f.kind=2∨QK f.kind)→f.name=[])(h5:∀w∈f.words,PK w):UY f=0:=by
 unfold UY
 rw[if_neg (by omega),if_neg (fun e=>e.elim (fun e=>e h1) fun e=>e h2),if_neg (fun e=>e.2 (h3 e.1)),if_neg (fun e=>e.2 (h4 e.1)),if_neg (fun⟨w,h6,h7⟩=>h7 (h5 w h6))]
variable {to}
mutual
theorem i5x(ht:PK to):∀f:Ox,WfF f→WfF (d0U fr to a f)
 | .mk k n w s,h=>by
   obtain⟨h1,h2⟩:=(Uf _).1 h
   obtain⟨n1,n2,n3,n4,n5⟩:=Uk h1
   rw[Uf]
   refine⟨i3y ?_ ?_ ?_ ?_ ?_,?_⟩
   ·rw[d0U];show((SM fr to a s).length:Int)=_;rw[d6A];exact n1
   ·rw[d0U];exact n2
   ·rw[d0U]
    intro e
    show PK (if _ then to else n)
    split
    ·exact ht
    ·exact n3 e
   ·rw[d0U]
    intro e
    show(if _ then to else n)=[]
    rw[if_neg fun e2=>e (.inl e2.1)]
    exact n4 e
   ·rw[d0U];exact n5
   ·rw[d0U];exact d8T ht s h2
theorem d8T(ht:PK to):∀l:List Ox,ZB l→ZB (SM fr to a l)
 | [],_=>by rw[SM,ZB];trivial
 |f::l,h=>by
  rw[ZB]at h
  rw[SM,ZB]
  exact⟨i5x ht f h.1,d8T ht l h.2⟩
end
variable (to)
mutual
theorem i1V:∀f:Ox,¬tlF to a f→d0U to fr a (d0U fr to a f)=f
 | .mk k n w s,h=>by
   rw[tlF,not_or]at h
   rw[d0U,d0U,d4G s h.2]
   congr 1
   by_cases e:k=2∧n=fr∧w.length=a
   ·rw[if_pos e,if_pos ⟨e.1,rfl,e.2.2⟩];exact e.2.1.symm
   ·rw[if_neg e,if_neg h.1]
theorem d4G:∀l:List Ox,¬d5E to a l→SM to fr a (SM fr to a l)=l
 | [],_=>by rw[SM,SM]
 |f::l,h=>by
  rw[d5E,not_or]at h
  rw[SM,SM,i1V f h.1,d4G l h.2]
end
mutual
theorem i1W(hne:fr≠to):∀f:Ox,¬tlF fr a (d0U fr to a f)
 | .mk k n w s=>by
   rw[d0U,tlF,not_or]
   refine⟨fun⟨h1,h2,h3⟩=>?_,d4H hne s⟩
   by_cases e:k=2∧n=fr∧w.length=a
   ·rw[if_pos e]at h2;exact hne h2.symm
   ·rw[if_neg e]at h2;exact e ⟨h1,h2,h3⟩
theorem d4H(hne:fr≠to):∀l:List Ox,¬d5E fr a (SM fr to a l)
 | []=>by rw[SM,d5E];exact id
 |f::l=>by rw[SM,d5E,not_or];exact⟨i1W hne f,d4H hne l⟩
end
mutual
theorem i5y(N:Nat→Bs):∀(f:Ox) (env:List (Bs×Bs)) (i:Nat),tlF to a (ren N f env i)↔tlF to a f
 | .mk k n w s,env,i=>by
   rw[ren,tlF,tlF,d8U N s,List.length_map]
   by_cases hk:k=2
   ·simp only[if_neg (q2 hk)]
   ·simp only[hk,false_and]
theorem d8U(N:Nat→Bs):∀(l:List Ox) (env:List (Bs×Bs)) (i:Nat),d5E to a (Sc N l env i)↔d5E to a l
 | [],env,i=>by rw[Sc]
 |f::l,env,i=>by rw[Sc,d5E,d5E,i5y N f,d8U N l]
end
end
def xw(i:Nat):Bs:=120::Lib.decDigits i
def xs(a:Nat):List Bs:=(List.range a).map xw
mutual
def hits(fr:Bs)(a:Nat):Ox→Bs→List Bs
 | .mk k n w s,p=>if k=2∧n=fr∧w.length=a then [p]else i1X fr a s p 0
def i1X(fr:Bs)(a:Nat):List Ox→Bs→Nat→List Bs
 | [],_,_=>[]
 |f::l,p,i=>hits fr a f (p++Lib.decDigits i)++i1X fr a l p (i+1)
end
section
variable (fr:Bs) (a:Nat)
mutual
theorem i3z:∀(f:Ox) (p:Bs),(hits fr a f p).Sublist (i3u f p)
 | .mk k n w s,p=>by
   rw[hits,i3u]
   split
   ·exact(List.nil_sublist _).cons_cons p
   ·exact(d6B s p 0).cons p
theorem d6B:∀(l:List Ox) (p:Bs) (i:Nat),(i1X fr a l p i).Sublist (d0S l p i)
 | [],p,i=>by rw[i1X,d0S];exact List.nil_sublist _
 |f::l,p,i=>by rw[i1X,d0S];exact(i3z f _).append (d6B l p (i+1))
end
end
section
variable {fr to:Bs} {a:Nat}
end
open Classical in
theorem i8J(nm:Bs)(a:Nat):∀(m:Nat) (f:Ox),SizeOf.sizeOf f≤m→SmF f→Evt (fun n=>PG n f nm (a:Int)) (fun r=>r=decide (tlF nm a f)):=by
 intro m
 induction m with
 |zero=>intro f h;cases f;simp only[Ox.mk.sizeOf_spec]at h;omega
 |succ m ih=>
  intro f hf hsm
  have hsl:=d1x hsm
  have hte:tlF nm a f↔(f.kind=2∧f.name=nm∧f.words.length=a)∨d5E nm a f.subs:=by cases f;rw[tlF];exact Iff.rfl
  have hL:∀l:List Ox,d5E nm a l↔ ∃x∈l,tlF nm a x:=fun l=>by
   induction l with
   |nil=>rw[d5E];simp
   |cons x l ihl=>rw[d5E,ihl];simp
  refine Evt.succ ?_
  simp only[PG]
  refine Evt.cond (fun e=>Evt.pure ?_) (fun e=>?_)
  ·replace e:=bx e
   have e:f.kind=2∧f.name=nm∧f.words.length=a:=⟨e.1.1,e.1.2,by have:=e.2;omega⟩
   exact(decide_eq_true (hte.2 (.inl e))).symm
  ·have e':¬(f.kind=2∧f.name=nm∧f.words.length=a):=fun⟨h1,h2,h3⟩=>by
    have h4:((f.words.length:Nat):Int)=(a:Int):=by omega
    simp[h1,h2,h4]at e
   refine Evt.Pg (Evt.i1m f.subs.length (fun k s=>s=(k:Int)∧∀i,i<k→¬tlF nm a (Am.get f.subs i)) (fun _=>¬d5E nm a f.subs) (fun r=>r=true∧d5E nm a f.subs) ⟨rfl,fun i hi=>absurd hi (Nat.not_lt_zero _)⟩ (fun k s hk hs=>?_) (fun s hs=>?_)) (fun t ht=>?_) (fun r hr=>?_)
   ·obtain⟨rfl,hs⟩:=hs
    have hsz:=Rw hk
    unfold Qv
    refine Evt.cond (fun _=>Evt.chk (by omega) (Evt.bind (ih _ (by show SizeOf.sizeOf (Am.get f.subs ((k:Int)).toNat)≤m;rw[Int.toNat_natCast];omega) (by rw[Int.toNat_natCast];exact d0Q hsm hk)) fun v hv=>?_)) (fun e=>by replace e:=bx e;omega)
    rw[Int.toNat_natCast]at hv
    subst hv
    refine Evt.cond (fun e=>Evt.pure ⟨rfl,(hL _).2 ⟨_,get_mem hk,of_decide_eq_true e⟩⟩) (fun e=>Evt.pure ?_)
    rw[d0H (by omega) (by omega)]
    refine⟨rfl,fun i hi=>?_⟩
    by_cases ei:i=k
    ·subst ei;exact of_decide_eq_false e
    ·exact hs i (by omega)
   ·obtain⟨rfl,hs⟩:=hs
    unfold Qv
    refine Evt.cond (fun e=>by replace e:=bx e;omega) (fun _=>Evt.pure fun h=>?_)
    obtain⟨x,hx,ht⟩:=(hL _).1 h
    obtain⟨j,hj,rfl⟩:=Zj.1 hx
    exact hs j hj ht
   ·have ht:¬d5E nm a f.subs:=ht
    unfold Rl
    exact Evt.pure (decide_eq_false fun h=>(hte.1 h).elim e' ht).symm
   ·rw[hr.1]
    exact(decide_eq_true (hte.2 (.inr hr.2))).symm
end Go.Proofs.YtfacbpehlibilaaGreatDoor
