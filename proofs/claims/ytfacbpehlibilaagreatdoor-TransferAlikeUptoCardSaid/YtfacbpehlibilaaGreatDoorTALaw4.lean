import Derived.Test.YtfacbpehlibilaaGreatDoorTALaw3
set_option linter.unusedVariables false
set_option linter.unusedSimpArgs false
namespace Go.Proofs.YtfacbpehlibilaaGreatDoor
open Go Go.Am
def Er(m E:List (Bs×Bs)):Prop:=∀w,(assoc w m).getD w=sub E w
theorem Er.nil:Er [] []:=fun w=>rfl
theorem Er.put{m E:List (Bs×Bs)}(h:Er m E)(a v:Bs):Er (Wz a v m) ((a,v)::E):=fun w=>by
 rw[Ye]
 by_cases e:a=w
 ·subst e
  rw[d2y,if_pos rfl];rfl
 ·rw[d4t (fun x=>e x.symm),if_neg e];exact h w
theorem i5R{c:Nat}(hc:c≤1000000)(rs:List Wq)(m:List (Bs×Int))(u:List Wp):Zv rs (c:Int) m u=some (qn c,((c+1:Nat):Int)):=by
 unfold Zv
 have hw:wr .i64 ((c:Int)+1)=((c+1:Nat):Int):=by rw[d6p (by omega) (by omega)];rfl
 have hl:=i5H (m:=c+1) (by omega)
 rw[hw,i0y (by omega),Option.bind_some,i0e (show Yk _ _ by unfold Yk;simp;omega)]
 rfl
theorem p0O:∀(m:Nat) (f:Lr),SizeOf.sizeOf f≤m→SmF f→∀(rs:List Wq) (c:Nat) (mp:List (Bs×Int)) (u:List Wp) (env E:List (Bs×Bs)),Er env E→c+nq f≤1000000→
 Evt (fun n=>XB n f rs (c:Int) mp u env) (fun r=>r=(ren qn f E c,((c+nq f:Nat):Int))):=by
 intro m
 induction m with
 |zero=>intro f h;cases f;simp only[Lr.mk.sizeOf_spec]at h;omega
 |succ m ih=>
  intro f hf hsm rs c mp u env E hE hc
  have hws:=i4t hsm
  have hsl:=d8o hsm
  have hnq:=p2K f
  refine Evt.succ ?_
  simp only[XB]
  refine Evt.WL (P:=ExP (fun t=>t=f.words.map (sub E)) (fun _=>False)) ((Evt.range (fun k s=>s=(f.words.take k).map (sub E)) (fun _=>False) (fun _=>False) (by simp) (fun k s hk hs=>?_)).mono fun e he=>?_) (fun t ht=>?_) (fun _ h=>h.elim)
  ·have hw:=hE (Am.get f.words k)
   have hsn:(f.words.take (k+1)).map (sub E)=s++[sub E (Am.get f.words k)]:=by rw[Xq hk,List.map_append,hs];rfl
   have hsl:s.length≤3:=by rw[hs,List.length_map,List.length_take];omega
   unfold ZM
   cases ha:assoc (Am.get f.words k) env with
   |none=>
    rw[ha]at hw
    refine Evt.cond (fun e=>by cases e) (fun _=>Evt.Zo (Evt.chk ?_ (Evt.pure ?_)))
    ·rw[Yl];simp only[List.length_append,List.length_cons,List.length_nil];omega
    ·show s++[_]=_
     rw[hsn, ←hw];rfl
   |some v=>
    rw[ha]at hw
    refine Evt.cond (fun _=>Evt.Zo (Evt.chk ?_ (Evt.pure ?_))) (fun e=>by cases e)
    ·rw[Yl];simp only[List.length_append,List.length_cons,List.length_nil];omega
    ·show s++[_]=_
     rw[hsn, ←hw];rfl
  ·cases e with
   |ret r=>exact he
   |nxt t=>
    have:=he.elim id False.elim
    rw[List.take_length]at this
    exact this
  ·have ht:t=f.words.map (sub E):=ht
   subst ht
   unfold ZN
   simp only[d1i,Option.bind_some]
   refine Evt.cond (fun e=>?_) (fun e=>?_)
   ·replace e:=bx e
    rw[if_pos e]at hnq
    simp only[i5R (c:=c) (by omega),Option.bind_some]
    refine Evt.Zo ?_
    have hE':=hE.put f.name (qn c)
    refine Evt.WL (P:=ExP (fun t=>t=(((c+1+nqL f.subs:Nat):Int),Yu qn f.subs ((f.name,qn c)::E) (c+1))) (fun _=>False)) ((Evt.range (fun k s=>s=(((c+1+nqL (f.subs.take k):Nat):Int),Yu qn (f.subs.take k) ((f.name,qn c)::E) (c+1))) (fun _=>False) (fun _=>False) (by simp[nqL,Yu]) (fun k s hk hs=>?_)).mono fun e he=>?_) (fun t ht=>?_) (fun _ h=>h.elim)
    ·subst hs
     have hsz:=XE hk
     have hqk:=d6k hk
     unfold ZO
     refine Evt.bind (ih _ (by omega) (d7D hsm hk) rs (c+1+nqL (f.subs.take k)) mp u _ _ hE' (by omega)) fun v hv=>Evt.Zo (Evt.chk ?_ (Evt.pure ?_))
     ·rw[Yl];simp only[List.length_append,d2J,List.length_take,List.length_cons,List.length_nil];omega
     ·subst hv
      show(_,_)=(_,_)
      rw[Xq hk,d3X,d4s,Nat.add_assoc (c+1)]
    ·cases e with
     |ret r=>exact he
     |nxt t=>
      have:=he.elim id False.elim
      rw[List.take_length]at this
      exact this
    ·have ht:t=_:=ht
     subst ht
     unfold ZP
     refine Evt.pure ?_
     rw[i1J]
     simp only[if_pos e]
     rw[show c+nq f=c+1+nqL f.subs by omega]
   ·replace e:=bx e
    rw[if_neg e]at hnq
    refine Evt.WL (P:=ExP (fun t=>t=(((c+nqL f.subs:Nat):Int),Yu qn f.subs E c)) (fun _=>False)) ((Evt.range (fun k s=>s=(((c+nqL (f.subs.take k):Nat):Int),Yu qn (f.subs.take k) E c)) (fun _=>False) (fun _=>False) (by simp[nqL,Yu]) (fun k s hk hs=>?_)).mono fun e he=>?_) (fun t ht=>?_) (fun _ h=>h.elim)
    ·subst hs
     have hsz:=XE hk
     have hqk:=d6k hk
     unfold ZQ
     refine Evt.bind (ih _ (by omega) (d7D hsm hk) rs (c+nqL (f.subs.take k)) mp u _ _ hE (by omega)) fun v hv=>Evt.Zo (Evt.chk ?_ (Evt.pure ?_))
     ·rw[Yl];simp only[List.length_append,d2J,List.length_take,List.length_cons,List.length_nil];omega
     ·subst hv
      show(_,_)=(_,_)
      rw[Xq hk,d3X,d4s,Nat.add_assoc c]
    ·cases e with
     |ret r=>exact he
     |nxt t=>
      have:=he.elim id False.elim
      rw[List.take_length]at this
      exact this
    ·have ht:t=_:=ht
     subst ht
     unfold ZR
     refine Evt.pure ?_
     rw[i1J]
     simp only[if_neg e,Nat.add_zero]
     rw[show c+nq f=c+nqL f.subs by omega]
theorem i0C(l:List Bs):l.map (sub [])=l:=(List.map_congr_left fun x _=>d8i x).trans (List.map_id' l)
theorem i2Q:∀(m:Nat) (f:Lr),SizeOf.sizeOf f≤m→SmF f→∀(rs:List Wq) (c:Nat) (mp:List (Bs×Int)) (u:List Wp),c+nq f≤1000000→
 Evt (fun n=>Ys n f rs (c:Int) mp u) (fun r=>r=(ren qn f [] c,((c+nq f:Nat):Int))):=by
 intro m
 induction m with
 |zero=>intro f h;cases f;simp only[Lr.mk.sizeOf_spec]at h;omega
 |succ m ih=>
  intro f hf hsm rs c mp u hc
  have hws:=i4t hsm
  have hsl:=d8o hsm
  have hnq:=p2K f
  refine Evt.succ ?_
  simp only[Ys]
  refine Evt.WL (P:=ExP (fun t=>t=f.words) (fun _=>False)) ((Evt.range (fun k s=>s=f.words.take k) (fun _=>False) (fun _=>False) (by simp) (fun k s hk hs=>?_)).mono fun e he=>?_) (fun t ht=>?_) (fun _ h=>h.elim)
  ·subst hs
   unfold d0D
   refine Evt.cond (fun e=>by cases e) (fun _=>Evt.Zo (Evt.chk ?_ (Evt.pure ?_)))
   ·rw[Yl];simp only[List.length_append,List.length_take,List.length_cons,List.length_nil];omega
   ·show _++[_]=_
    rw[Xq hk]
  ·cases e with
   |ret r=>exact he
   |nxt t=>
    have:=he.elim id False.elim
    rw[List.take_length]at this
    exact this
  ·have ht:t=f.words:=ht
   subst ht
   unfold d0E
   simp only[d1i,Option.bind_some]
   refine Evt.cond (fun e=>?_) (fun e=>?_)
   ·replace e:=bx e
    rw[if_pos e]at hnq
    simp only[i5R (c:=c) (by omega),Option.bind_some]
    refine Evt.Zo ?_
    have hE':=Er.nil.put f.name (qn c)
    refine Evt.WL (P:=ExP (fun t=>t=(((c+1+nqL f.subs:Nat):Int),Yu qn f.subs [(f.name,qn c)] (c+1))) (fun _=>False)) ((Evt.range (fun k s=>s=(((c+1+nqL (f.subs.take k):Nat):Int),Yu qn (f.subs.take k) [(f.name,qn c)] (c+1))) (fun _=>False) (fun _=>False) (by simp[nqL,Yu]) (fun k s hk hs=>?_)).mono fun e he=>?_) (fun t ht=>?_) (fun _ h=>h.elim)
    ·subst hs
     have hqk:=d6k hk
     unfold d0F
     refine Evt.bind (p0O _ _ (Nat.le_refl _) (d7D hsm hk) rs (c+1+nqL (f.subs.take k)) mp u _ _ hE' (by omega)) fun v hv=>Evt.Zo (Evt.chk ?_ (Evt.pure ?_))
     ·rw[Yl];simp only[List.length_append,d2J,List.length_take,List.length_cons,List.length_nil];omega
     ·subst hv
      show(_,_)=(_,_)
      rw[Xq hk,d3X,d4s,Nat.add_assoc (c+1)]
    ·cases e with
     |ret r=>exact he
     |nxt t=>
      have:=he.elim id False.elim
      rw[List.take_length]at this
      exact this
    ·have ht:t=_:=ht
     subst ht
     unfold d0G
     refine Evt.pure ?_
     rw[i1J,i0C]
     simp only[if_pos e]
     rw[show c+nq f=c+1+nqL f.subs by omega]
   ·replace e:=bx e
    rw[if_neg e]at hnq
    refine Evt.WL (P:=ExP (fun t=>t=(((c+nqL f.subs:Nat):Int),Yu qn f.subs [] c)) (fun _=>False)) ((Evt.range (fun k s=>s=(((c+nqL (f.subs.take k):Nat):Int),Yu qn (f.subs.take k) [] c)) (fun _=>False) (fun _=>False) (by simp[nqL,Yu]) (fun k s hk hs=>?_)).mono fun e he=>?_) (fun t ht=>?_) (fun _ h=>h.elim)
    ·subst hs
     have hsz:=XE hk
     have hqk:=d6k hk
     unfold d0H
     refine Evt.bind (ih _ (by omega) (d7D hsm hk) rs (c+nqL (f.subs.take k)) mp u (by omega)) fun v hv=>Evt.Zo (Evt.chk ?_ (Evt.pure ?_))
     ·rw[Yl];simp only[List.length_append,d2J,List.length_take,List.length_cons,List.length_nil];omega
     ·subst hv
      show(_,_)=(_,_)
      rw[Xq hk,d3X,d4s,Nat.add_assoc c]
    ·cases e with
     |ret r=>exact he
     |nxt t=>
      have:=he.elim id False.elim
      rw[List.take_length]at this
      exact this
    ·have ht:t=_:=ht
     subst ht
     unfold d0I
     refine Evt.pure ?_
     rw[i1J,i0C]
     simp only[if_neg e,Nat.add_zero]
     rw[show c+nq f=c+nqL f.subs by omega]
theorem d3Y{k:Nat}(hk:k<10):(Lib.decDigits k).length=1:=by rw[Lib.decDigits,dif_pos hk];rfl
theorem i2R:∀(l:List Lr) (x:Lr),d3U (l++[x])=max (d3U l) (dpF x)
 | [],x=>by simp[d3U]
 |a::l,x=>by
  rw[List.cons_append,d3U,d3U,i2R l x]
  omega
def szF(f:Lr):Wr:=⟨f,((ndF f:Nat):Int),((dpF f:Nat):Int)⟩
theorem p0P{l:List Lr}(hn:Zr l≤100000)(hd:d3U l≤100000):Evt (fun _=>d2z (l.map szF)) (fun r=>r=(((1+Zr l:Nat):Int),((d3U l+1:Nat):Int),decide (1+Zr l≤200∧d3U l<40))):=by
 unfold d2z
 rw[List.length_map]
 refine Evt.WL (P:=ExP (fun t=>t=(((1+Zr l:Nat):Int),((d3U l:Nat):Int))) (fun _=>False)) ((Evt.range (fun k t=>t=(((1+Zr (l.take k):Nat):Int),((d3U (l.take k):Nat):Int))) (fun _=>False) (fun _=>False) (by simp[Zr,d3U]) (fun k t hk ht=>?_)).mono fun e he=>?_) (fun t ht=>?_) (fun _ h=>h.elim)
 ·subst ht
  have htk:=d0g hk
  unfold d2O
  rw[get_map szF hk]
  refine Evt.pure ?_
  show(_,_)=(_,_)
  rw[Xq hk,d4W,i2R]
  simp only[szF]
  rw[d6p (by omega) (by omega)]
  refine Prod.ext ?_ ?_
  ·show((1+Zr (l.take k):Nat):Int)+((ndF (Am.get l k):Nat):Int)=((1+(Zr (l.take k)+ndF (Am.get l k)):Nat):Int);omega
  ·show max ((d3U (l.take k):Nat):Int) ((dpF (Am.get l k):Nat):Int)=((max (d3U (l.take k)) (dpF (Am.get l k)):Nat):Int);omega
 ·cases e with
  |ret r=>exact he
  |nxt t=>
   have:=he.elim id False.elim
   rw[List.take_length]at this
   exact this
 ·have ht:t=_:=ht
  subst ht
  unfold d2P
  refine Evt.pure ?_
  show(_,_,_)=(_,_,_)
  rw[d6p (by omega) (by omega)]
  refine Prod.ext rfl (Prod.ext ?_ ?_)
  ·show((d3U l:Nat):Int)+1=((d3U l+1:Nat):Int);omega
  ·show(bif decide (((1+Zr l:Nat):Int)≤200)then decide (((d3U l:Nat):Int)<40)else false)=decide _
   by_cases h:1+Zr l≤200
   ·rw[decide_eq_true (show((1+Zr l:Nat):Int)≤200 by omega),cond_true]
    exact decide_eq_decide.2 (by omega)
   ·rw[decide_eq_false (show ¬((1+Zr l:Nat):Int)≤200 by omega),cond_false]
    exact(decide_eq_false (by omega)).symm
theorem i2S(f:Lr):Evt (fun n=>d0Y n f) (fun r=>(¬OkF f→r=(zf,d6I f))∧(OkF f→r=(cf f,⟨0,0⟩))):=by
 unfold d0Y
 refine Evt.bind (d1j f) fun v hv=>?_
 subst hv
 refine Evt.cond (fun e=>Evt.pure ⟨fun _=>rfl,fun h=>?_⟩) (fun e=>?_)
 ·rw[i0s h]at e;simp at e
 have hok:OkF f:=(d3W f).1 (by simpa using e)
 refine Evt.bind (p2Q hok) fun c hc=>Evt.pure ⟨fun h=>absurd hok h,fun _=>?_⟩
 rw[hc]
theorem smz:SmF zf:=by
 show SmF (Lr.mk 0 [] [] [])
 rw[SmF]
 exact⟨Nat.zero_le _,Nat.zero_le _,by rw[d8l];trivial⟩
theorem p0Q{f:Lr}(h:¬OkF f):(d6I f).code≠0:=fun e=>h ((d3W f).1 e)
mutual
def ArF:Lr→Prop
 | .mk k _ w s=>((s.length:Nat):Int)=arF k∧w.length≤3∧s.length≤2∧d3Z s
def d3Z:List Lr→Prop
 | []=>True
 |f::l=>ArF f∧d3Z l
end
theorem d4Y(f:Lr):ArF f↔((f.subs.length:Nat):Int)=arF f.kind∧f.words.length≤3∧f.subs.length≤2∧d3Z f.subs:=by cases f;rw[ArF];rfl
theorem i2T:∀ {l:List Lr},d3Z l→∀x∈l,ArF x
 | [],_,x,h=>by cases h
 |f::l,h,x,hx=>by
  rw[d3Z]at h
  rcases List.mem_cons.1 hx with rfl|hx
  ·exact h.1
  ·exact i2T h.2 x hx
theorem i4u{f:Lr}(h:ArF f){k:Nat}(hk:k<f.subs.length):ArF (Am.get f.subs k):=i2T ((d4Y f).1 h).2.2.2 _ (get_mem hk)
mutual
theorem ArF.sm:∀(f:Lr),ArF f→SmF f
 | .mk k n w s,h=>by
   rw[ArF]at h
   rw[SmF]
   exact⟨h.2.1,h.2.2.1,d3Z.sm s h.2.2.2⟩
theorem d3Z.sm:∀(l:List Lr),d3Z l→d8l l
 | [],_=>by rw[d8l];trivial
 |f::l,h=>by
  rw[d3Z]at h
  rw[d8l]
  exact⟨ArF.sm f h.1,d3Z.sm l h.2⟩
end
mutual
theorem WfF.ar:∀(f:Lr),WfF f→ArF f
 | .mk k n w s,h=>by
   rw[ArF]
   exact⟨(d1D ((d1P _).1 h).1).1,i4f h,i2I h,d6i.ar s ((d1P _).1 h).2⟩
theorem d6i.ar:∀(l:List Lr),d6i l→d3Z l
 | [],_=>by rw[d3Z];trivial
 |f::l,h=>by
  rw[d3Z]
  exact⟨WfF.ar f (Ym.1 h f (List.mem_cons_self ..)),d6i.ar l (Ym.2 fun x hx=>Ym.1 h x (List.mem_cons_of_mem _ hx))⟩
end
mutual
theorem ArF.ren(N:Nat→Bs):∀(f:Lr) (env:List (Bs×Bs)) (i:Nat),ArF f→ArF (ren N f env i)
 | .mk k n w s,env,i,h=>by
   rw[ArF]at h
   rw[Go.Proofs.YtfacbpehlibilaaGreatDoor.ren,ArF]
   exact⟨by rw[d2J];exact h.1,by rw[List.length_map];exact h.2.1,by rw[d2J];exact h.2.2.1,d3Z.ren N s _ _ h.2.2.2⟩
theorem d3Z.ren(N:Nat→Bs):∀(l:List Lr) (env:List (Bs×Bs)) (i:Nat),d3Z l→d3Z (Yu N l env i)
 | [],env,i,_=>by rw[Yu,d3Z];trivial
 |f::l,env,i,h=>by
  rw[d3Z]at h
  rw[Yu,d3Z]
  exact⟨ArF.ren N f env i h.1,d3Z.ren N l env _ h.2⟩
end
section
variable {s:Wu}
open Classical in
theorem p0R:∀(m:Nat) (f:Lr),SizeOf.sizeOf f≤m→WfF f→∀(g:Lr),ArF g→∀(bd:List Bs) (env:Env),d5p env→Has bd env→
 Evt (fun n=>Xa n (d3u s) (ZX s f bd) g env) (RM ((pts s f bd g).bind (d1x env))):=by
 intro m
 induction m with
 |zero=>intro f h;cases f;simp only[Lr.mk.sizeOf_spec]at h;omega
 |succ m ih=>
  intro f hf hwf g hwg bd env he hh
  have hnf:=d1D ((d1P f).1 hwf).1
  have hng:=(d4Y g).1 hwg
  have hml:(ZX s f bd).words.length=f.words.length:=by rw[d2L];exact List.length_map _
  have hmk:(ZX s f bd).kind=f.kind:=by rw[d2L];rfl
  have hmn:(ZX s f bd).name=mkn s f:=by rw[d2L];rfl
  have hms:(ZX s f bd).subs=Za s f.subs (if QK f.kind then f.name::bd else bd):=by rw[d2L];rfl
  have hk2:f.kind=2→¬QK f.kind:=fun h=>by unfold QK;omega
  have hplain:f.kind=2→¬IsKey f.name:=fun h=>i2L (hnf.2.2.1 (.inl h))
  have hpart:Yi (d3u s) (ZX s f bd)↔Yi s f:=by
   unfold Yi
   rw[hmk,hml,hmn]
   constructor
   ·rintro⟨h1,h2⟩
    refine⟨h1,?_⟩
    unfold mkn at h2
    rw[if_neg (hk2 h1.1)]at h2
    split at h2
    ·rename_i h3;exact h3.2
    ·exfalso
     obtain⟨y,_,e⟩:=List.mem_map.1 h2
     split at e
     ·cases (List.cons.inj e).1
     ·exact hplain h1.1 (e▸ ⟨43,y,rfl,by simp⟩)
   ·rintro⟨h1,h2⟩
    refine⟨h1,?_⟩
    unfold mkn
    rw[if_neg (hk2 h1.1),if_pos (show Yi s f from⟨h1,h2⟩)]
    exact d4v.2 h2
  refine Evt.succ ?_
  simp only[Xa,d5V,Option.bind_some,d1i,Xl,hmk,hml,hmn]
  rw[i4n]
  refine Evt.cond (fun e=>?_) (fun e=>?_)
  ·have hp:Yi s f:=hpart.1 (of_decide_eq_true e)
   rw[if_pos hp]
   have r0m:mkn s f=43::f.name:=by unfold mkn;rw[if_neg (hk2 hp.1.1),if_pos hp]
   rw[r0m]
   show Evt _ (RM (d1x env [_]))
   rw[i7a]
   unfold d8S
   cases h:assoc (43::f.name) env with
   |none=>
    refine Evt.cond (fun e=>by simp at e) (fun _=>Evt.Zo (Evt.pure ?_))
    exact⟨fun e he=>by cases he;rfl,fun he=>by cases he⟩
   |some b=>
    refine Evt.cond (fun _=>?_) (fun e=>by simp at e)
    obtain⟨h1,h2⟩:=he _ _ h
    have hsm:=h2.1
    have htx:b.text=[]:=by
     rcases h2.2 with⟨z,e1,e2⟩|⟨c',z,e1,hc',e2⟩
     ·exact e2
     ·rw[h1]at e1
      have:=(List.cons.inj e1).1
      rcases hc' with rfl|rfl|rfl<;>cases this
    have hiff:b=⟨43::f.name,[],g⟩↔b.form=g:=by
     constructor
     ·intro e;rw[e]
     ·intro e
      cases b
      simp only at h1 htx e
      rw[h1,htx,e]
    refine Evt.bind (p0K _ b.form (Nat.le_refl _) hsm g) fun v hv=>Evt.pure ?_
    subst hv
    by_cases hb:b.form=g
    ·simp only[if_pos (hiff.2 hb),decide_eq_true hb]
     exact⟨fun e he=>by cases he;rfl,fun he=>by cases he⟩
    ·simp only[if_neg fun e=>hb (hiff.1 e),decide_eq_false hb]
     exact⟨fun e he=>(by cases he),fun _=>rfl⟩
  have hp:¬Yi s f:=fun h=>(of_decide_eq_false e) (hpart.2 h)
  rw[if_neg hp]
  refine Evt.cond (fun e=>Evt.pure ?_) (fun e=>?_)
  ·have hc:f.kind≠g.kind∨f.words.length≠g.words.length:=Classical.byContradiction fun h=>by
    obtain⟨h1,h2⟩:=not_or.1 h
    have h1:=Classical.not_not.1 h1
    have h2:=Classical.not_not.1 h2
    simp[h1,h2]at e
   rw[if_pos hc]
   exact⟨fun e he=>(by cases he),fun _=>rfl⟩
  have hk:f.kind=g.kind:=Classical.byContradiction fun h=>by simp[h]at e
  have hl:f.words.length=g.words.length:=Classical.byContradiction fun h=>by
   have:¬((f.words.length:Int)=(g.words.length:Int)):=by omega
   simp[this]at e
  rw[if_neg fun h=>h.elim (fun h=>h hk) (fun h=>h hl),d8n]
  have hsl:f.subs.length=g.subs.length:=by have:=hnf.1;have:=hng.1;rw[hk]at *; omega
  have rest:∀i8q:Env,d5p i8q→Has bd i8q→Has (if QK f.kind then f.name::bd else bd) i8q→Evt (fun n=>Yb (Xa n) (ZX s f bd) (d3u s) g i8q) (RM ((cat (ptw s.words bd f.words g.words) (d6m s f.subs (if QK f.kind then f.name::bd else bd) g.subs)).bind (d1x i8q))):=by
   intro i8q he1 hh1 r0n
   rw[d8n]
   unfold Yb
   refine Evt.WL (i7b hwf hl bd he1 hh1) (fun t ht=>?_) (fun r hr=>?_)
   ·obtain⟨ht,hte,hth⟩:=ht
    have hmono:Has (if QK f.kind then f.name::bd else bd) t:=by
     cases hw:ptw s.words bd f.words g.words with
     |none=>rw[hw]at ht;cases ht
     |some ps=>rw[hw]at ht;exact r0n.mono (d4u _ _ _ ht).2.1
    rw[ht]
    unfold d0p
    rw[hms,d6l]
    refine Evt.WL (P:=ExP (fun t'=>(d6m s f.subs (if QK f.kind then f.name::bd else bd) g.subs).bind (d1x t)=some t') (fun r=>(d6m s f.subs (if QK f.kind then f.name::bd else bd) g.subs).bind (d1x t)=none∧r.1=false)) ((Evt.range (fun k t'=>(d6m s f.subs (if QK f.kind then f.name::bd else bd) g.subs).bind (d1x t)=(d6m s (f.subs.drop k) (if QK f.kind then f.name::bd else bd) (g.subs.drop k)).bind (d1x t')∧d5p t'∧Has (if QK f.kind then f.name::bd else bd) t') (fun _=>False) (fun r=>(d6m s f.subs (if QK f.kind then f.name::bd else bd) g.subs).bind (d1x t)=none∧r.1=false) ⟨rfl,hte,hmono⟩ (fun k t' hk ht'=>?_)).mono fun e h=>?_) (fun t' ht'=>?_) (fun r hr=>?_)
    ·obtain⟨ht',p8h,p8i⟩:=ht'
     have hkg:k<g.subs.length:=by omega
     have hkm:Am.get (ZX s f bd).subs k=ZX s (Am.get f.subs k) (if QK f.kind then f.name::bd else bd):=by
      rw[hms]
      have:∀(l:List Lr) (bd:List Bs) (k:Nat),k<l.length→Am.get (Za s l bd) k=ZX s (Am.get l k) bd:=by
       intro l
       induction l with
       |nil=>intro bd k h;cases h
       |cons a l ih=>
        intro bd k h
        rw[Za]
        cases k with
        |zero=>rfl
        |succ k=>exact ih bd k (by simpa using h)
      exact this _ _ _ hk
     have e1:f.subs.drop k=Am.get f.subs k::f.subs.drop (k+1):=by rw[List.drop_eq_getElem_cons hk];simp[Am.get,hk]
     have e2:g.subs.drop k=Am.get g.subs k::g.subs.drop (k+1):=by rw[List.drop_eq_getElem_cons hkg];simp[Am.get,hkg]
     rw[e1,e2,d6m,d8n]at ht'
     unfold d0q
     simp only[hkm]
     have hsz:=XE hk
     refine Evt.chk (by omega) (Evt.bind (ih _ (by omega) (i0t hwf hk) _ (i4u hwg hkg) _ t' p8h p8i) fun v hv=>?_)
     cases hp:(pts s (Am.get f.subs k) (if QK f.kind then f.name::bd else bd) (Am.get g.subs k)).bind (d1x t')with
     |none=>
      rw[hp]at ht' hv
      have h1:=hv.2 rfl
      exact Evt.cond (fun _=>Evt.pure ⟨ht',rfl⟩) (fun e=>by rw[h1]at e;cases e)
     |some t''=>
      rw[hp]at ht' hv
      have h1:=hv.1 _ rfl
      subst h1
      refine Evt.cond (fun e=>by cases e) (fun _=>Evt.pure ⟨ht',?_,?_⟩)
      ·cases hq:pts s (Am.get f.subs k) (if QK f.kind then f.name::bd else bd) (Am.get g.subs k)with
       |none=>rw[hq]at hp;cases hp
       |some ps=>rw[hq]at hp;exact i2M p8h (i4o s _ _ _ (ArF.sm _ (i4u hwg hkg)) ps hq) hp
      ·cases hq:pts s (Am.get f.subs k) (if QK f.kind then f.name::bd else bd) (Am.get g.subs k)with
       |none=>rw[hq]at hp;cases hp
       |some ps=>rw[hq]at hp;exact p8i.mono (d4u _ _ _ hp).2.1
    ·cases e with
     |ret r=>exact h
     |nxt t'=>
      obtain⟨h1,h2,h3⟩:=h.elim id False.elim
      rw[List.drop_length,d6m]at h1
      exact h1
    ·unfold d0r
     have ht':(d6m s f.subs (if QK f.kind then f.name::bd else bd) g.subs).bind (d1x t)=some t':=ht'
     refine Evt.pure ?_
     show RM ((some t).bind _) _
     rw[Option.bind_some,ht']
     exact⟨fun e he=>by cases he;rfl,fun he=>by cases he⟩
    ·show RM ((some t).bind _) _
     rw[Option.bind_some,hr.1]
     exact⟨fun e he=>(by cases he),fun _=>hr.2⟩
   ·rw[hr.1]
    exact⟨fun e he=>(by cases he),fun _=>hr.2⟩
  have p8j:∀c:UInt8,c=33∨c=63→mkn s f=c::f.name→pth s f g=some [⟨c::f.name,g.name,zf⟩]→(QK f.kind→c=63)→Evt (fun n=>Xv (Xa n) (ZX s f bd) g env (d3u s) true) (RM (((pth s f g).bind (d1x env)).bind fun s'=>(cat (ptw s.words bd f.words g.words) (d6m s f.subs (if QK f.kind then f.name::bd else bd) g.subs)).bind (d1x s'))):=by
   intro c hc hm hpt hq
   have hc3:c=33∨c=46∨c=63:=hc.elim .inl fun h=>.inr (.inr h)
   unfold Xv
   simp only[cond_true,hmn,hm,hpt]
   have e0:(some [(⟨c::f.name,g.name,zf⟩:Ws)]).bind (d1x env)=d8S env ⟨c::f.name,g.name,zf⟩:=by
    show d1x env [_]=_
    rw[d1x]
    cases d8S env ⟨c::f.name,g.name,zf⟩<;>rfl
   rw[e0]
   refine Evt.bind (i0B he hc3 f.name g.name) fun v hv=>?_
   cases hp:d8S env ⟨c::f.name,g.name,zf⟩with
   |none=>
    rw[hp]at hv
    have h1:=hv.2 rfl
    exact Evt.cond (fun _=>Evt.pure ⟨fun e he=>(by cases he),fun _=>rfl⟩) (fun e=>by rw[h1]at e;cases e)
   |some t=>
    rw[hp]at hv
    have h1:=hv.1 _ rfl
    subst h1
    refine Evt.cond (fun e=>by cases e) (fun _=>?_)
    have hm1:=hh.mono (d5o hp).2.1
    refine rest t (i5M he (i5N hc3) hp) hm1 ?_
    by_cases hqk:QK f.kind
    ·rw[if_pos hqk]
     intro x hx
     rcases List.mem_cons.1 hx with rfl|hx
     ·have:=(d5o hp).1
      obtain rfl:=hq hqk
      show(assoc (63::f.name) t).isSome=true
      rw[show assoc (63::f.name) t=some _ from this];rfl
     ·exact hm1 x hx
    ·rw[if_neg hqk];exact hm1
  refine Evt.cond (fun e=>?_) (fun e=>?_)
  ·have hq:QK f.kind:=of_decide_eq_true e
   rw[e]
   exact p8j 63 (.inr rfl) (by unfold mkn;rw[if_pos hq]) (by unfold pth;rw[if_pos hq]) (fun _=>rfl)
  ·have hq:¬QK f.kind:=of_decide_eq_false e
   have i8r:mkn s f=if f.kind=2∧f.name∈s.WO then 33::f.name else f.name:=by unfold mkn;rw[if_neg hq,if_neg hp]
   refine Evt.bind (P:=fun v=>f.kind=2→v=decide (mkn s f∈(d3u s).WO)) (Evt.gd (fun _=>Evt.pure fun _=>rfl) (fun g h=>by simp[h]at g)) fun v hv=>?_
   by_cases hpr:f.kind=2∧f.name∈s.WO
   ·rw[if_pos hpr]at i8r
    have h1:=hv hpr.1
    rw[i8r,decide_eq_true (show(33::f.name:Bs)∈(d3u s).WO from d4v.2 hpr.2)]at h1
    have e2:(bif decide (f.kind=2)then v else false)=true:=by simp[hpr.1,h1]
    rw[e2]
    exact p8j 33 (.inl rfl) i8r (by unfold pth;rw[if_neg hq,if_pos hpr]) (fun h=>absurd h hq)
   ·rw[if_neg hpr]at i8r
    have e2:(bif decide (f.kind=2)then v else false)=false:=by
     by_cases h2:f.kind=2
     ·have h1:=hv h2
      rw[i8r,decide_eq_false (show ¬f.name∈(d3u s).WO from fun h=>hplain h2 (i5O (.inl rfl) h))]at h1
      simp[h1]
     ·simp[h2]
    rw[e2]
    have hpt:pth s f g=if f.name=g.name then some []else none:=by unfold pth;rw[if_neg hq,if_neg hpr]
    unfold Xv
    simp only[cond_false,hmn,i8r,hpt]
    refine Evt.cond (fun e=>Evt.pure ?_) (fun e=>?_)
    ·replace e:=bx e
     rw[if_neg e]
     exact⟨fun e he=>(by cases he),fun _=>rfl⟩
    ·replace e:=bx e
     rw[if_pos e]
     exact rest env he hh (by rw[if_neg hq];exact hh)
end
theorem p2V{s:Wu}(hs:d6s s){g:Lr}(hg:ArF g):Evt (fun n=>d2Q n s g) (fun r=>r=i4s s g):=by
 have hvl:=i2J s
 have hl:=hs.len
 have hnd:=hs.form.2.1
 have hql:(qs s.form).length≤200:=by rw[i0q];have:=i0r s.form;omega
 unfold d2Q
 refine Evt.bind (i5L hs) fun v1 hv1=>?_
 subst hv1
 refine Evt.bind (p0R _ s.form (Nat.le_refl _) hs.form.1 g hg [] [] (fun k b h=>by cases h) (fun x hx=>by cases hx)) fun v2 hv2=>?_
 unfold i4s
 cases hp:(pts s s.form [] g).bind (d1x [])with
 |none=>
  rw[hp]at hv2
  have h1:=hv2.2 rfl
  exact Evt.cond (fun _=>Evt.pure rfl) (fun e=>by rw[h1]at e;cases e)
 |some env=>
  rw[hp]at hv2
  have h1:=hv2.1 _ rfl
  subst h1
  have i8E:d5p env:=by
   cases hq:pts s s.form [] g with
   |none=>rw[hq]at hp;cases hp
   |some ps=>rw[hq]at hp;exact i2M (fun k b h=>by cases h) (i4o s _ _ _ (ArF.sm g hg) ps hq) hp
  refine Evt.cond (fun e=>by cases e) (fun _=>?_)
  have hqv:Evt (fun n=>WI n (d3u s).form) (fun r=>r=(qs s.form).map (63:: ·)):=by
   refine(d5T _ (d3u s).form (Nat.le_refl _) ?_).mono fun r hr=>?_
   ·show ndF (ZX s s.form [])≤_
    rw[i7c];omega
   ·rw[hr];exact i7d s s.form []
  refine Evt.bind hqv fun v3 hv3=>?_
  subst hv3
  refine Evt.WL (P:=ExP (fun t=>t=(qs s.form).map fun x=>txE env (63::x)) (fun _=>False)) ((Evt.range (fun k t=>t=((qs s.form).take k).map fun x=>txE env (63::x)) (fun _=>False) (fun _=>False) (by simp) (fun k t hk ht=>?_)).mono fun e he=>?_) (fun t ht=>?_) (fun _ h=>h.elim)
  ·rw[List.length_map]at hk
   unfold d2l
   rw[get_map _ hk]
   refine Evt.Zo (Evt.chk ?_ (Evt.pure ?_))
   ·rw[Yl,ht];simp only[List.length_append,List.length_map,List.length_take,List.length_cons,List.length_nil];omega
   ·show _=_
    rw[Xq hk,List.map_append,ht];rfl
  ·cases e with
   |ret r=>exact he
   |nxt t=>
    have:=he.elim id False.elim
    rw[List.length_map,List.take_length]at this
    exact this
  have ht:t=(qs s.form).map fun x=>txE env (63::x):=ht
  subst ht
  unfold d2m YO
  have hfl: [(d3u s).words,(d3u s).WO,(d3u s).parts].flatten=s.words.map (46:: ·)++s.WO.map (33:: ·)++s.parts.map (43:: ·):=by simp[d3u]
  refine Evt.bind (P:=fun v=>v=s.words.map (46:: ·)++s.WO.map (33:: ·)++s.parts.map (43:: ·)) ?_ fun v hv=>Evt.bind hqv fun v3 hv3=>?_
  ·unfold d8h
   simp only[Option.bind_assoc,Option.bind_some,hfl]
   exact Evt.bind (P:=fun v=>v=s.words.map (46:: ·)++s.WO.map (33:: ·)++s.parts.map (43:: ·)) (Evt.chk ⟨by simp,by simp only[List.length_append,List.length_map];omega⟩ (Evt.pure rfl)) fun v hv=>Evt.pure hv
  subst hv hv3
  have r2w: [s.words.map (46:: ·)++s.WO.map (33:: ·)++s.parts.map (43:: ·),(qs s.form).map (63:: ·)].flatten=d3A s:=by simp[d3A]
  refine Evt.bind (P:=fun v=>v=d3A s) ?_ fun v hv=>?_
  ·unfold d8h
   rw[r2w]
   refine Evt.chk ⟨by simp,?_⟩ (Evt.pure rfl)
   unfold d3A;simp only[List.length_append,List.length_map];omega
  subst hv
  have hkl:(d3A s).length≤500:=by unfold d3A;simp only[List.length_append,List.length_map];omega
  have hk1:∀k∈d3A s,1≤k.length:=fun k hk=>by
   unfold d3A at hk
   rcases List.mem_append.1 hk with hk|hk
   ·rcases List.mem_append.1 hk with hk|hk
    ·rcases List.mem_append.1 hk with hk|hk
     ·obtain⟨y,_,rfl⟩:=List.mem_map.1 hk;simp
     ·obtain⟨y,_,rfl⟩:=List.mem_map.1 hk;simp
    ·obtain⟨y,_,rfl⟩:=List.mem_map.1 hk;simp
   ·obtain⟨y,_,rfl⟩:=List.mem_map.1 hk;simp
  have hkw:∀w∈s.words,(46::w)∈d3A s:=fun w hw=>List.mem_append.2 (.inl (List.mem_append.2 (.inl (List.mem_append.2 (.inl (d4v.2 hw))))))
  refine Evt.WL (P:=ExP (fun t=>t=((d3A s).map fun k=>(⟨k.drop 1,txE env k,fmE env k⟩:Ws))∧¬caught s env) (fun r=>r=([],false)∧caught s env)) ((Evt.range (fun k t=>t=(((d3A s).take k).map fun k=>(⟨k.drop 1,txE env k,fmE env k⟩:Ws))∧∀w∈s.words,(46::w)∈(d3A s).take k→txE env (46::w)∉ (qs s.form).map fun x=>txE env (63::x)) (fun _=>False) (fun r=>r=([],false)∧caught s env) ⟨by simp,fun w _ h=>by simp at h⟩ (fun k t hk ht=>?_)).mono fun e he=>?_) (fun t ht=>?_) (fun r hr=>?_)
  ·obtain⟨ht1,ht2⟩:=ht
   unfold d2n
   have hc2:∀x,WZ x ((qs s.form).map fun x=>txE env (63::x))=some (decide (x∈(qs s.form).map fun x=>txE env (63::x))):=fun x=>i4r x _ (by rw[List.length_map];omega)
   simp only[Xl,hc2,Option.bind_some]
   refine Evt.bind (P:=fun v=>(∃w∈s.words,Am.get (d3A s) k=46::w)→v=decide (txE env (Am.get (d3A s) k)∈(qs s.form).map fun x=>txE env (63::x))) (Evt.gd (fun _=>Evt.pure fun _=>rfl) (fun h ⟨w,hw,e⟩=>?_)) fun v hv=>Evt.cond (fun e=>Evt.pure ⟨rfl,?_⟩) (fun e=>?_)
   ·rw[e,decide_eq_true (show(46::w:Bs)∈(d3u s).words from d4v.2 hw)]at h;cases h
   ·replace e:=bx e
    obtain⟨e1,e2⟩:=e
    obtain⟨w,hw,e3⟩:=List.mem_map.1 (show _∈s.words.map (46:: ·)from e1)
    have:=hv ⟨w,hw,e3.symm⟩
    rw[e2]at this
    refine⟨w,hw,?_⟩
    rw[e3]
    exact of_decide_eq_true this.symm
   ·have hnw:∀w∈s.words,(46::w)∈(d3A s).take (k+1)→txE env (46::w)∉ (qs s.form).map fun x=>txE env (63::x):=fun w hw hm=>by
     rw[Xq hk]at hm
     rcases List.mem_append.1 hm with hm|hm
     ·exact ht2 w hw hm
     ·rw[List.mem_singleton]at hm
      intro hc
      have h1:=hv ⟨w,hw,hm.symm⟩
      rw[←hm,decide_eq_true hc]at h1
      rw[←hm,decide_eq_true (show(46::w:Bs)∈(d3u s).words from d4v.2 hw),h1]at e
      cases e
    have htl:t.length=k:=by rw[ht1,List.length_map,List.length_take];omega
    have hsn:((d3A s).take (k+1)).map (fun k=>(⟨k.drop 1,txE env k,fmE env k⟩:Ws))=t++[⟨(Am.get (d3A s) k).drop 1,txE env (Am.get (d3A s) k),fmE env (Am.get (d3A s) k)⟩]:=by rw[Xq hk,List.map_append,ht1];rfl
    refine Evt.chk ⟨by omega,hk1 _ (get_mem hk)⟩ (Evt.cond (fun e=>?_) (fun e=>Evt.Zo (Evt.chk ?_ (Evt.pure ?_))))
    ·refine Evt.bind (p2U _ _ (Nat.le_refl _) (p8k i8E (Am.get (d3A s) k))) fun v hv=>Evt.Zo (Evt.chk ?_ (Evt.pure ?_))
     ·rw[Yl];simp only[List.length_append,List.length_cons,List.length_nil];omega
     ·subst hv
      exact⟨hsn.symm,hnw⟩
    ·rw[Yl];simp only[List.length_append,List.length_cons,List.length_nil];omega
    ·exact⟨hsn.symm,hnw⟩
  ·cases e with
   |ret r=>exact he
   |nxt t=>
    obtain⟨h1,h2⟩:=he.elim id False.elim
    rw[List.take_length]at h1
    refine⟨h1,fun⟨w,hw,hc⟩=>?_⟩
    exact h2 w hw (by rw[List.take_length];exact hkw w hw) hc
  ·obtain⟨rfl,ht⟩:=ht
   unfold d2o
   refine Evt.pure ?_
   simp only[if_neg ht]
  ·obtain⟨rfl,hr⟩:=hr
   simp only[if_pos hr]
theorem i7f{env:List (Bs×Bs)}{w:Bs}(h:w∈env.map (·.1)):∃p∈env,sub env w=p.2:=by
 obtain⟨p,hp,e⟩:=List.mem_map.1 (i2E h)
 exact⟨p,hp,e.symm⟩
mutual
theorem p0S(N M:Nat→Bs)(U:Bs→Prop)(hN:∀i j,N i=N j→i=j)(hN2:∀i,¬U (N i)):∀(f:Lr) (env env' d1E:List (Bs×Bs)) (i j:Nat),(∀x,fre f (env.map (·.1)) x→U x)→(∀p∈env,∃k,k<i∧p.2=N k)→(∀w,w∈env.map (·.1)∨U w→sub env' (sub env w)=sub d1E w)→ren M (ren N f env i) env' j=ren M f d1E j
 | .mk k n w s,env,env',d1E,i,j,hf,he,ha=>by
   have hw:∀x∈w,x∈env.map (·.1)∨U x:=fun x hx=>by
    by_cases h:x∈env.map (·.1)
    ·exact .inl h
    ·exact .inr (hf x (by rw[fre];exact .inl ⟨hx,h⟩))
   have e1:(w.map (sub env)).map (sub env')=w.map (sub d1E):=by
    rw[List.map_map]
    exact List.map_congr_left fun x hx=>ha x (hw x hx)
   rw[ren,ren,ren,e1]
   by_cases hq:QK k
   ·simp only[if_pos hq]
    rw[i2U N M U hN hN2 s _ ((N i,M j)::env') ((n,M j)::d1E) (i+1) (j+1) (fun x hx=>hf x (by rw[fre,if_pos hq];exact .inr hx)) (fun p hp=>?_) (fun y hy=>?_)]
    ·rcases List.mem_cons.1 hp with rfl|hp
     ·exact⟨i,by omega,rfl⟩
     ·obtain⟨l,h1,h2⟩:=he p hp
      exact⟨l,by omega,h2⟩
    ·by_cases e:n=y
     ·subst e
      have a:sub ((n,N i)::env) n=N i:=by rw[Ye,if_pos rfl]
      have b:sub ((n,M j)::d1E) n=M j:=by rw[Ye,if_pos rfl]
      rw[a,b,Ye,if_pos rfl]
     ·have a:sub ((n,N i)::env) y=sub env y:=by rw[Ye,if_neg e]
      have b:sub ((n,M j)::d1E) y=sub d1E y:=by rw[Ye,if_neg e]
      have hy':y∈env.map (·.1)∨U y:=by
       rcases hy with hy|hy
       ·rw[List.map_cons,List.mem_cons]at hy
        exact hy.elim (fun h=>absurd h.symm e) .inl
       ·exact .inr hy
      rw[a,b,Ye,if_neg fun e2=>?_]
      ·exact ha y hy'
      ·by_cases hm:y∈env.map (·.1)
       ·obtain⟨p,hp,e3⟩:=i7f hm
        obtain⟨l,hl,e4⟩:=he p hp
        rw[e3,e4]at e2
        have:=hN _ _ e2
        omega
       ·rw[d6V fun p hp h=>hm (List.mem_map.2 ⟨p,hp,h⟩)]at e2
        exact hN2 i (e2▸hy'.elim (fun h=>absurd h hm) id)
   ·simp only[if_neg hq]
    rw[i2U N M U hN hN2 s env env' d1E (i+0) (j+0) (fun x hx=>hf x (by rw[fre,if_neg hq];exact .inr hx)) he ha]
theorem i2U(N M:Nat→Bs)(U:Bs→Prop)(hN:∀i j,N i=N j→i=j)(hN2:∀i,¬U (N i)):∀(l:List Lr) (env env' d1E:List (Bs×Bs)) (i j:Nat),(∀x,d0x l (env.map (·.1)) x→U x)→(∀p∈env,∃k,k<i∧p.2=N k)→(∀w,w∈env.map (·.1)∨U w→sub env' (sub env w)=sub d1E w)→Yu M (Yu N l env i) env' j=Yu M l d1E j
 | [],env,env',d1E,i,j,_,_,_=>by rw[Yu,Yu,Yu]
 |f::l,env,env',d1E,i,j,hf,he,ha=>by
  rw[Yu,Yu,Yu,p0S N M U hN hN2 f env env' d1E i j (fun x hx=>hf x (by rw[d0x];exact .inl hx)) he ha,i4c,i2U N M U hN hN2 l env env' d1E (i+nq f) (j+nq f) (fun x hx=>hf x (by rw[d0x];exact .inr hx)) (fun p hp=>by
   obtain⟨k,h1,h2⟩:=he p hp
   exact⟨k,by omega,h2⟩) ha]
end
mutual
def d5v(φ:Bs→Bs):Lr→Lr
 | .mk k n w s=>.mk k (if QK k then φ n else n) (w.map φ) (d1F φ s)
def d1F(φ:Bs→Bs):List Lr→List Lr
 | []=>[]
 |f::l=>d5v φ f::d1F φ l
end
section
variable (φ:Bs→Bs)
theorem i5S(f:Lr):d5v φ f= .mk f.kind (if QK f.kind then φ f.name else f.name) (f.words.map φ) (d1F φ f.subs):=by cases f;rw[d5v];rfl
mutual
theorem p5n:∀f:Lr,ndF (d5v φ f)=ndF f
 | .mk k n w s=>by rw[d5v,ndF,ndF,i7g s]
theorem i7g:∀l:List Lr,Zr (d1F φ l)=Zr l
 | []=>by rw[d1F]
 |f::l=>by rw[d1F,Zr,Zr,p5n f,i7g l]
end
mutual
theorem p5o:∀f:Lr,dpF (d5v φ f)=dpF f
 | .mk k n w s=>by rw[d5v,dpF,dpF,i7h s]
theorem i7h:∀l:List Lr,d3U (d1F φ l)=d3U l
 | []=>by rw[d1F]
 |f::l=>by rw[d1F,d3U,d3U,p5o f,i7h l]
end
mutual
theorem i5T:∀f:Lr,nq (d5v φ f)=nq f
 | .mk k n w s=>by rw[d5v,nq,nq,i7i s]
theorem i7i:∀l:List Lr,nqL (d1F φ l)=nqL l
 | []=>by rw[d1F]
 |f::l=>by rw[d1F,nqL,nqL,i5T f,i7i l]
end
variable {φ}
theorem i7j(hφ:∀a b,φ a=φ b→a=b):∀(env:List (Bs×Bs)) (w:Bs),(w∉env.map (·.1)→φ w=w)→sub (env.map fun p=>(φ p.1,p.2)) (φ w)=sub env w
 | [],w,h=>by rw[List.map_nil,d8i,d8i];exact h (by simp)
 |(a,b)::env,w,h=>by
  rw[List.map_cons,Ye,Ye]
  by_cases e:a=w
  ·rw[if_pos e,if_pos (by rw[e])]
  ·rw[if_neg e,if_neg fun e2=>e (hφ _ _ e2)]
   exact i7j hφ env w fun hm=>h fun hm2=>by
    rw[List.map_cons,List.mem_cons]at hm2
    exact hm2.elim (fun h=>e h.symm) hm
mutual
theorem i7k(hφ:∀a b,φ a=φ b→a=b)(M:Nat→Bs):∀(f:Lr) (env:List (Bs×Bs)) (i:Nat),(∀x,fre f (env.map (·.1)) x→φ x=x)→ren M (d5v φ f) (env.map fun p=>(φ p.1,p.2)) i=ren M f env i
 | .mk k n w s,env,i,hf=>by
   have e1:(w.map φ).map (sub (env.map fun p=>(φ p.1,p.2)))=w.map (sub env):=by
    rw[List.map_map]
    exact List.map_congr_left fun x hx=>i7j hφ env x fun h=>hf x (by rw[fre];exact .inl ⟨hx,h⟩)
   rw[d5v,ren,ren,e1]
   by_cases hq:QK k
   ·simp only[if_pos hq]
    have:=i0D hφ M s ((n,M i)::env) (i+1) (fun x hx=>hf x (by rw[fre,if_pos hq];exact .inr hx))
    rw[List.map_cons]at this
    rw[this]
   ·simp only[if_neg hq]
    rw[i0D hφ M s env (i+0) (fun x hx=>hf x (by rw[fre,if_neg hq];exact .inr hx))]
theorem i0D(hφ:∀a b,φ a=φ b→a=b)(M:Nat→Bs):∀(l:List Lr) (env:List (Bs×Bs)) (i:Nat),(∀x,d0x l (env.map (·.1)) x→φ x=x)→Yu M (d1F φ l) (env.map fun p=>(φ p.1,p.2)) i=Yu M l env i
 | [],env,i,_=>by rw[d1F,Yu,Yu]
 |f::l,env,i,hf=>by rw[d1F,Yu,Yu,i7k hφ M f env i (fun x hx=>hf x (by rw[d0x];exact .inl hx)),i5T,i0D hφ M l env _ (fun x hx=>hf x (by rw[d0x];exact .inr hx))]
end
mutual
theorem i2V(hφ:∀a b,φ a=φ b→a=b):∀(f:Lr) (bd:List Bs) (x:Bs),fre (d5v φ f) (bd.map φ) (φ x)↔fre f bd x
 | .mk k n w s,bd,x=>by
   have hm:∀(l:List Bs) (y:Bs),φ y∈l.map φ↔y∈l:=fun l y=>by
    constructor
    ·intro h
     obtain⟨z,hz,e⟩:=List.mem_map.1 h
     exact hφ _ _ e▸hz
    ·exact fun h=>List.mem_map.2 ⟨y,h,rfl⟩
   rw[d5v,fre,fre,hm,hm]
   by_cases hq:QK k
   ·simp only[if_pos hq]
    rw[←List.map_cons,i0E hφ s]
   ·simp only[if_neg hq]
    rw[i0E hφ s]
theorem i0E(hφ:∀a b,φ a=φ b→a=b):∀(l:List Lr) (bd:List Bs) (x:Bs),d0x (d1F φ l) (bd.map φ) (φ x)↔d0x l bd x
 | [],bd,x=>by rw[d1F,d0x,d0x]
 |f::l,bd,x=>by rw[d1F,d0x,d0x,i2V hφ f,i0E hφ l]
end
mutual
theorem i7l:∀(f:Lr) (bd:List Bs) (x:Bs),fre (d5v φ f) bd x→∃y,x=φ y
 | .mk k n w s,bd,x,h=>by
   rw[d5v,fre]at h
   rcases h with h|h
   ·obtain⟨y,_,e⟩:=List.mem_map.1 h.1
    exact⟨y,e.symm⟩
   ·exact i4v s _ x h
theorem i4v:∀(l:List Lr) (bd:List Bs) (x:Bs),d0x (d1F φ l) bd x→∃y,x=φ y
 | [],bd,x,h=>by rw[d1F,d0x]at h;exact h.elim
 |f::l,bd,x,h=>by
  rw[d1F,d0x]at h
  exact h.elim (i7l f bd x) (i4v l bd x)
end
theorem i5U(hφ:∀a b,φ a=φ b→a=b){f:Lr}(hf:∀x,fre f [] x→φ x=x):fre (d5v φ f) []=fre f []:=by
 funext x
 refine propext ⟨fun h=>?_,fun h=>?_⟩
 ·obtain⟨y,rfl⟩:=i7l f [] x h
  have h2:=(i2V hφ f [] y).1 h
  rw[hf y h2];exact h2
 ·have:=(i2V hφ f [] x).2 h
  rw[hf x h]at this
  exact this
end
mutual
def d7f:Lr→Bs→List Bs
 | .mk _ _ _ l,p=>p::d1z l p 0
def d1z:List Lr→Bs→Nat→List Bs
 | [],_,_=>[]
 |f::l,p,i=>d7f f (p++Lib.decDigits i)++d1z l p (i+1)
end
theorem i0F(f:Lr)(p:Bs):d7f f p=p::d1z f.subs p 0:=by cases f;rw[d7f];rfl
mutual
theorem d9o:∀(f:Lr) (p:Bs),(d7f f p).length=ndF f
 | .mk _ _ _ l,p=>by rw[d7f,ndF,List.length_cons,d7F l];omega
theorem d7F:∀(l:List Lr) (p:Bs) (i:Nat),(d1z l p i).length=Zr l
 | [],p,i=>by rw[d1z,Zr];rfl
 |f::l,p,i=>by rw[d1z,Zr,List.length_append,d9o f,d7F l]
end
theorem d8q:∀(l:List Lr) (x:Lr) (p:Bs) (i:Nat),d1z (l++[x]) p i=d1z l p i++d7f x (p++Lib.decDigits (i+l.length))
 | [],x,p,i=>by simp[d1z]
 |a::l,x,p,i=>by rw[List.cons_append,d1z,d1z,d8q l,List.append_assoc,List.length_cons,show i+1+l.length=i+(l.length+1)by omega]
mutual
theorem i7m:∀(f:Lr) (p:Bs),∀q∈d7f f p,p <+: q
 | .mk _ _ _ l,p,q,h=>by
   rw[d7f]at h
   rcases List.mem_cons.1 h with rfl|h
   ·exact List.prefix_refl _
   ·obtain⟨j,_,_,hj⟩:=d5W l p 0 q h
    exact(List.prefix_append _ _).trans hj
theorem d5W:∀(l:List Lr) (p:Bs) (i:Nat),∀q∈d1z l p i,∃j,i≤j∧j<i+l.length∧(p++Lib.decDigits j) <+: q
 | [],p,i,q,h=>by rw[d1z]at h;cases h
 |f::l,p,i,q,h=>by
  rw[d1z]at h
  rcases List.mem_append.1 h with h|h
  ·exact⟨i,Nat.le_refl _,by rw[List.length_cons];omega,i7m f _ q h⟩
  ·obtain⟨j,h1,h2,h3⟩:=d5W l p (i+1) q h
   exact⟨j,by omega,by rw[List.length_cons];omega,h3⟩
end
theorem p8m{a b q:Bs}(h1:a <+: q)(h2:b <+: q)(hl:a.length=b.length):a=b:=
 (List.prefix_of_prefix_length_le h1 h2 (by omega)).eq_of_length hl
theorem p3V{p q:Bs}{i j:Nat}(hi:i<10)(hj:j<10)(h1:(p++Lib.decDigits i) <+: q)(h2:(p++Lib.decDigits j) <+: q):i=j:=by
 have hl:(p++Lib.decDigits i).length=(p++Lib.decDigits j).length:=by rw[List.length_append,List.length_append,d3Y hi,d3Y hj]
 exact i5G (List.append_cancel_left (p8m h1 h2 hl))
mutual
theorem i0G:∀(f:Lr) (p:Bs),SmF f→(d7f f p).Nodup
 | .mk k n w l,p,h=>by
   rw[SmF]at h
   rw[d7f,List.nodup_cons]
   refine⟨fun hm=>?_,i2W l p 0 (by omega) h.2.2⟩
   obtain⟨j,_,hj,h3⟩:=d5W l p 0 p hm
   have:=h3.length_le
   rw[List.length_append,d3Y (by omega)]at this
   omega
theorem i2W:∀(l:List Lr) (p:Bs) (i:Nat),i+l.length≤10→d8l l→(d1z l p i).Nodup
 | [],p,i,_,_=>by rw[d1z];exact List.nodup_nil
 |f::l,p,i,hi,h=>by
  rw[d8l]at h
  rw[List.length_cons]at hi
  rw[d1z,List.nodup_append]
  refine⟨i0G f _ h.1,i2W l p (i+1) (by omega) h.2,fun x hx y hy e=>?_⟩
  subst e
  obtain⟨j,h1,h2,h3⟩:=d5W l p (i+1) x hy
  have:=p3V (by omega) (by omega) (i7m f _ x hx) h3
  omega
end
def i1M:List Bs→Nat→List (Bs×Int)
 | [],_=>[]
 |p::l,i=>(p,(i:Int))::i1M l (i+1)
theorem i7n:∀(a b:List Bs) (i:Nat),i1M (a++b) i=i1M a i++i1M b (i+a.length)
 | [],b,i=>rfl
 |x::a,b,i=>by rw[List.cons_append,i1M,i1M,i7n a b,List.cons_append,List.length_cons,show i+1+a.length=i+(a.length+1)by omega]
theorem i7o:∀(a:List Bs) (i:Nat),(i1M a i).length=a.length
 | [],i=>rfl
 |x::a,i=>by rw[i1M,List.length_cons,List.length_cons,i7o a]
theorem i4w:∀(a:List Bs) (i:Nat),(i1M a i).map (·.1)=a
 | [],i=>rfl
 |x::a,i=>by rw[i1M,List.map_cons,i4w a]
theorem i1N:∀(a:List Bs) (i j:Nat),a.Nodup→j<a.length→assoc (Am.get a j) (i1M a i)=some ((i+j:Nat):Int)
 | [],i,j,_,h=>by simp at h
 |x::a,i,0,hn,_=>by
  show(if x=x then some (i:Int)else _)=_
  rw[if_pos rfl];rfl
 |x::a,i,j+1,hn,h=>by
  rw[List.nodup_cons]at hn
  have hj:j<a.length:=by simpa using h
  have hne:Am.get a j≠x:=fun e=>hn.1 (e▸get_mem hj)
  show(if Am.get a j=x then some (i:Int)else assoc (Am.get a j) (i1M a (i+1)))=_
  rw[if_neg hne,i1N a (i+1) j hn.2 hj,show i+1+j=i+(j+1)by omega]
theorem d8J{V:Type}{k:Bs}{v:V}:∀ {m:List (Bs×V)},k∉m.map (·.1)→Wz k v m=m++[(k,v)]
 | [],_=>rfl
 |(a,u)::m,h=>by
  rw[List.map_cons,List.mem_cons,not_or]at h
  show(if k=a then(k,v)::m else(a,u)::Wz k v m)=_
  rw[if_neg h.1,d8J h.2];rfl
theorem i8s:∀(m:Nat) (f:Lr),SizeOf.sizeOf f≤m→SmF f→∀(path:Bs) (rs:List Wq) (c:Int) (mp:List (Bs×Int)) (u:List Wp),path.length+ndF f≤100000→(∀q∈mp.map (·.1),¬path <+: q)→
 Evt (fun n=>YE n f path rs c mp u) (fun r=>r=mp++i1M (d7f f path) mp.length):=by
 intro m
 induction m with
 |zero=>intro f h;cases f;simp only[Lr.mk.sizeOf_spec]at h;omega
 |succ m ih=>
  intro f hf hsm path rs c mp u hp hfr
  have hsl:=d8o hsm
  have hnd:=d4V f
  refine Evt.succ ?_
  simp only[YE]
  rw[d8J fun h=>hfr _ h (List.prefix_refl _)]
  refine Evt.Zo (Evt.WL (P:=ExP (fun t=>t=mp++(path,((mp.length:Nat):Int))::i1M (d1z f.subs path 0) (mp.length+1)) (fun _=>False)) ((Evt.range (fun k t=>t=mp++(path,((mp.length:Nat):Int))::i1M (d1z (f.subs.take k) path 0) (mp.length+1)) (fun _=>False) (fun _=>False) (by rw[List.take_zero,d1z,i1M]) (fun k s hk hs=>?_)).mono fun e he=>?_) (fun t ht=>?_) (fun _ h=>h.elim))
  ·have hsz:=XE hk
   have htk:=d0g hk
   have hd:=d3Y (k:=k) (by omega)
   have hlk:(f.subs.take k).length=k:=by rw[List.length_take];omega
   unfold d0d
   simp only[i0y (m:=k) (by omega),Option.bind_some]
   have r0p:s.map (·.1)=mp.map (·.1)++path::d1z (f.subs.take k) path 0:=by rw[hs,List.map_append,List.map_cons,i4w]
   have r0q:s.length=mp.length+1+(d1z (f.subs.take k) path 0).length:=by rw[hs,List.length_append,List.length_cons,i7o];omega
   refine Evt.chk (by unfold Yk;omega) (Evt.bind (ih _ (by omega) (d7D hsm hk) _ rs c s u ?_ ?_) fun v hv=>Evt.pure ?_)
   ·show(path++Lib.decDigits k).length+_≤_
    rw[List.length_append];omega
   ·intro q hq hpre
    have hpre:(path++Lib.decDigits k) <+: q:=hpre
    rw[r0p]at hq
    rcases List.mem_append.1 hq with hq|hq
    ·exact hfr q hq ((List.prefix_append _ _).trans hpre)
    ·rcases List.mem_cons.1 hq with rfl|hq
     ·have:=hpre.length_le
      rw[List.length_append,hd]at this
      omega
     ·obtain⟨j,_,h2,h3⟩:=d5W _ _ _ q hq
      have:=p3V (by omega) (by omega) hpre h3
      omega
   ·show v=_
    rw[hv,r0q,hs,Xq hk,d8q,i7n,hlk,Nat.zero_add]
    show(mp++_::_)++i1M (d7f (Am.get f.subs k) (path++Lib.decDigits k)) _=_
    rw[List.append_assoc,List.cons_append]
  ·cases e with
   |ret r=>exact he
   |nxt t=>
    have:=he.elim id False.elim
    rw[List.take_length]at this
    exact this
  ·have ht:t=_:=ht
   subst ht
   unfold d0e
   refine Evt.pure ?_
   rw[i0F,i1M]
mutual
def d7G(fr to:Bs)(a:Nat):Lr→Lr
 | .mk k n w s=>.mk k (if k=2∧n=fr∧w.length=a then to else n) w (d0J fr to a s)
def d0J(fr to:Bs)(a:Nat):List Lr→List Lr
 | []=>[]
 |f::l=>d7G fr to a f::d0J fr to a l
end
mutual
def tlF(nm:Bs)(a:Nat):Lr→Prop
 | .mk k n w s=>(k=2∧n=nm∧w.length=a)∨p0T nm a s
def p0T(nm:Bs)(a:Nat):List Lr→Prop
 | []=>False
 |f::l=>tlF nm a f∨p0T nm a l
end
section
variable (fr to:Bs) (a:Nat)
theorem i4x:∀l:List Lr,d0J fr to a l=l.map (d7G fr to a)
 | []=>by rw[d0J];rfl
 |f::l=>by rw[d0J,i4x l];rfl
theorem i4y(l:List Lr):(d0J fr to a l).length=l.length:=by rw[i4x,List.length_map]
mutual
theorem p5p:∀f:Lr,ndF (d7G fr to a f)=ndF f
 | .mk k n w s=>by rw[d7G,ndF,ndF,i7p s]
theorem i7p:∀l:List Lr,Zr (d0J fr to a l)=Zr l
 | []=>by rw[d0J]
 |f::l=>by rw[d0J,Zr,Zr,p5p f,i7p l]
end
mutual
theorem p5q:∀f:Lr,dpF (d7G fr to a f)=dpF f
 | .mk k n w s=>by rw[d7G,dpF,dpF,i7q s]
theorem i7q:∀l:List Lr,d3U (d0J fr to a l)=d3U l
 | []=>by rw[d0J]
 |f::l=>by rw[d0J,d3U,d3U,p5q f,i7q l]
end
mutual
theorem p0U:∀f:Lr,nq (d7G fr to a f)=nq f
 | .mk k n w s=>by rw[d7G,nq,nq,i7r s]
theorem i7r:∀l:List Lr,nqL (d0J fr to a l)=nqL l
 | []=>by rw[d0J]
 |f::l=>by rw[d0J,nqL,nqL,p0U f,i7r l]
end
theorem q2{k:Int}(h:k=2):¬QK k:=by subst h;unfold QK;omega
theorem p5r{k:Int}{n:Bs}{w:List Bs}(h:QK k):(if k=2∧n=fr∧w.length=a then to else n)=n:=if_neg fun e=>q2 e.1 h
mutual
theorem p2W(N:Nat→Bs):∀(f:Lr) (env:List (Bs×Bs)) (i:Nat),d7G fr to a (ren N f env i)=ren N (d7G fr to a f) env i
 | .mk k n w s,env,i=>by
   rw[ren,d7G,d7G,ren]
   by_cases hq:QK k
   ·rw[p5r fr to a hq,p5r fr to a hq]
    simp only[if_pos hq]
    rw[i0H N s]
   ·simp only[if_neg hq,List.length_map]
    rw[i0H N s]
theorem i0H(N:Nat→Bs):∀(l:List Lr) (env:List (Bs×Bs)) (i:Nat),d0J fr to a (Yu N l env i)=Yu N (d0J fr to a l) env i
 | [],env,i=>by rw[Yu,d0J,Yu]
 |f::l,env,i=>by rw[Yu,d0J,d0J,Yu,p2W N f,i0H N l,p0U]
end
mutual
theorem p2X:∀(f:Lr) (bd:List Bs) (x:Bs),fre (d7G fr to a f) bd x↔fre f bd x
 | .mk k n w s,bd,x=>by
   rw[d7G,fre,fre]
   by_cases hq:QK k
   ·rw[p5r fr to a hq,i0I s]
   ·simp only[if_neg hq]
    rw[i0I s]
theorem i0I:∀(l:List Lr) (bd:List Bs) (x:Bs),d0x (d0J fr to a l) bd x↔d0x l bd x
 | [],bd,x=>by rw[d0J]
 |f::l,bd,x=>by rw[d0J,d0x,d0x,p2X f,i0I l]
end
mutual
theorem p5s:∀f:Lr,ArF f→ArF (d7G fr to a f)
 | .mk k n w s,h=>by
   rw[ArF]at h
   rw[d7G,ArF,i4y]
   exact⟨h.1,h.2.1,h.2.2.1,i7s s h.2.2.2⟩
theorem i7s:∀l:List Lr,d3Z l→d3Z (d0J fr to a l)
 | [],_=>by rw[d0J,d3Z];trivial
 |f::l,h=>by
  rw[d3Z]at h
  rw[d0J,d3Z]
  exact⟨p5s f h.1,i7s l h.2⟩
end
theorem p2Y{f:Lr}(h1:(f.subs.length:Int)=arF f.kind)(h2:d5P f.kind f.words.length)(h3:f.kind=2∨QK f.kind→Xn f.name)(h4:¬(f.kind=2∨QK f.kind)→f.name=[])(h5:∀w∈f.words,Xn w):d2A f=0:=by
 unfold d2A
 rw[if_neg (by omega),if_neg (fun e=>e.elim (fun e=>e h1) fun e=>e h2),if_neg (fun e=>e.2 (h3 e.1)),if_neg (fun e=>e.2 (h4 e.1)),if_neg (fun⟨w,h6,h7⟩=>h7 (h5 w h6))]
variable {to}
mutual
theorem p5t(ht:Xn to):∀f:Lr,WfF f→WfF (d7G fr to a f)
 | .mk k n w s,h=>by
   obtain⟨h1,h2⟩:=(d1P _).1 h
   obtain⟨n1,n2,n3,n4,n5⟩:=d1D h1
   rw[d1P]
   refine⟨p2Y ?_ ?_ ?_ ?_ ?_,?_⟩
   ·rw[d7G];show((d0J fr to a s).length:Int)=_;rw[i4y];exact n1
   ·rw[d7G];exact n2
   ·rw[d7G]
    intro e
    show Xn (if _ then to else n)
    split
    ·exact ht
    ·exact n3 e
   ·rw[d7G]
    intro e
    show(if _ then to else n)=[]
    rw[if_neg fun e2=>e (.inl e2.1)]
    exact n4 e
   ·rw[d7G];exact n5
   ·rw[d7G];exact i7t ht s h2
theorem i7t(ht:Xn to):∀l:List Lr,d6i l→d6i (d0J fr to a l)
 | [],_=>by rw[d0J,d6i];trivial
 |f::l,h=>by
  rw[d6i]at h
  rw[d0J,d6i]
  exact⟨p5t ht f h.1,i7t ht l h.2⟩
end
variable (to)
mutual
theorem p0V:∀f:Lr,¬tlF to a f→d7G to fr a (d7G fr to a f)=f
 | .mk k n w s,h=>by
   rw[tlF,not_or]at h
   rw[d7G,d7G,i1O s h.2]
   congr 1
   by_cases e:k=2∧n=fr∧w.length=a
   ·rw[if_pos e,if_pos ⟨e.1,rfl,e.2.2⟩];exact e.2.1.symm
   ·rw[if_neg e,if_neg h.1]
theorem i1O:∀l:List Lr,¬p0T to a l→d0J to fr a (d0J fr to a l)=l
 | [],_=>by rw[d0J,d0J]
 |f::l,h=>by
  rw[p0T,not_or]at h
  rw[d0J,d0J,p0V f h.1,i1O l h.2]
end
mutual
theorem p0W(hne:fr≠to):∀f:Lr,¬tlF fr a (d7G fr to a f)
 | .mk k n w s=>by
   rw[d7G,tlF,not_or]
   refine⟨fun⟨h1,h2,h3⟩=>?_,i1P hne s⟩
   by_cases e:k=2∧n=fr∧w.length=a
   ·rw[if_pos e]at h2;exact hne h2.symm
   ·rw[if_neg e]at h2;exact e ⟨h1,h2,h3⟩
theorem i1P(hne:fr≠to):∀l:List Lr,¬p0T fr a (d0J fr to a l)
 | []=>by rw[d0J,p0T];exact id
 |f::l=>by rw[d0J,p0T,not_or];exact⟨p0W hne f,i1P hne l⟩
end
mutual
theorem p5u(N:Nat→Bs):∀(f:Lr) (env:List (Bs×Bs)) (i:Nat),tlF to a (ren N f env i)↔tlF to a f
 | .mk k n w s,env,i=>by
   rw[ren,tlF,tlF,i7u N s,List.length_map]
   by_cases hk:k=2
   ·simp only[if_neg (q2 hk)]
   ·simp only[hk,false_and]
theorem i7u(N:Nat→Bs):∀(l:List Lr) (env:List (Bs×Bs)) (i:Nat),p0T to a (Yu N l env i)↔p0T to a l
 | [],env,i=>by rw[Yu]
 |f::l,env,i=>by rw[Yu,p0T,p0T,p5u N f,i7u N l]
end
end
def xw(i:Nat):Bs:=120::Lib.decDigits i
def xs(a:Nat):List Bs:=(List.range a).map xw
def i1Q(φ:Bs→Bs)(b:Ws):Ws:=⟨b.name,if b.name.head? =some 46 then φ b.text else b.text,b.form⟩
def i1R(φ:Bs→Bs)(e:Env):Env:=e.map fun p=>(p.1,i1Q φ p.2)
section
variable {φ:Bs→Bs}
theorem p2Z(hφ:∀a b,φ a=φ b→a=b){a b:Ws}(h:i1Q φ a=i1Q φ b):a=b:=by
 obtain⟨n,t,f⟩:=a
 obtain⟨n',t',f'⟩:=b
 unfold i1Q at h
 simp only[Ws.mk.injEq]at h
 obtain⟨rfl,h2,rfl⟩:=h
 by_cases hh:n.head? =some 46
 ·rw[if_pos hh,if_pos hh]at h2
  rw[hφ _ _ h2]
 ·rw[if_neg hh,if_neg hh]at h2
  rw[h2]
theorem d8r(k:Bs):∀e:Env,assoc k (i1R φ e)=(assoc k e).map (i1Q φ)
 | []=>rfl
 |(a,b)::e=>by
  show(if k=a then some (i1Q φ b)else assoc k (i1R φ e))=Option.map _ (if k=a then some b else assoc k e)
  by_cases h:k=a
  ·rw[if_pos h,if_pos h];rfl
  ·rw[if_neg h,if_neg h];exact d8r k e
theorem d7H(k:Bs)(b:Ws):∀e:Env,Wz k (i1Q φ b) (i1R φ e)=i1R φ (Wz k b e)
 | []=>rfl
 |(a,c)::e=>by
  show(if k=a then(k,i1Q φ b)::i1R φ e else(a,i1Q φ c)::Wz k (i1Q φ b) (i1R φ e))=i1R φ (if k=a then(k,b)::e else(a,c)::Wz k b e)
  by_cases h:k=a
  ·rw[if_pos h,if_pos h];rfl
  ·rw[if_neg h,if_neg h,d7H k b e];rfl
open Classical in
theorem p0X(hφ:∀a b,φ a=φ b→a=b)(e:Env)(b:Ws):d8S (i1R φ e) (i1Q φ b)=(d8S e b).map (i1R φ):=by
 unfold d8S
 show(match assoc b.name (i1R φ e)with|none=>some (Wz b.name (i1Q φ b) (i1R φ e))|some b'=>if b'=i1Q φ b then some (i1R φ e)else none)=_
 rw[d8r]
 cases h:assoc b.name e with
 |none=>simp only[Option.map_none,Option.map_some,d7H]
 |some b'=>
  simp only[Option.map_some]
  by_cases hb:b'=b
  ·rw[if_pos hb,if_pos (by rw[hb])];rfl
  ·rw[if_neg hb,if_neg fun h2=>hb (p2Z hφ h2)];rfl
theorem i4z(hφ:∀a b,φ a=φ b→a=b):∀(ps:List Ws) (e:Env),d1x (i1R φ e) (ps.map (i1Q φ))=(d1x e ps).map (i1R φ)
 | [],e=>rfl
 |b::ps,e=>by
  rw[List.map_cons,d1x,d1x,p0X hφ]
  cases d8S e b with
  |none=>rfl
  |some e'=>exact i4z hφ ps e'
theorem i7v(hφ:∀a b,φ a=φ b→a=b)(W:List Bs):∀(ws ys:List Bs),(∀x∈ws,φ x=x)→ptw W [] ws (ys.map φ)=(ptw W [] ws ys).map (List.map (i1Q φ))
 | [],ys,_=>by
   cases ys<;>simp[ptw]
 |x::ws,[],_=>by simp[ptw]
 |x::ws,y::ys,h=>by
  have ih:=i7v hφ W ws ys fun z hz=>h z (List.mem_cons_of_mem _ hz)
  have hx:=h x (List.mem_cons_self ..)
  rw[List.map_cons,ptw,ptw,if_neg List.not_mem_nil,if_neg List.not_mem_nil,ih]
  by_cases hw:x∈W
  ·rw[if_pos hw,if_pos hw]
   cases ptw W [] ws ys with
   |none=>rfl
   |some l=>rfl
  ·rw[if_neg hw,if_neg hw]
   by_cases e:x=y
   ·rw[if_pos e,if_pos (by rw[←e];exact hx.symm)]
   ·rw[if_neg e,if_neg fun e2=>e (hφ _ _ (hx.trans e2))];rfl
structure i2X(s:Wu):Prop where
 kind:s.form.kind=2
 subs:s.form.subs=[]
 parts:s.parts=[]
theorem i2X.part{s:Wu}(h:i2X s)(f:Lr):¬Yi s f:=fun e=>by
 have:=e.2
 rw[h.parts]at this
 cases this
theorem i2X.qs{s:Wu}(h:i2X s):qs s.form=[]:=by
 rw[p7U,h.subs,qsL,if_neg (q2 h.kind)];rfl
noncomputable def eF(s:Wu)(g:Lr):Option Env:=(pts s s.form [] g).bind (d1x [])
open Classical in
theorem p6x{s:Wu}(h:i2X s)(g:Lr):i4s s g=match eF s g with
 |none=>([],false)
 |some e=>((d3A s).map fun k=>⟨k.drop 1,txE e k,fmE e k⟩,true):=by
 unfold i4s eF
 cases (pts s s.form [] g).bind (d1x [])with
 |none=>rfl
 |some e=>
  have hc:¬caught s e:=fun⟨w,_,h2⟩=>by rw[h.qs]at h2;cases h2
  simp only[if_neg hc]
theorem p5v(hφ:∀a b,φ a=φ b→a=b){s:Wu}(h:i2X s)(hw:∀x∈s.form.words,φ x=x)(g:Lr):eF s (d5v φ g)=(eF s g).map (i1R φ):=by
 unfold eF
 have hq:¬QK s.form.kind:=q2 h.kind
 have key:pts s s.form [] (d5v φ g)=(pts s s.form [] g).map (List.map (i1Q φ)):=by
  rw[i4n,i4n,if_neg (h.part _),if_neg (h.part _),h.subs,d6m,d6m]
  have m1:(d5v φ g).kind=g.kind:=by rw[i5S];rfl
  have m2:(d5v φ g).words=g.words.map φ:=by rw[i5S];rfl
  have m3:(d5v φ g).name=if QK g.kind then φ g.name else g.name:=by rw[i5S];rfl
  rw[m1,m2,List.length_map]
  by_cases hk:s.form.kind≠g.kind∨s.form.words.length≠g.words.length
  ·rw[if_pos hk,if_pos hk];rfl
  ·rw[if_neg hk,if_neg hk]
   rw[not_or,Classical.not_not,Classical.not_not]at hk
   have hp:pth s s.form (d5v φ g)=(pth s s.form g).map (List.map (i1Q φ)):=by
    unfold pth
    rw[if_neg hq,if_neg hq,m3]
    have hn:(if QK g.kind then φ g.name else g.name)=g.name:=if_neg (by rw[←hk.1];exact hq)
    rw[hn]
    by_cases hp:s.form.kind=2∧s.form.name∈s.WO
    ·rw[if_pos hp]
     simp[i1Q]
    ·rw[if_neg hp]
     by_cases e:s.form.name=g.name
     ·rw[if_pos e];rfl
     ·rw[if_neg e];rfl
   rw[hp,i7v hφ _ _ _ hw]
   unfold cat
   cases pth s s.form g with
   |none=>rfl
   |some a=>
    cases ptw s.words [] s.form.words g.words with
    |none=>rfl
    |some b=>simp
 rw[key]
 cases pts s s.form [] g with
 |none=>rfl
 |some ps=>exact i4z hφ ps []
end
section
variable {φ:Bs→Bs}
mutual
theorem i7w(N:Nat→Bs):∀(f:Lr) (env:List (Bs×Bs)) (i:Nat),(∀x,fre f (env.map (·.1)) x→φ x=x)→d5v φ (ren N f env i)=ren (fun j=>φ (N j)) f (env.map fun p=>(p.1,φ p.2)) i
 | .mk k n w s,env,i,hf=>by
   have e1:(w.map (sub env)).map φ=w.map (sub (env.map fun p=>(p.1,φ p.2))):=by
    rw[List.map_map]
    refine List.map_congr_left fun x hx=>?_
    show φ (sub env x)=_
    by_cases hm:x∈env.map (·.1)
    ·have:∀l:List (Bs×Bs),x∈l.map (·.1)→φ (sub l x)=sub (l.map fun p=>(p.1,φ p.2)) x:=fun l=>by
      induction l with
      |nil=>intro h;cases h
      |cons p l ih=>
       intro h
       obtain⟨a,b⟩:=p
       rw[List.map_cons,Ye,Ye]
       by_cases e:a=x
       ·rw[if_pos e,if_pos e]
       ·rw[if_neg e,if_neg e]
        rw[List.map_cons,List.mem_cons]at h
        exact ih (h.elim (fun h=>absurd h.symm e) id)
     exact this env hm
    ·have hm2:x∉ (env.map fun p=>(p.1,φ p.2)).map (·.1):=fun h=>hm (by
      rw[List.map_map]at h
      obtain⟨p,hp,e⟩:=List.mem_map.1 h
      exact List.mem_map.2 ⟨p,hp,e⟩)
     rw[d6V fun p hp e=>hm (List.mem_map.2 ⟨p,hp,e⟩),d6V fun p hp e=>hm2 (List.mem_map.2 ⟨p,hp,e⟩)]
     exact hf x (by rw[fre];exact .inl ⟨hx,hm⟩)
   rw[ren,d5v,ren,e1]
   by_cases hq:QK k
   ·simp only[if_pos hq]
    rw[d8s N s _ (i+1) (fun x hx=>hf x (by rw[fre,if_pos hq];exact .inr hx)),List.map_cons]
   ·simp only[if_neg hq]
    rw[d8s N s _ (i+0) (fun x hx=>hf x (by rw[fre,if_neg hq];exact .inr hx))]
theorem d8s(N:Nat→Bs):∀(l:List Lr) (env:List (Bs×Bs)) (i:Nat),(∀x,d0x l (env.map (·.1)) x→φ x=x)→d1F φ (Yu N l env i)=Yu (fun j=>φ (N j)) l (env.map fun p=>(p.1,φ p.2)) i
 | [],env,i,_=>by rw[Yu,d1F,Yu]
 |f::l,env,i,hf=>by rw[Yu,d1F,Yu,i7w N f env i (fun x hx=>hf x (by rw[d0x];exact .inl hx)),d8s N l env _ (fun x hx=>hf x (by rw[d0x];exact .inr hx))]
end
end
mutual
def prF(h:Bs→Bs):Lr→Lr
 | .mk k n w s=>.mk k (if k=2 then h n else n) w (i1S h s)
def i1S(h:Bs→Bs):List Lr→List Lr
 | []=>[]
 |f::l=>prF h f::i1S h l
end
section
variable (h:Bs→Bs)
theorem i2Y:∀l:List Lr,i1S h l=l.map (prF h)
 | []=>by rw[i1S];rfl
 |f::l=>by rw[i1S,i2Y l];rfl
mutual
theorem p8n:∀f:Lr,ndF (prF h f)=ndF f
 | .mk k n w s=>by rw[prF,ndF,ndF,p0Y s]
theorem p0Y:∀l:List Lr,Zr (i1S h l)=Zr l
 | []=>by rw[i1S]
 |f::l=>by rw[i1S,Zr,Zr,p8n f,p0Y l]
end
mutual
theorem p8o:∀f:Lr,dpF (prF h f)=dpF f
 | .mk k n w s=>by rw[prF,dpF,dpF,p0Z s]
theorem p0Z:∀l:List Lr,d3U (i1S h l)=d3U l
 | []=>by rw[i1S]
 |f::l=>by rw[i1S,d3U,d3U,p8o f,p0Z l]
end
mutual
theorem p8p:∀f:Lr,nq (prF h f)=nq f
 | .mk k n w s=>by rw[prF,nq,nq,p1a s]
theorem p1a:∀l:List Lr,nqL (i1S h l)=nqL l
 | []=>by rw[i1S]
 |f::l=>by rw[i1S,nqL,nqL,p8p f,p1a l]
end
mutual
theorem i5V:∀(f:Lr) (bd:List Bs) (x:Bs),fre (prF h f) bd x↔fre f bd x
 | .mk k n w s,bd,x=>by
   rw[prF,fre,fre]
   by_cases hq:QK k
   ·rw[if_neg (fun e=>q2 e hq),i2Z s]
   ·simp only[if_neg hq]
    rw[i2Z s]
theorem i2Z:∀(l:List Lr) (bd:List Bs) (x:Bs),d0x (i1S h l) bd x↔d0x l bd x
 | [],bd,x=>by rw[i1S]
 |f::l,bd,x=>by rw[i1S,d0x,d0x,i5V f,i2Z l]
end
end
noncomputable def i4M:List Wq→Lr→Option (Wq×Env)
 | [],_=>none
 |r::rs,f=>match eF r.from_ f with
  |some e=>some (r,e)
  |none=>i4M rs f
def bp(s:Wu)(e:Env)(n:Bs):Bs:=if n∈s.WO then txE e (33::n)else n
def p9d(s:Wu)(e:Env):List (Bs×Bs):=s.words.map fun w=>(w,txE e (46::w))
def inst(r:Wq)(e:Env)(c:Nat):Lr:=ren (fun j=>qn (c+j)) (prF (bp r.from_ e) r.to_) (p9d r.from_ e) 0
section
variable (rs:List Wq)
mutual
noncomputable def nR:Lr→Nat
 | .mk k n w s=>match i4M rs (.mk k n w s)with
   |some p=>nq p.1.to_
   |none=>nRL s
noncomputable def nRL:List Lr→Nat
 | []=>0
 |f::l=>nR f+nRL l
end
mutual
noncomputable def RP:Lr→Nat→Lr
 | .mk k n w s,c=>match i4M rs (.mk k n w s)with
   |some p=>inst p.1 p.2 c
   |none=>.mk k n w (RPL s c)
noncomputable def RPL:List Lr→Nat→List Lr
 | [],_=>[]
 |f::l,c=>RP f c::RPL l (c+nR rs f)
end
theorem r0r(f:Lr):nR rs f=match i4M rs f with|some p=>nq p.1.to_|none=>nRL rs f.subs:=by cases f;rw[nR];rfl
theorem r0s(f:Lr)(c:Nat):RP rs f c=match i4M rs f with|some p=>inst p.1 p.2 c|none=>.mk f.kind f.name f.words (RPL rs f.subs c):=by cases f;rw[RP];rfl
end
structure p6y(φ:Bs→Bs)(rs:List Wq):Prop where
 inj:∀a b,φ a=φ b→a=b
 nil:φ []=[]
 pred:∀r∈rs,i2X r.from_
 frm:∀r∈rs,∀x∈r.from_.form.words,φ x=x
 tow:∀r∈rs,∀x,fre r.to_ [] x→φ x=x
section
variable {φ:Bs→Bs} {rs:List Wq}
theorem i0J:∀ {rs:List Wq} (_:p6y φ rs) (f:Lr),i4M rs (d5v φ f)=(i4M rs f).map fun p=>(p.1,i1R φ p.2)
 | [],_,f=>rfl
 |r::rs,h,f=>by
  have ih:=i0J (rs:=rs) ⟨h.inj,h.nil,fun r hr=>h.pred r (List.mem_cons_of_mem _ hr),fun r hr=>h.frm r (List.mem_cons_of_mem _ hr),fun r hr=>h.tow r (List.mem_cons_of_mem _ hr)⟩ f
  rw[i4M,i4M,p5v h.inj (h.pred r (List.mem_cons_self ..)) (h.frm r (List.mem_cons_self ..))]
  cases eF r.from_ f with
  |none=>exact ih
  |some e=>rfl
theorem d9p:∀ {rs:List Wq} {f:Lr} {p:Wq×Env},i4M rs f=some p→p.1∈rs∧eF p.1.from_ f=some p.2
 | [],f,p,h=>by cases h
 |r::rs,f,p,h=>by
  rw[i4M]at h
  cases he:eF r.from_ f with
  |none=>
   rw[he]at h
   obtain⟨h1,h2⟩:=d9p (rs:=rs) h
   exact⟨List.mem_cons_of_mem _ h1,h2⟩
  |some e=>
   rw[he]at h
   cases h
   exact⟨List.mem_cons_self ..,he⟩
theorem i7x(h0:φ []=[])(e:Env)(hn:∀k b,assoc k e=some b→b.name=k)(k:Bs):txE (i1R φ e) k=if k.head? =some 46 then φ (txE e k)else txE e k:=by
 unfold txE
 rw[d8r]
 cases h:assoc k e with
 |none=>
  show(default:Ws).text=if k.head? =some 46 then φ (default:Ws).text else(default:Ws).text
  have:(default:Ws).text=[]:=rfl
  rw[this,h0];simp
 |some b=>
  show(i1Q φ b).text=if k.head? =some 46 then φ b.text else b.text
  unfold i1Q
  rw[hn k b h]
theorem p1b(h:p6y φ rs){r:Wq}(hr:r∈rs){e:Env}(hn:∀k b,assoc k e=some b→b.name=k){c c':Nat}(hc:∀j,φ (qn (c+j))=qn (c'+j)):inst r (i1R φ e) c'=d5v φ (inst r e c):=by
 have hb:bp r.from_ (i1R φ e)=bp r.from_ e:=by
  funext n
  unfold bp
  rw[i7x h.nil e hn,if_neg (show ¬(33::n:Bs).head? =some 46 from fun e=>by cases e)]
 have hw:p9d r.from_ (i1R φ e)=(p9d r.from_ e).map fun p=>(p.1,φ p.2):=by
  unfold p9d
  rw[List.map_map]
  refine List.map_congr_left fun w _=>?_
  rw[i7x h.nil e hn,if_pos (show(46::w:Bs).head? =some 46 from rfl)];rfl
 unfold inst
 rw[hb,hw,i7w]
 ·simp only[hc]
 ·intro x hx
  rw[i5V]at hx
  refine h.tow r hr x ?_
  have:∀(m:Nat) (f:Lr),SizeOf.sizeOf f≤m→∀(bd bd':List Bs) (x:Bs),(∀y∈bd',y∈bd)→fre f bd x→fre f bd' x:=by
   intro m
   induction m with
   |zero=>intro f h;cases f;simp only[Lr.mk.sizeOf_spec]at h;omega
   |succ m ih=>
    intro f hf bd bd' x hs hx
    have hL:∀l:List Lr,(∀y∈l,SizeOf.sizeOf y≤m)→∀(bd bd':List Bs),(∀y∈bd',y∈bd)→d0x l bd x→d0x l bd' x:=by
     intro l
     induction l with
     |nil=>intro _ bd bd' _ h;rw[d0x]at h;exact h.elim
     |cons a l ihl=>
      intro hl bd bd' hs h
      rw[d0x]at h⊢
      exact h.elim (fun h=>.inl (ih a (hl a (List.mem_cons_self ..)) bd bd' x hs h)) fun h=>.inr (ihl (fun y hy=>hl y (List.mem_cons_of_mem _ hy)) bd bd' hs h)
    rw[i4d]at hx⊢
    rcases hx with⟨h1,h2⟩|hx
    ·exact .inl ⟨h1,fun h3=>h2 (hs x h3)⟩
    ·refine .inr (hL f.subs (fun y hy=>?_) _ _ (fun y hy=>?_) hx)
     ·obtain⟨j,hj,rfl⟩:=d1g.1 hy
      have:=XE hj
      omega
     ·by_cases hq:QK f.kind
      ·rw[if_pos hq]at hy⊢
       rcases List.mem_cons.1 hy with rfl|hy
       ·exact List.mem_cons_self ..
       ·exact List.mem_cons_of_mem _ (hs y hy)
      ·rw[if_neg hq]at hy ⊢; exact hs y hy
  exact this _ _ (Nat.le_refl _) _ [] x (fun y hy=>by cases hy) hx
theorem p3a{s:Wu}{g:Lr}(hg:SmF g){e:Env}(h:eF s g=some e):∀k b,assoc k e=some b→b.name=k:=by
 have i8E:d5p e:=by
  unfold eF at h
  cases hq:pts s s.form [] g with
  |none=>rw[hq]at h;cases h
  |some ps=>rw[hq]at h;exact i2M (fun k b h=>by cases h) (i4o s _ _ _ hg ps hq) h
 exact fun k b hb=>(i8E k b hb).1
mutual
theorem p1c(h:p6y φ rs):∀f:Lr,nR rs (d5v φ f)=nR rs f
 | .mk k n w s=>by
   have e1:nR rs (d5v φ (.mk k n w s))=_:=r0r rs _
   rw[e1,i0J h,nR]
   cases i4M rs (.mk k n w s)with
   |none=>
    show nRL rs (d5v φ (.mk k n w s)).subs=nRL rs s
    rw[d5v]
    exact i7y h s
   |some p=>rfl
theorem i7y(h:p6y φ rs):∀l:List Lr,nRL rs (d1F φ l)=nRL rs l
 | []=>by rw[d1F]
 |f::l=>by rw[d1F,nRL,nRL,p1c h f,i7y h l]
end
mutual
theorem p5w(h:p6y φ rs):∀(f:Lr),SmF f→∀(c c':Nat),(∀j,φ (qn (c+j))=qn (c'+j))→RP rs (d5v φ f) c'=d5v φ (RP rs f c)
 | .mk k n w s,hs,c,c',hc=>by
   have e1:RP rs (d5v φ (.mk k n w s)) c'=_:=r0s rs _ _
   rw[e1,i0J h,RP]
   cases hm:i4M rs (.mk k n w s)with
   |none=>
    show Lr.mk _ _ _ (RPL rs (d5v φ (.mk k n w s)).subs c')=d5v φ (.mk k n w (RPL rs s c))
    rw[SmF]at hs
    rw[d5v,d5v]
    show Lr.mk k _ _ (RPL rs (d1F φ s) c')=_
    rw[i7z h s hs.2.2 c c' hc];rfl
   |some p=>
    obtain⟨h1,h2⟩:=d9p hm
    exact p1b h h1 (p3a hs h2) hc
theorem i7z(h:p6y φ rs):∀(l:List Lr),d8l l→∀(c c':Nat),(∀j,φ (qn (c+j))=qn (c'+j))→RPL rs (d1F φ l) c'=d1F φ (RPL rs l c)
 | [],_,c,c',_=>by rw[d1F,RPL,RPL,d1F]
 |f::l,hs,c,c',hc=>by
  rw[d8l]at hs
  rw[d1F,RPL,RPL,d1F,p5w h f hs.1 c c' hc,p1c h f,i7z h l hs.2 (c+nR rs f) (c'+nR rs f) (fun j=>by rw[Nat.add_assoc,hc,Nat.add_assoc])]
end
end
mutual
theorem d8K(N:Nat→Bs):∀(f:Lr) (env:List (Bs×Bs)) (bd:List Bs) (i:Nat) (x:Bs),fre (ren N f env i) bd x→x∉bd∧((∃p∈env,x=p.2)∨fre f (env.map (·.1)) x)
 | .mk k n w s,env,bd,i,x,h=>by
   refine⟨p0w _ _ _ h,?_⟩
   rw[ren,fre]at h
   rw[fre]
   rcases h with⟨h1,h2⟩|h
   ·obtain⟨y,hy,rfl⟩:=List.mem_map.1 h1
    by_cases hm:y∈env.map (·.1)
    ·obtain⟨p,hp,e⟩:=i7f hm
     exact .inl ⟨p,hp,e⟩
    ·rw[d6V fun p hp e=>hm (List.mem_map.2 ⟨p,hp,e⟩)]
     exact .inr (.inl ⟨hy,hm⟩)
   ·by_cases hq:QK k
    ·simp only[if_pos hq]at h⊢
     obtain⟨h1,h2⟩:=d5q N s _ _ _ x h
     rcases h2 with⟨p,hp,e⟩|h2
     ·rcases List.mem_cons.1 hp with rfl|hp
      ·exact absurd (List.mem_cons.2 (.inl e)) h1
      ·exact .inl ⟨p,hp,e⟩
     ·rw[List.map_cons]at h2
      exact .inr (.inr h2)
    ·simp only[if_neg hq]at h⊢
     obtain⟨_,h2⟩:=d5q N s _ _ _ x h
     exact h2.elim .inl fun h=>.inr (.inr h)
theorem d5q(N:Nat→Bs):∀(l:List Lr) (env:List (Bs×Bs)) (bd:List Bs) (i:Nat) (x:Bs),d0x (Yu N l env i) bd x→x∉bd∧((∃p∈env,x=p.2)∨d0x l (env.map (·.1)) x)
 | [],env,bd,i,x,h=>by rw[Yu,d0x]at h;exact h.elim
 |f::l,env,bd,i,x,h=>by
  rw[Yu,d0x]at h
  rw[d0x]
  rcases h with h|h
  ·obtain⟨h1,h2⟩:=d8K N f env bd _ x h
   exact⟨h1,h2.elim .inl fun h=>.inr (.inl h)⟩
  ·obtain⟨h1,h2⟩:=d5q N l env bd _ x h
   exact⟨h1,h2.elim .inl fun h=>.inr (.inr h)⟩
end
theorem i5W(W:List Bs):∀(ws ys:List Bs) (l:List Ws),ws.length=ys.length→ptw W [] ws ys=some l→∀x∈ws,x∈W→∃y∈ys,(⟨46::x,y,zf⟩:Ws)∈l
 | [],ys,l,_,_,x,hx,_=>by cases hx
 |a::ws,[],l,hl,_,x,_,_=>by simp at hl
 |a::ws,b::ys,l,hl,h,x,hx,hW=>by
  rw[ptw,if_neg List.not_mem_nil]at h
  have hl':ws.length=ys.length:=by simpa using hl
  by_cases ha:a∈W
  ·rw[if_pos ha]at h
   cases hp:ptw W [] ws ys with
   |none=>rw[hp]at h;cases h
   |some l'=>
    rw[hp]at h
    cases h
    rcases List.mem_cons.1 hx with rfl|hx
    ·exact⟨b,List.mem_cons_self ..,List.mem_cons_self ..⟩
    ·obtain⟨y,h1,h2⟩:=i5W W ws ys l' hl' hp x hx hW
     exact⟨y,List.mem_cons_of_mem _ h1,List.mem_cons_of_mem _ h2⟩
  ·rw[if_neg ha]at h
   by_cases e:a=b
   ·rw[if_pos e]at h
    rcases List.mem_cons.1 hx with rfl|hx
    ·exact absurd hW ha
    ·obtain⟨y,h1,h2⟩:=i5W W ws ys l hl' h x hx hW
     exact⟨y,List.mem_cons_of_mem _ h1,h2⟩
   ·rw[if_neg e]at h;cases h
theorem p3b{s:Wu}(hs:i2X s){g:Lr}{e:Env}(h:eF s g=some e){x:Bs}(h1:x∈s.words)(h2:x∈s.form.words):txE e (46::x)∈g.words:=by
 unfold eF at h
 rw[i4n,if_neg (hs.part _),hs.subs,d6m]at h
 by_cases hk:s.form.kind≠g.kind∨s.form.words.length≠g.words.length
 ·rw[if_pos hk]at h;cases h
 rw[if_neg hk]at h
 rw[not_or,Classical.not_not,Classical.not_not]at hk
 cases hp:pth s s.form g with
 |none=>rw[hp]at h;cases h
 |some a=>
  cases hw:ptw s.words [] s.form.words g.words with
  |none=>rw[hp,hw]at h;cases h
  |some b=>
   rw[hp,hw]at h
   have h:d1x [] (a++(b++[]))=some e:=h
   obtain⟨y,hy,hm⟩:=i5W _ _ _ _ hk.2 hw x h2 h1
   have:=(d4u _ _ _ h).1 _ (List.mem_append.2 (.inr (List.mem_append.2 (.inl hm))))
   have this:assoc (46::x) e=some ⟨46::x,y,zf⟩:=this
   unfold txE
   rw[this]
   exact hy
structure i5X(r:Wq):Prop where
 pred:i2X r.from_
 good:d6s r.from_
 to:OkF r.to_
theorem i5X.words{r:Wq}(h:i5X r){x:Bs}(hx:x∈r.from_.words):x∈r.from_.form.words:=by
 have:=h.good.words x hx
 rw[i4d,h.pred.subs]at this
 rcases this with h|h
 ·exact h.1
 ·rw[d0x]at h;exact h.elim
section
variable {rs:List Wq}
theorem p3c(hr:∀r∈rs,i5X r){g:Lr}{p:Wq×Env}(hm:i4M rs g=some p)(c:Nat)(bd:List Bs)(x:Bs)(h:fre (inst p.1 p.2 c) bd x):fre g bd x∨Xn x:=by
 obtain⟨h1,h2⟩:=d9p hm
 have hp:=hr _ h1
 unfold inst at h
 obtain⟨h3,h4⟩:=d8K _ _ _ _ _ _ h
 rcases h4 with⟨q,hq,rfl⟩|h4
 ·obtain⟨w,hw,rfl⟩:=List.mem_map.1 hq
  left
  rw[i4d]
  exact .inl ⟨p3b hp.pred h2 hw (hp.words hw),h3⟩
 ·right
  rw[i5V]at h4
  exact i6X _ hp.to.1 _ x h4
mutual
theorem p8q(hr:∀r∈rs,i5X r):∀(f:Lr) (c:Nat) (bd:List Bs) (x:Bs),fre (RP rs f c) bd x→fre f bd x∨Xn x
 | .mk k n w s,c,bd,x,h=>by
   rw[RP]at h
   cases hm:i4M rs (.mk k n w s)with
   |some p=>
    rw[hm]at h
    exact p3c hr hm c bd x h
   |none=>
    rw[hm]at h
    have h:fre (.mk k n w (RPL rs s c)) bd x:=h
    rw[fre]at h⊢
    rcases h with h|h
    ·exact .inl (.inl h)
    ·exact(p1d hr s c _ x h).elim (fun h=>.inl (.inr h)) .inr
theorem p1d(hr:∀r∈rs,i5X r):∀(l:List Lr) (c:Nat) (bd:List Bs) (x:Bs),d0x (RPL rs l c) bd x→d0x l bd x∨Xn x
 | [],c,bd,x,h=>by rw[RPL]at h;exact .inl h
 |f::l,c,bd,x,h=>by
  rw[RPL,d0x]at h
  rw[d0x]
  rcases h with h|h
  ·exact(p8q hr f c bd x h).elim (fun h=>.inl (.inl h)) .inr
  ·exact(p1d hr l _ bd x h).elim (fun h=>.inl (.inr h)) .inr
end
end
open Classical in
noncomputable def phi(σ:Nat→Nat)(w:Bs):Bs:=if h:∃i,w=qn i then qn (σ h.choose)else w
theorem p1e(σ:Nat→Nat)(i:Nat):phi σ (qn i)=qn (σ i):=by
 unfold phi
 have h:∃j,qn i=qn j:=⟨i,rfl⟩
 rw[dif_pos h]
 congr 2
 exact(p3U _ _ h.choose_spec).symm
theorem i3a(σ:Nat→Nat){w:Bs}(h:∀i,w≠qn i):phi σ w=w:=by
 unfold phi
 rw[dif_neg fun⟨i,e⟩=>h i e]
theorem i7A(σ:Nat→Nat){w:Bs}(h:Xn w):phi σ w=w:=i3a σ fun i e=>p5m i (e▸h)
theorem p1f{σ:Nat→Nat}(hσ:∀i j,σ i=σ j→i=j)(a b:Bs)(h:phi σ a=phi σ b):a=b:=by
 by_cases ha:∃i,a=qn i
 ·obtain⟨i,rfl⟩:=ha
  rw[p1e]at h
  by_cases hb:∃j,b=qn j
  ·obtain⟨j,rfl⟩:=hb
   rw[p1e]at h
   rw[hσ _ _ (p3U _ _ h)]
  ·rw[i3a σ fun i e=>hb ⟨i,e⟩]at h
   exact absurd ⟨_,h.symm⟩ hb
 ·rw[i3a σ fun i e=>ha ⟨i,e⟩]at h
  by_cases hb:∃j,b=qn j
  ·obtain⟨j,rfl⟩:=hb
   rw[p1e]at h
   exact absurd ⟨_,h⟩ ha
  ·rw[i3a σ fun i e=>hb ⟨i,e⟩]at h
   exact h
mutual
theorem p1g{N N':Nat→Bs}:∀(f:Lr) (env:List (Bs×Bs)) (i j:Nat),(∀k,k<nq f→N (i+k)=N' (j+k))→ren N f env i=ren N' f env j
 | .mk k n w s,env,i,j,h=>by
   rw[nq]at h
   rw[ren,ren]
   by_cases hq:QK k
   ·simp only[if_pos hq]at h⊢
    have h0:N i=N' j:=h 0 (by omega)
    rw[h0,d8t s _ (i+1) (j+1) fun k hk=>by rw[Nat.add_assoc,Nat.add_assoc];exact h _ (by omega)]
   ·simp only[if_neg hq]at h⊢
    rw[d8t s _ (i+0) (j+0) fun k hk=>by rw[Nat.add_zero,Nat.add_zero];exact h _ (by omega)]
theorem d8t{N N':Nat→Bs}:∀(l:List Lr) (env:List (Bs×Bs)) (i j:Nat),(∀k,k<nqL l→N (i+k)=N' (j+k))→Yu N l env i=Yu N' l env j
 | [],env,i,j,_=>by rw[Yu,Yu]
 |f::l,env,i,j,h=>by
  rw[nqL]at h
  rw[Yu,Yu,p1g f env i j fun k hk=>h k (by omega),d8t l env (i+nq f) (j+nq f) fun k hk=>by rw[Nat.add_assoc,Nat.add_assoc];exact h _ (by omega)]
end
end Go.Proofs.YtfacbpehlibilaaGreatDoor
