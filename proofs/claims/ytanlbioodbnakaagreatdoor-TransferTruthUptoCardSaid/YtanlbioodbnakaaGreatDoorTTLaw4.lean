import Derived.Test.YtanlbioodbnakaaGreatDoorTTLaw3
set_option linter.unusedVariables false
set_option linter.unusedSimpArgs false
namespace Go.Proofs.YtanlbioodbnakaaGreatDoor
open Go Go.Am
theorem BG{f:u5}(h:SmF f):f.words.length≤3:=((uR f).1 h).1
theorem sV{f:u5}(h:SmF f):f.subs.length≤2:=((uR f).1 h).2.1
theorem sW{f:u5}(h:SmF f){k:Nat}(hk:k<f.subs.length):SmF (Am.get f.subs k):=qR ((uR f).1 h).2.2 _ (get_mem hk)
theorem Ac:∀(m:Nat) (f:u5),SizeOf.sizeOf f≤m→SmF f→∀(bd l:List Bs),bd.length+ndF f≤100000→l.length+3*ndF f≤300000→
 Evt (fun n=>F0 n f bd l) (fun r=>(∀x,x∈r↔x∈l∨fre f bd x)∧r.length≤l.length+3*ndF f):=by
 intro m
 induction m with
 |zero=>intro f h;cases f;simp only[u5.mk.sizeOf_spec]at h;omega
 |succ m ih=>
  intro f hf hwf bd l hbd hl
  have hnd:=sK f
  have hws:=BG hwf
  refine Evt.succ ?_
  simp only[F0]
  refine Evt.C2 (P:=ExP (fun t=>(∀x,x∈t↔x∈l∨(x∈f.words∧x∉bd))∧t.length≤l.length+3) (fun _=>False)) ((Evt.range (fun k s=>(∀x,x∈s↔x∈l∨(x∈f.words.take k∧x∉bd))∧s.length≤l.length+k) (fun _=>False) (fun _=>False) ⟨fun x=>by simp,by omega⟩ (fun k s hk hi=>?_)).mono fun e he=>?_) (fun t ht=>?_) (fun _ h=>h.elim)
  ·unfold R2
   simp only[J8,Option.bind_some]
   refine Evt.cond (fun e=>Evt.P6 (Evt.chk ?_ (Evt.pure ⟨fun x=>?_,?_⟩))) (fun e=>Evt.pure ⟨fun x=>?_,by omega⟩)
   ·rw[M0];simp only[List.length_append,List.length_cons,List.length_nil];omega
   ·replace e:=bx e
    rw[List.mem_append,hi.1 x,F8 hk,List.mem_append,List.mem_singleton]
    by_cases hx:x=Am.get f.words k
    ·subst hx;simp[e]
    ·simp[hx]
   ·simp only[List.length_append,List.length_cons,List.length_nil];omega
   ·replace e:=bx e
    rw[hi.1 x,F8 hk,List.mem_append,List.mem_singleton]
    by_cases hx:x=Am.get f.words k
    ·subst hx;simp[e]
    ·simp[hx]
  ·cases e with
   |ret r=>exact he
   |nxt t=>
    obtain⟨h1,h2⟩:=he.elim id False.elim
    rw[List.take_length]at h1
    exact⟨h1,by omega⟩
  ·obtain⟨h1,h2⟩:=ht
   have key:∀bd':List Bs,(∀y,y∈bd'↔y∈(if QK f.kind then f.name::bd else bd))→bd'.length≤bd.length+1→Evt (fun n=>G8 (F0 n) f t bd') (fun r=>(∀x,x∈r↔x∈l∨fre f bd x)∧r.length≤l.length+3*ndF f):=by
    intro bd' hb hbl
    unfold G8
    refine Evt.C2 (P:=ExP (fun r=>(∀x,x∈r↔x∈t∨eP f.subs bd' x)∧r.length≤t.length+3*bT f.subs) (fun _=>False)) ((Evt.range (fun k s=>(∀x,x∈s↔x∈t∨eP (f.subs.take k) bd' x)∧s.length≤t.length+3*bT (f.subs.take k)) (fun _=>False) (fun _=>False) ⟨fun x=>by simp[eP],by omega⟩ (fun k s hk hi=>?_)).mono fun e he=>?_) (fun r hr=>?_) (fun _ h=>h.elim)
    ·unfold R3
     have hsz:=J6 hk
     have htk:=gR hk
     refine Evt.bind (ih _ (by omega) (sW hwf hk) bd' s (by omega) (by omega)) fun v hv=>Evt.pure ⟨fun x=>?_,?_⟩
     ·rw[hv.1 x,hi.1 x,F8 hk,yh,or_assoc]
     ·rw[F8 hk,lP]
      have:=hv.2
      have:=hi.2
      omega
    ·cases e with
     |ret r=>exact he
     |nxt r=>
      have:=he.elim id False.elim
      rw[List.take_length]at this
      exact this
    ·obtain⟨h3,h4⟩:=hr
     unfold R4
     refine Evt.pure ⟨fun x=>?_,by omega⟩
     rw[h3 x,h1 x,Jq,mw f.subs _ _ hb x,or_assoc]
   unfold R5
   simp only[dc,Option.bind_some]
   refine Evt.cond (fun e=>Evt.chk (by omega) (Evt.P6 (Evt.chk ?_ (key _ (fun y=>?_) ?_)))) (fun e=>key _ (fun y=>?_) (by omega))
   ·rw[M0];simp only[List.length_append,List.length_cons,List.length_nil];omega
   ·replace e:=bx e
    rw[if_pos e];simp[or_comm]
   ·simp
   ·replace e:=bx e
    rw[if_neg e]
theorem wu{f:u5}(hwf:SmF f)(hn:ndF f≤50000):Evt (fun n=>K3 n f) (fun r=>(∀x,x∈r↔fre f [] x)∧r.length≤3*ndF f):=by
 unfold K3
 refine Evt.bind (Ac _ f (Nat.le_refl _) hwf [] [] (by simp;omega) (by simp;omega)) fun v hv=>?_
 obtain⟨h1,h2⟩:=hv
 simp only[List.length_nil,Nat.zero_add]at h2
 unfold H6 K2
 have hlen:(jT cfB v).length=v.length:=(cu cfB v).length_eq
 refine Evt.bind (Evt.chk (by omega) (Evt.pure (P:=fun r=>r=jT cfB v) rfl)) fun r hr=>?_
 subst hr
 refine Evt.bind (Evt.chk (by omega) (Evt.pure (P:=fun r=>True) trivial)) fun _ _=>Evt.pure ⟨fun x=>?_,?_⟩
 ·rw[sM,(cu cfB v).mem_iff,h1 x]
  simp
 ·have:=Lib.compact_length_le (jT cfB v)
  omega
theorem Ad{p:Bs→Prop}{C:List Bs}(hC:∀x,x∈C↔p x)(hCl:C.length≤10000):∀(m:Nat) (f:u5),SizeOf.sizeOf f≤m→SmF f→∀(env:List B3) (i b:Nat),env.length+ndF f≤100000→i+nq f≤1000→nx p b=num p i→
 Evt (fun n=>M1 n f env (b:Int) C) (fun r=>r.1=ren (NN p) f (zU env) i∧∃b':Nat,r.2=(b':Int)∧nx p b'=num p (i+nq f)):=by
 intro m
 have hC2:∀x,p x→x∈C:=fun x=>(hC x).2
 induction m with
 |zero=>intro f h;cases f;simp only[u5.mk.sizeOf_spec]at h;omega
 |succ m ih=>
  intro f hf hwf env i b Iv hi hb
  have hnd:=sK f
  have hws:=BG hwf
  have hsl:=sV hwf
  have hnq:=KD f
  refine Evt.succ ?_
  simp only[M1]
  refine Evt.C2 (P:=ExP (fun t=>t=f.words.map (sub (zU env))) (fun _=>False)) ((Evt.range (fun k s=>s=(f.words.take k).map (sub (zU env))) (fun _=>False) (fun _=>False) (by simp) (fun k s hk hs=>?_)).mono fun e he=>?_) (fun t ht=>?_) (fun _ h=>h.elim)
  ·unfold cw
   refine Evt.C2 (QY (fun k=>(Am.get env k).from_) (fun k=>(Am.get env k).to_) env.length (by omega) (Am.get f.words k) (aq env f k) (fun j hj=>?_) rfl) (fun t ht=>?_) (fun _ h=>h.elim)
   ·unfold aq
    have e1:decide (0≤(j:Int))=true:=decide_eq_true (by omega)
    rw[e1,cond_true,vP (by omega)]
    rfl
   ·unfold cx
    refine Evt.P6 (Evt.chk ?_ (Evt.pure ?_))
    ·subst hs
     rw[M0];simp only[List.length_append,List.length_map,List.length_take,List.length_cons,List.length_nil];omega
    ·show _=_
     have ht:t=sub (zU env) (Am.get f.words k):=ht
     rw[hs,ht,F8 hk,List.map_append];rfl
  ·cases e with
   |ret r=>exact he
   |nxt t=>
    have:=he.elim id False.elim
    rw[List.take_length]at this
    exact this
  ·subst ht
   have key:∀(env':List B3) (nm:Bs) (j c:Nat),nm=(if QK f.kind then NN p i else f.name)→zU env'=(if QK f.kind then(f.name,NN p i)::zU env else zU env)→j=i+(if QK f.kind then 1 else 0)→nx p c=num p j→env'.length≤env.length+1→
    Evt (fun n=>S8 (M1 n) f C (f.words.map (sub (zU env))) ((c:Int),nm,env')) (fun r=>r.1=ren (NN p) f (zU env) i∧∃b':Nat,r.2=(b':Int)∧nx p b'=num p (i+nq f)):=by
    intro env' nm j c hnm Rc hj hc hlen
    have hjn:j+nqL f.subs=i+nq f:=by omega
    unfold S8
    refine Evt.C2 (P:=ExP (fun t=>t.2=O8 (NN p) f.subs (zU env') j∧∃b':Nat,t.1=(b':Int)∧nx p b'=num p (j+nqL f.subs)) (fun _=>False)) ((Evt.range (fun k s=>s.2=O8 (NN p) (f.subs.take k) (zU env') j∧∃b':Nat,s.1=(b':Int)∧nx p b'=num p (j+nqL (f.subs.take k))) (fun _=>False) (fun _=>False) ⟨by simp[O8],c,rfl,by simpa[nqL]using hc⟩ (fun k s hk hs=>?_)).mono fun e he=>?_) (fun t ht=>?_) (fun _ h=>h.elim)
    ·obtain⟨hs1,b',hs2,hs3⟩:=hs
     unfold cA
     have hsz:=J6 hk
     have htk:=gR hk
     have hqk:=oJ hk
     refine Evt.bind (P:=fun r=>r.1=ren (NN p) (Am.get f.subs k) (zU env') (j+nqL (f.subs.take k))∧∃b'':Nat,r.2=(b'':Int)∧nx p b''=num p (j+nqL (f.subs.take k)+nq (Am.get f.subs k))) ?_ fun v hv=>Evt.P6 (Evt.chk ?_ (Evt.pure ?_))
     ·rw[hs2]
      exact ih _ (by omega) (sW hwf hk) env' _ b' (by omega) (by omega) hs3
     ·rw[M0,hs1];simp only[List.length_append,gy,List.length_take,List.length_cons,List.length_nil];omega
     ·obtain⟨hv1,b'',hv2,hv3⟩:=hv
      refine⟨?_,b'',hv2,?_⟩
      ·show s.2++[v.1]=_
       rw[hs1,hv1,F8 hk,jV]
      ·rw[hv3,F8 hk,kF,Nat.add_assoc]
    ·cases e with
     |ret r=>exact he
     |nxt t=>
      have:=he.elim id False.elim
      rw[List.take_length]at this
      exact this
    ·obtain⟨ht1,b',ht2,ht3⟩:=ht
     unfold cB
     refine Evt.pure ⟨?_,b',ht2,by rw[ht3,hjn]⟩
     show u5.mk _ _ _ _=_
     rw[yd,ht1,hnm,Rc,hj]
   unfold cC
   simp only[dc,Option.bind_some]
   have hbl:=(CW hC2 b).1
   have hnl:=Fv hC2 10000 hCl i
   refine Evt.cond (fun e=>?_) (fun e=>?_)
   ·replace e:=bx e
    rw[if_pos e]at hnq
    refine Evt.bind (Fx hC (b:=b) (by omega)) fun v hv=>Evt.chk (by omega) (Evt.P6 (Evt.chk ?_ ?_))
    ·rw[M0];simp only[List.length_append,List.length_cons,List.length_nil];omega
    ·subst hv
     exact key _ _ (i+1) (nx p b+1) (by rw[if_pos e,hb];rfl) (by rw[if_pos e,Fy,hb];rfl) (by rw[if_pos e]) (by rw[hb];rfl) (by simp)
   ·replace e:=bx e
    rw[if_neg e]at hnq
    exact key _ _ i b (by rw[if_neg e]) (by rw[if_neg e]) (by rw[if_neg e];rfl) hb (by omega)
theorem FY{f:u5}(h:SmF f)(h2:ndF f≤200):Evt (fun n=>gT n f) (fun r=>r=cf f):=by
 unfold gT gG
 have hq:=zO f
 refine Evt.bind (P:=fun r=>r=cf f) (Evt.bind (wu h (by omega)) fun v hv=>?_) fun v hv=>Evt.pure hv
 refine Evt.C2 (P:=ExP (fun _=>True) (fun _=>False)) ⟨.nxt (),trivial,0,fun n _=>rfl⟩ (fun _ _=>?_) (fun _ h=>h.elim)
 unfold cD
 exact Evt.bind (Ad hv.1 (by omega) _ f (Nat.le_refl _) h [] 0 0 (by simp;omega) (by omega) rfl) fun r hr=>Evt.pure hr.1
def Aft(env env' cE:List (Bs×Bs)):Prop:=∀w,D2 w→sub env' (sub env w)=sub cE w
theorem Ox{env:List (Bs×Bs)}{w:Bs}:sub env w=w∨∃p∈env,sub env w=p.2:=by
 by_cases h:w∈env.map (·.1)
 ·obtain⟨p,hp,e⟩:=List.mem_map.1 (vV h)
  exact .inr ⟨p,hp,e.symm⟩
 ·exact .inl (sL fun p hp e=>h (List.mem_map.2 ⟨p,hp,e⟩))
theorem Aft.put{N M:Nat→Bs}(hN:∀i j,N i=N j→i=j)(hN2:∀i,¬D2 (N i)){env env' cE:List (Bs×Bs)}{i:Nat}(he:∀p∈env,∃j,j<i∧p.2=N j)(h:Aft env env' cE)(n:Bs):Aft ((n,N i)::env) ((N i,M i)::env') ((n,M i)::cE):=fun w hw=>by
 by_cases e:n=w
 ·have a:sub ((n,N i)::env) w=N i:=by rw[L1,if_pos e]
  have b:sub ((n,M i)::cE) w=M i:=by rw[L1,if_pos e]
  rw[a,b,L1,if_pos rfl]
 ·have a:sub ((n,N i)::env) w=sub env w:=by rw[L1,if_neg e]
  have b:sub ((n,M i)::cE) w=sub cE w:=by rw[L1,if_neg e]
  rw[a,b,L1,if_neg fun e2=>?_]
  ·exact h w hw
  ·rcases Ox (env:=env) (w:=w)with e3|⟨p,hp,e3⟩
   ·rw[e3]at e2
    exact hN2 i (e2▸hw)
   ·obtain⟨j,hj,e4⟩:=he p hp
    rw[e3,e4]at e2
    have:=hN _ _ e2
    omega
mutual
theorem FZ(N M:Nat→Bs)(hN:∀i j,N i=N j→i=j)(hN2:∀i,¬D2 (N i)):∀(f:u5) (env env' cE:List (Bs×Bs)) (i:Nat),WfF f→(∀p∈env,∃j,j<i∧p.2=N j)→Aft env env' cE→ren M (ren N f env i) env' i=ren M f cE i
 | .mk k n w s,env,env',cE,i,hwf,he,ha=>by
   have hn:=((Y6 _).1 hwf).1
   have hs:kE s:=((Y6 _).1 hwf).2
   have hw:=(W1 hn).2.2.2.2
   have e1:(w.map (sub env)).map (sub env')=w.map (sub cE):=by
    rw[List.map_map]
    exact List.map_congr_left fun x hx=>ha x (hw x hx)
   rw[ren,ren,ren,e1]
   by_cases hq:QK k
   ·simp only[if_pos hq]
    rw[wv N M hN hN2 s _ _ _ (i+1) hs (fun p hp=>by
     rcases List.mem_cons.1 hp with rfl|hp
     ·exact⟨i,by omega,rfl⟩
     ·obtain⟨j,h1,h2⟩:=he p hp
      exact⟨j,by omega,h2⟩) (Aft.put hN hN2 he ha n)]
   ·simp only[if_neg hq]
    rw[wv N M hN hN2 s _ _ _ (i+0) hs he ha]
theorem wv(N M:Nat→Bs)(hN:∀i j,N i=N j→i=j)(hN2:∀i,¬D2 (N i)):∀(l:List u5) (env env' cE:List (Bs×Bs)) (i:Nat),kE l→(∀p∈env,∃j,j<i∧p.2=N j)→Aft env env' cE→O8 M (O8 N l env i) env' i=O8 M l cE i
 | [],env,env',cE,i,_,_,_=>by rw[O8,O8,O8]
 |x::l,env,env',cE,i,h,he,ha=>by
  rw[O8,O8,O8,FZ N M hN hN2 x _ _ _ i (M6.1 h x (List.mem_cons_self ..)) he ha,Bl,wv N M hN hN2 l _ _ _ (i+nq x) (M6.2 fun y hy=>M6.1 h y (List.mem_cons_of_mem _ hy)) (fun p hp=>by
   obtain⟨j,h1,h2⟩:=he p hp
   exact⟨j,by omega,h2⟩) ha]
end
theorem Oy{f:u5}(h:WfF f){N:Nat→Bs}(hN:∀i j,N i=N j→i=j)(hN2:∀i,¬D2 (N i)):cf (ren N f [] 0)=cf f:=by
 have e:fre (ren N f [] 0) []=fre f []:=by
  funext x
  exact propext (zQ N D2 hN2 f [] 0 (fun x hx=>Bt f h _ x hx) (fun p hp=>by cases hp) x)
 show ren (NN (fre (ren N f [] 0) [])) (ren N f [] 0) [] 0=cf f
 rw[e]
 exact FZ N _ hN hN2 f [] [] [] 0 h (fun p hp=>by cases hp) (fun w _=>rfl)
def qn(i:Nat):Bs:=63::Lib.decDigits (i+1)
theorem Oz(i j:Nat)(h:qn i=qn j):i=j:=by have:=wg (List.cons.inj h).2;omega
theorem KX(i:Nat):¬D2 (qn i):=fun h=>by
 have:=h.2.2.1.1
 simp[dY,qn]at this
set_option maxRecDepth 1000000 in
theorem pR(m:Nat):H7 (m+300)=some true:=by kernel_rfl
theorem oL:Evt H7 (fun b=>b=true):=⟨true,rfl,300,fun n hn=>by
 obtain⟨m,rfl⟩:∃m,n=m+300:=⟨n-300,by omega⟩
 exact pR m⟩
def Er(m E:List (Bs×Bs)):Prop:=∀w,(assoc w m).getD w=sub E w
theorem Er.nil:Er [] []:=fun w=>rfl
theorem Er.put{m E:List (Bs×Bs)}(h:Er m E)(a v:Bs):Er (C5 a v m) ((a,v)::E):=fun w=>by
 rw[L1]
 by_cases e:a=w
 ·subst e
  rw[mA,if_pos rfl];rfl
 ·rw[qS (fun x=>e x.symm),if_neg e];exact h w
theorem Ga{c:Nat}(hc:c≤1000000)(rs:List u7)(m:List (Bs×Int))(u:List u6):T8 rs (c:Int) m u=some (qn c,((c+1:Nat):Int)):=by
 unfold T8
 have hw:wr .i64 ((c:Int)+1)=((c+1:Nat):Int):=by rw[cr (by omega) (by omega)];rfl
 have hl:=zT (m:=c+1) (by omega)
 rw[hw,sQ (by omega),Option.bind_some,vP (show M4 _ _ by unfold M4;simp;omega)]
 rfl
theorem Gb:∀(m:Nat) (f:u5),SizeOf.sizeOf f≤m→SmF f→∀(rs:List u7) (c:Nat) (mp:List (Bs×Int)) (u:List u6) (env E:List (Bs×Bs)),Er env E→c+nq f≤1000000→
 Evt (fun n=>H8 n f rs (c:Int) mp u env) (fun r=>r=(ren qn f E c,((c+nq f:Nat):Int))):=by
 intro m
 induction m with
 |zero=>intro f h;cases f;simp only[u5.mk.sizeOf_spec]at h;omega
 |succ m ih=>
  intro f hf hsm rs c mp u env E hE hc
  have hws:=BG hsm
  have hsl:=sV hsm
  have hnq:=KD f
  refine Evt.succ ?_
  simp only[H8]
  refine Evt.C2 (P:=ExP (fun t=>t=f.words.map (sub E)) (fun _=>False)) ((Evt.range (fun k s=>s=(f.words.take k).map (sub E)) (fun _=>False) (fun _=>False) (by simp) (fun k s hk hs=>?_)).mono fun e he=>?_) (fun t ht=>?_) (fun _ h=>h.elim)
  ·have hw:=hE (Am.get f.words k)
   have hsn:(f.words.take (k+1)).map (sub E)=s++[sub E (Am.get f.words k)]:=by rw[F8 hk,List.map_append,hs];rfl
   have hsl:s.length≤3:=by rw[hs,List.length_map,List.length_take];omega
   unfold W3
   cases ha:assoc (Am.get f.words k) env with
   |none=>
    rw[ha]at hw
    refine Evt.cond (fun e=>by cases e) (fun _=>Evt.P6 (Evt.chk ?_ (Evt.pure ?_)))
    ·rw[M0];simp only[List.length_append,List.length_cons,List.length_nil];omega
    ·show s++[_]=_
     rw[hsn, ←hw];rfl
   |some v=>
    rw[ha]at hw
    refine Evt.cond (fun _=>Evt.P6 (Evt.chk ?_ (Evt.pure ?_))) (fun e=>by cases e)
    ·rw[M0];simp only[List.length_append,List.length_cons,List.length_nil];omega
    ·show s++[_]=_
     rw[hsn, ←hw];rfl
  ·cases e with
   |ret r=>exact he
   |nxt t=>
    have:=he.elim id False.elim
    rw[List.take_length]at this
    exact this
  ·have ht:t=f.words.map (sub E):=ht
   subst ht
   unfold W4
   simp only[dc,Option.bind_some]
   refine Evt.cond (fun e=>?_) (fun e=>?_)
   ·replace e:=bx e
    rw[if_pos e]at hnq
    simp only[Ga (c:=c) (by omega),Option.bind_some]
    refine Evt.P6 ?_
    have hE':=hE.put f.name (qn c)
    refine Evt.C2 (P:=ExP (fun t=>t=(((c+1+nqL f.subs:Nat):Int),O8 qn f.subs ((f.name,qn c)::E) (c+1))) (fun _=>False)) ((Evt.range (fun k s=>s=(((c+1+nqL (f.subs.take k):Nat):Int),O8 qn (f.subs.take k) ((f.name,qn c)::E) (c+1))) (fun _=>False) (fun _=>False) (by simp[nqL,O8]) (fun k s hk hs=>?_)).mono fun e he=>?_) (fun t ht=>?_) (fun _ h=>h.elim)
    ·subst hs
     have hsz:=J6 hk
     have hqk:=oJ hk
     unfold W5
     refine Evt.bind (ih _ (by omega) (sW hsm hk) rs (c+1+nqL (f.subs.take k)) mp u _ _ hE' (by omega)) fun v hv=>Evt.P6 (Evt.chk ?_ (Evt.pure ?_))
     ·rw[M0];simp only[List.length_append,gy,List.length_take,List.length_cons,List.length_nil];omega
     ·subst hv
      show(_,_)=(_,_)
      rw[F8 hk,jV,kF,Nat.add_assoc (c+1)]
    ·cases e with
     |ret r=>exact he
     |nxt t=>
      have:=he.elim id False.elim
      rw[List.take_length]at this
      exact this
    ·have ht:t=_:=ht
     subst ht
     unfold W6
     refine Evt.pure ?_
     rw[yd]
     simp only[if_pos e]
     rw[show c+nq f=c+1+nqL f.subs by omega]
   ·replace e:=bx e
    rw[if_neg e]at hnq
    refine Evt.C2 (P:=ExP (fun t=>t=(((c+nqL f.subs:Nat):Int),O8 qn f.subs E c)) (fun _=>False)) ((Evt.range (fun k s=>s=(((c+nqL (f.subs.take k):Nat):Int),O8 qn (f.subs.take k) E c)) (fun _=>False) (fun _=>False) (by simp[nqL,O8]) (fun k s hk hs=>?_)).mono fun e he=>?_) (fun t ht=>?_) (fun _ h=>h.elim)
    ·subst hs
     have hsz:=J6 hk
     have hqk:=oJ hk
     unfold W7
     refine Evt.bind (ih _ (by omega) (sW hsm hk) rs (c+nqL (f.subs.take k)) mp u _ _ hE (by omega)) fun v hv=>Evt.P6 (Evt.chk ?_ (Evt.pure ?_))
     ·rw[M0];simp only[List.length_append,gy,List.length_take,List.length_cons,List.length_nil];omega
     ·subst hv
      show(_,_)=(_,_)
      rw[F8 hk,jV,kF,Nat.add_assoc c]
    ·cases e with
     |ret r=>exact he
     |nxt t=>
      have:=he.elim id False.elim
      rw[List.take_length]at this
      exact this
    ·have ht:t=_:=ht
     subst ht
     unfold W8
     refine Evt.pure ?_
     rw[yd]
     simp only[if_neg e,Nat.add_zero]
     rw[show c+nq f=c+nqL f.subs by omega]
theorem sX(l:List Bs):l.map (sub [])=l:=(List.map_congr_left fun x _=>pL x).trans (List.map_id' l)
theorem Iy:∀(m:Nat) (f:u5),SizeOf.sizeOf f≤m→SmF f→∀(rs:List u7) (c:Nat) (mp:List (Bs×Int)) (u:List u6),c+nq f≤1000000→
 Evt (fun n=>N2 n f rs (c:Int) mp u) (fun r=>r=(ren qn f [] c,((c+nq f:Nat):Int))):=by
 intro m
 induction m with
 |zero=>intro f h;cases f;simp only[u5.mk.sizeOf_spec]at h;omega
 |succ m ih=>
  intro f hf hsm rs c mp u hc
  have hws:=BG hsm
  have hsl:=sV hsm
  have hnq:=KD f
  refine Evt.succ ?_
  simp only[N2]
  refine Evt.C2 (P:=ExP (fun t=>t=f.words) (fun _=>False)) ((Evt.range (fun k s=>s=f.words.take k) (fun _=>False) (fun _=>False) (by simp) (fun k s hk hs=>?_)).mono fun e he=>?_) (fun t ht=>?_) (fun _ h=>h.elim)
  ·subst hs
   unfold aK
   refine Evt.cond (fun e=>by cases e) (fun _=>Evt.P6 (Evt.chk ?_ (Evt.pure ?_)))
   ·rw[M0];simp only[List.length_append,List.length_take,List.length_cons,List.length_nil];omega
   ·show _++[_]=_
    rw[F8 hk]
  ·cases e with
   |ret r=>exact he
   |nxt t=>
    have:=he.elim id False.elim
    rw[List.take_length]at this
    exact this
  ·have ht:t=f.words:=ht
   subst ht
   unfold aL
   simp only[dc,Option.bind_some]
   refine Evt.cond (fun e=>?_) (fun e=>?_)
   ·replace e:=bx e
    rw[if_pos e]at hnq
    simp only[Ga (c:=c) (by omega),Option.bind_some]
    refine Evt.P6 ?_
    have hE':=Er.nil.put f.name (qn c)
    refine Evt.C2 (P:=ExP (fun t=>t=(((c+1+nqL f.subs:Nat):Int),O8 qn f.subs [(f.name,qn c)] (c+1))) (fun _=>False)) ((Evt.range (fun k s=>s=(((c+1+nqL (f.subs.take k):Nat):Int),O8 qn (f.subs.take k) [(f.name,qn c)] (c+1))) (fun _=>False) (fun _=>False) (by simp[nqL,O8]) (fun k s hk hs=>?_)).mono fun e he=>?_) (fun t ht=>?_) (fun _ h=>h.elim)
    ·subst hs
     have hqk:=oJ hk
     unfold aM
     refine Evt.bind (Gb _ _ (Nat.le_refl _) (sW hsm hk) rs (c+1+nqL (f.subs.take k)) mp u _ _ hE' (by omega)) fun v hv=>Evt.P6 (Evt.chk ?_ (Evt.pure ?_))
     ·rw[M0];simp only[List.length_append,gy,List.length_take,List.length_cons,List.length_nil];omega
     ·subst hv
      show(_,_)=(_,_)
      rw[F8 hk,jV,kF,Nat.add_assoc (c+1)]
    ·cases e with
     |ret r=>exact he
     |nxt t=>
      have:=he.elim id False.elim
      rw[List.take_length]at this
      exact this
    ·have ht:t=_:=ht
     subst ht
     unfold aN
     refine Evt.pure ?_
     rw[yd,sX]
     simp only[if_pos e]
     rw[show c+nq f=c+1+nqL f.subs by omega]
   ·replace e:=bx e
    rw[if_neg e]at hnq
    refine Evt.C2 (P:=ExP (fun t=>t=(((c+nqL f.subs:Nat):Int),O8 qn f.subs [] c)) (fun _=>False)) ((Evt.range (fun k s=>s=(((c+nqL (f.subs.take k):Nat):Int),O8 qn (f.subs.take k) [] c)) (fun _=>False) (fun _=>False) (by simp[nqL,O8]) (fun k s hk hs=>?_)).mono fun e he=>?_) (fun t ht=>?_) (fun _ h=>h.elim)
    ·subst hs
     have hsz:=J6 hk
     have hqk:=oJ hk
     unfold aO
     refine Evt.bind (ih _ (by omega) (sW hsm hk) rs (c+nqL (f.subs.take k)) mp u (by omega)) fun v hv=>Evt.P6 (Evt.chk ?_ (Evt.pure ?_))
     ·rw[M0];simp only[List.length_append,gy,List.length_take,List.length_cons,List.length_nil];omega
     ·subst hv
      show(_,_)=(_,_)
      rw[F8 hk,jV,kF,Nat.add_assoc c]
    ·cases e with
     |ret r=>exact he
     |nxt t=>
      have:=he.elim id False.elim
      rw[List.take_length]at this
      exact this
    ·have ht:t=_:=ht
     subst ht
     unfold aP
     refine Evt.pure ?_
     rw[yd,sX]
     simp only[if_neg e,Nat.add_zero]
     rw[show c+nq f=c+nqL f.subs by omega]
theorem jW{k:Nat}(hk:k<10):(Lib.decDigits k).length=1:=by rw[Lib.decDigits,dif_pos hk];rfl
theorem BH:∀(l:List u5) (x:u5),jr (l++[x])=max (jr l) (dpF x)
 | [],x=>by simp[jr]
 |a::l,x=>by
  rw[List.cons_append,jr,jr,BH l x]
  omega
theorem kJ:∀ {l:List u5} {k:Nat},k<l.length→dpF (Am.get l k)≤jr l
 | [],k,h=>by simp at h
 |a::l,0,_=>by
  rw[jr]
  show dpF a≤_
  omega
 |a::l,k+1,h=>by
  rw[jr]
  have:=kJ (l:=l) (k:=k) (by simpa using h)
  have e:Am.get (a::l) (k+1)=Am.get l k:=rfl
  rw[e];omega
def szF(f:u5):w5:=⟨f,((ndF f:Nat):Int),((dpF f:Nat):Int)⟩
theorem KY{l:List u5}(hn:bT l≤100000)(hd:jr l≤100000):Evt (fun _=>eC (l.map szF)) (fun r=>r=(((1+bT l:Nat):Int),((jr l+1:Nat):Int),decide (1+bT l≤200∧jr l<40))):=by
 unfold eC
 rw[List.length_map]
 refine Evt.C2 (P:=ExP (fun t=>t=(((1+bT l:Nat):Int),((jr l:Nat):Int))) (fun _=>False)) ((Evt.range (fun k t=>t=(((1+bT (l.take k):Nat):Int),((jr (l.take k):Nat):Int))) (fun _=>False) (fun _=>False) (by simp[bT,jr]) (fun k t hk ht=>?_)).mono fun e he=>?_) (fun t ht=>?_) (fun _ h=>h.elim)
 ·subst ht
  have htk:=gR hk
  unfold eX
  rw[get_map szF hk]
  refine Evt.pure ?_
  show(_,_)=(_,_)
  rw[F8 hk,lP,BH]
  simp only[szF]
  rw[cr (by omega) (by omega)]
  refine Prod.ext ?_ ?_
  ·show((1+bT (l.take k):Nat):Int)+((ndF (Am.get l k):Nat):Int)=((1+(bT (l.take k)+ndF (Am.get l k)):Nat):Int);omega
  ·show max ((jr (l.take k):Nat):Int) ((dpF (Am.get l k):Nat):Int)=((max (jr (l.take k)) (dpF (Am.get l k)):Nat):Int);omega
 ·cases e with
  |ret r=>exact he
  |nxt t=>
   have:=he.elim id False.elim
   rw[List.take_length]at this
   exact this
 ·have ht:t=_:=ht
  subst ht
  unfold eY
  refine Evt.pure ?_
  show(_,_,_)=(_,_,_)
  rw[cr (by omega) (by omega)]
  refine Prod.ext rfl (Prod.ext ?_ ?_)
  ·show((jr l:Nat):Int)+1=((jr l+1:Nat):Int);omega
  ·show(bif decide (((1+bT l:Nat):Int)≤200)then decide (((jr l:Nat):Int)<40)else false)=decide _
   by_cases h:1+bT l≤200
   ·rw[decide_eq_true (show((1+bT l:Nat):Int)≤200 by omega),cond_true]
    exact decide_eq_decide.2 (by omega)
   ·rw[decide_eq_false (show ¬((1+bT l:Nat):Int)≤200 by omega),cond_false]
    exact(decide_eq_false (by omega)).symm
mutual
def wz:u5→Bs→List Bs
 | .mk _ _ _ l,p=>p::hY l p 0
def hY:List u5→Bs→Nat→List Bs
 | [],_,_=>[]
 |f::l,p,i=>wz f (p++Lib.decDigits i)++hY l p (i+1)
end
theorem KZ(f:u5)(p:Bs):wz f p=p::hY f.subs p 0:=by cases f;rw[wz];rfl
mutual
theorem wA:∀(f:u5) (p:Bs),(wz f p).length=ndF f
 | .mk _ _ _ l,p=>by rw[wz,ndF,List.length_cons,sY l];omega
theorem sY:∀(l:List u5) (p:Bs) (i:Nat),(hY l p i).length=bT l
 | [],p,i=>by rw[hY,bT];rfl
 |f::l,p,i=>by rw[hY,bT,List.length_append,wA f,sY l]
end
theorem uU:∀(l:List u5) (x:u5) (p:Bs) (i:Nat),hY (l++[x]) p i=hY l p i++wz x (p++Lib.decDigits (i+l.length))
 | [],x,p,i=>by simp[hY]
 |a::l,x,p,i=>by rw[List.cons_append,hY,hY,uU l,List.append_assoc,List.length_cons,show i+1+l.length=i+(l.length+1)by omega]
mutual
theorem BI:∀(f:u5) (p:Bs),∀q∈wz f p,p <+: q
 | .mk _ _ _ l,p,q,h=>by
   rw[wz]at h
   rcases List.mem_cons.1 h with rfl|h
   ·exact List.prefix_refl _
   ·obtain⟨j,_,_,hj⟩:=lT l p 0 q h
    exact(List.prefix_append _ _).trans hj
theorem lT:∀(l:List u5) (p:Bs) (i:Nat),∀q∈hY l p i,∃j,i≤j∧j<i+l.length∧(p++Lib.decDigits j) <+: q
 | [],p,i,q,h=>by rw[hY]at h;cases h
 |f::l,p,i,q,h=>by
  rw[hY]at h
  rcases List.mem_append.1 h with h|h
  ·exact⟨i,Nat.le_refl _,by rw[List.length_cons];omega,BI f _ q h⟩
  ·obtain⟨j,h1,h2,h3⟩:=lT l p (i+1) q h
   exact⟨j,by omega,by rw[List.length_cons];omega,h3⟩
end
theorem OA{a b q:Bs}(h1:a <+: q)(h2:b <+: q)(hl:a.length=b.length):a=b:=
 (List.prefix_of_prefix_length_le h1 h2 (by omega)).eq_of_length hl
theorem Jx{p q:Bs}{i j:Nat}(hi:i<10)(hj:j<10)(h1:(p++Lib.decDigits i) <+: q)(h2:(p++Lib.decDigits j) <+: q):i=j:=by
 have hl:(p++Lib.decDigits i).length=(p++Lib.decDigits j).length:=by rw[List.length_append,List.length_append,jW hi,jW hj]
 exact wg (List.append_cancel_left (OA h1 h2 hl))
mutual
theorem Gc:∀(f:u5) (p:Bs),SmF f→(wz f p).Nodup
 | .mk k n w l,p,h=>by
   rw[SmF]at h
   rw[wz,List.nodup_cons]
   refine⟨fun hm=>?_,BJ l p 0 (by omega) h.2.2⟩
   obtain⟨j,_,hj,h3⟩:=lT l p 0 p hm
   have:=h3.length_le
   rw[List.length_append,jW (by omega)]at this
   omega
theorem BJ:∀(l:List u5) (p:Bs) (i:Nat),i+l.length≤10→qQ l→(hY l p i).Nodup
 | [],p,i,_,_=>by rw[hY];exact List.nodup_nil
 |f::l,p,i,hi,h=>by
  rw[qQ]at h
  rw[List.length_cons]at hi
  rw[hY,List.nodup_append]
  refine⟨Gc f _ h.1,BJ l p (i+1) (by omega) h.2,fun x hx y hy e=>?_⟩
  subst e
  obtain⟨j,h1,h2,h3⟩:=lT l p (i+1) x hy
  have:=Jx (by omega) (by omega) (BI f _ x hx) h3
  omega
end
def tJ:List Bs→Nat→List (Bs×Int)
 | [],_=>[]
 |p::l,i=>(p,(i:Int))::tJ l (i+1)
theorem BK:∀(a b:List Bs) (i:Nat),tJ (a++b) i=tJ a i++tJ b (i+a.length)
 | [],b,i=>rfl
 |x::a,b,i=>by rw[List.cons_append,tJ,tJ,BK a b,List.cons_append,List.length_cons,show i+1+a.length=i+(a.length+1)by omega]
theorem BL:∀(a:List Bs) (i:Nat),(tJ a i).length=a.length
 | [],i=>rfl
 |x::a,i=>by rw[tJ,List.length_cons,List.length_cons,BL a]
theorem yx:∀(a:List Bs) (i:Nat),(tJ a i).map (·.1)=a
 | [],i=>rfl
 |x::a,i=>by rw[tJ,List.map_cons,yx a]
theorem uV:∀(a:List Bs) (i j:Nat),a.Nodup→j<a.length→assoc (Am.get a j) (tJ a i)=some ((i+j:Nat):Int)
 | [],i,j,_,h=>by simp at h
 |x::a,i,0,hn,_=>by
  show(if x=x then some (i:Int)else _)=_
  rw[if_pos rfl];rfl
 |x::a,i,j+1,hn,h=>by
  rw[List.nodup_cons]at hn
  have hj:j<a.length:=by simpa using h
  have hne:Am.get a j≠x:=fun e=>hn.1 (e▸get_mem hj)
  show(if Am.get a j=x then some (i:Int)else assoc (Am.get a j) (tJ a (i+1)))=_
  rw[if_neg hne,uV a (i+1) j hn.2 hj,show i+1+j=i+(j+1)by omega]
theorem ql{V:Type}{k:Bs}{v:V}:∀ {m:List (Bs×V)},k∉m.map (·.1)→C5 k v m=m++[(k,v)]
 | [],_=>rfl
 |(a,u)::m,h=>by
  rw[List.map_cons,List.mem_cons,not_or]at h
  show(if k=a then(k,v)::m else(a,u)::C5 k v m)=_
  rw[if_neg h.1,ql h.2];rfl
theorem Db:∀(m:Nat) (f:u5),SizeOf.sizeOf f≤m→SmF f→∀(path:Bs) (rs:List u7) (c:Int) (mp:List (Bs×Int)) (u:List u6),path.length+ndF f≤100000→(∀q∈mp.map (·.1),¬path <+: q)→
 Evt (fun n=>O4 n f path rs c mp u) (fun r=>r=mp++tJ (wz f path) mp.length):=by
 intro m
 induction m with
 |zero=>intro f h;cases f;simp only[u5.mk.sizeOf_spec]at h;omega
 |succ m ih=>
  intro f hf hsm path rs c mp u hp hfr
  have hsl:=sV hsm
  have hnd:=sK f
  refine Evt.succ ?_
  simp only[O4]
  rw[ql fun h=>hfr _ h (List.prefix_refl _)]
  refine Evt.P6 (Evt.C2 (P:=ExP (fun t=>t=mp++(path,((mp.length:Nat):Int))::tJ (hY f.subs path 0) (mp.length+1)) (fun _=>False)) ((Evt.range (fun k t=>t=mp++(path,((mp.length:Nat):Int))::tJ (hY (f.subs.take k) path 0) (mp.length+1)) (fun _=>False) (fun _=>False) (by rw[List.take_zero,hY,tJ]) (fun k s hk hs=>?_)).mono fun e he=>?_) (fun t ht=>?_) (fun _ h=>h.elim))
  ·have hsz:=J6 hk
   have htk:=gR hk
   have hd:=jW (k:=k) (by omega)
   have hlk:(f.subs.take k).length=k:=by rw[List.length_take];omega
   unfold Z4
   simp only[sQ (m:=k) (by omega),Option.bind_some]
   have La:s.map (·.1)=mp.map (·.1)++path::hY (f.subs.take k) path 0:=by rw[hs,List.map_append,List.map_cons,yx]
   have Rf:s.length=mp.length+1+(hY (f.subs.take k) path 0).length:=by rw[hs,List.length_append,List.length_cons,BL];omega
   refine Evt.chk (by unfold M4;omega) (Evt.bind (ih _ (by omega) (sW hsm hk) _ rs c s u ?_ ?_) fun v hv=>Evt.pure ?_)
   ·show(path++Lib.decDigits k).length+_≤_
    rw[List.length_append];omega
   ·intro q hq hpre
    have hpre:(path++Lib.decDigits k) <+: q:=hpre
    rw[La]at hq
    rcases List.mem_append.1 hq with hq|hq
    ·exact hfr q hq ((List.prefix_append _ _).trans hpre)
    ·rcases List.mem_cons.1 hq with rfl|hq
     ·have:=hpre.length_le
      rw[List.length_append,hd]at this
      omega
     ·obtain⟨j,_,h2,h3⟩:=lT _ _ _ q hq
      have:=Jx (by omega) (by omega) hpre h3
      omega
   ·show v=_
    rw[hv,Rf,hs,F8 hk,uU,BK,hlk,Nat.zero_add]
    show(mp++_::_)++tJ (wz (Am.get f.subs k) (path++Lib.decDigits k)) _=_
    rw[List.append_assoc,List.cons_append]
  ·cases e with
   |ret r=>exact he
   |nxt t=>
    have:=he.elim id False.elim
    rw[List.take_length]at this
    exact this
  ·have ht:t=_:=ht
   subst ht
   unfold Z5
   refine Evt.pure ?_
   rw[KZ,tJ]
mutual
def ArF:u5→Prop
 | .mk k _ w s=>((s.length:Nat):Int)=arF k∧w.length≤3∧s.length≤2∧qm s
def qm:List u5→Prop
 | []=>True
 |f::l=>ArF f∧qm l
end
theorem Gd(f:u5):ArF f↔((f.subs.length:Nat):Int)=arF f.kind∧f.words.length≤3∧f.subs.length≤2∧qm f.subs:=by cases f;rw[ArF];rfl
theorem BM:∀ {l:List u5},qm l→∀x∈l,ArF x
 | [],_,x,h=>by cases h
 |f::l,h,x,hx=>by
  rw[qm]at h
  rcases List.mem_cons.1 hx with rfl|hx
  ·exact h.1
  ·exact BM h.2 x hx
theorem Ge{f:u5}(h:ArF f){k:Nat}(hk:k<f.subs.length):ArF (Am.get f.subs k):=BM ((Gd f).1 h).2.2.2 _ (get_mem hk)
mutual
theorem ArF.sm:∀(f:u5),ArF f→SmF f
 | .mk k n w s,h=>by
   rw[ArF]at h
   rw[SmF]
   exact⟨h.2.1,h.2.2.1,qm.sm s h.2.2.2⟩
theorem qm.sm:∀(l:List u5),qm l→qQ l
 | [],_=>by rw[qQ];trivial
 |f::l,h=>by
  rw[qm]at h
  rw[qQ]
  exact⟨ArF.sm f h.1,qm.sm l h.2⟩
end
mutual
theorem WfF.ar:∀(f:u5),WfF f→ArF f
 | .mk k n w s,h=>by
   rw[ArF]
   exact⟨(W1 ((Y6 _).1 h).1).1,Bo h,zR h,kE.ar s ((Y6 _).1 h).2⟩
theorem kE.ar:∀(l:List u5),kE l→qm l
 | [],_=>by rw[qm];trivial
 |f::l,h=>by
  rw[qm]
  exact⟨WfF.ar f (M6.1 h f (List.mem_cons_self ..)),kE.ar l (M6.2 fun x hx=>M6.1 h x (List.mem_cons_of_mem _ hx))⟩
end
mutual
theorem ArF.ren(N:Nat→Bs):∀(f:u5) (env:List (Bs×Bs)) (i:Nat),ArF f→ArF (ren N f env i)
 | .mk k n w s,env,i,h=>by
   rw[ArF]at h
   rw[Go.Proofs.YtanlbioodbnakaaGreatDoor.ren,ArF]
   exact⟨by rw[gy];exact h.1,by rw[List.length_map];exact h.2.1,by rw[gy];exact h.2.2.1,qm.ren N s _ _ h.2.2.2⟩
theorem qm.ren(N:Nat→Bs):∀(l:List u5) (env:List (Bs×Bs)) (i:Nat),qm l→qm (O8 N l env i)
 | [],env,i,_=>by rw[O8,qm];trivial
 |f::l,env,i,h=>by
  rw[qm]at h
  rw[O8,qm]
  exact⟨ArF.ren N f env i h.1,qm.ren N l env _ h.2⟩
end
section
variable {s:A8}
open Classical in
theorem Gf:∀(m:Nat) (f:u5),SizeOf.sizeOf f≤m→WfF f→∀(g:u5),ArF g→∀(bd:List Bs) (env:Env),kY env→Has bd env→
 Evt (fun n=>E8 n (gS s) (Y7 s f bd) g env) (RM ((pts s f bd g).bind (cT env))):=by
 intro m
 induction m with
 |zero=>intro f h;cases f;simp only[u5.mk.sizeOf_spec]at h;omega
 |succ m ih=>
  intro f hf hwf g hwg bd env he hh
  have hnf:=W1 ((Y6 f).1 hwf).1
  have hng:=(Gd g).1 hwg
  have hml:(Y7 s f bd).words.length=f.words.length:=by rw[eT];exact List.length_map _
  have hmk:(Y7 s f bd).kind=f.kind:=by rw[eT];rfl
  have hmn:(Y7 s f bd).name=mkn s f:=by rw[eT];rfl
  have hms:(Y7 s f bd).subs=R6 s f.subs (if QK f.kind then f.name::bd else bd):=by rw[eT];rfl
  have hk2:f.kind=2→¬QK f.kind:=fun h=>by unfold QK;omega
  have hplain:f.kind=2→¬IsKey f.name:=fun h=>wm (hnf.2.2.1 (.inl h))
  have hpart:cS (gS s) (Y7 s f bd)↔cS s f:=by
   unfold cS
   rw[hmk,hml,hmn]
   constructor
   ·rintro⟨h1,h2⟩
    refine⟨h1,?_⟩
    unfold mkn at h2
    rw[if_neg (hk2 h1.1)]at h2
    split at h2
    ·rename_i h3;exact h3.2
    ·exfalso
     obtain⟨y,_,e⟩:=List.mem_map.1 h2
     split at e
     ·cases (List.cons.inj e).1
     ·exact hplain h1.1 (e▸ ⟨43,y,rfl,by simp⟩)
   ·rintro⟨h1,h2⟩
    refine⟨h1,?_⟩
    unfold mkn
    rw[if_neg (hk2 h1.1),if_pos (show cS s f from⟨h1,h2⟩)]
    exact ju.2 h2
  refine Evt.succ ?_
  simp only[E8,wj,Option.bind_some,dc,J8,hmk,hml,hmn]
  rw[FH]
  refine Evt.cond (fun e=>?_) (fun e=>?_)
  ·have hp:cS s f:=hpart.1 (of_decide_eq_true e)
   rw[if_pos hp]
   have QZ:mkn s f=43::f.name:=by unfold mkn;rw[if_neg (hk2 hp.1.1),if_pos hp]
   rw[QZ]
   show Evt _ (RM (cT env [_]))
   rw[Bx]
   unfold qT
   cases h:assoc (43::f.name) env with
   |none=>
    refine Evt.cond (fun e=>by simp at e) (fun _=>Evt.P6 (Evt.pure ?_))
    exact⟨fun e he=>by cases he;rfl,fun he=>by cases he⟩
   |some b=>
    refine Evt.cond (fun _=>?_) (fun e=>by simp at e)
    obtain⟨h1,h2⟩:=he _ _ h
    have hsm:=h2.1
    have htx:b.text=[]:=by
     rcases h2.2 with⟨z,e1,e2⟩|⟨c',z,e1,hc',e2⟩
     ·exact e2
     ·rw[h1]at e1
      have:=(List.cons.inj e1).1
      rcases hc' with rfl|rfl|rfl<;>cases this
    have hiff:b=⟨43::f.name,[],g⟩↔b.form=g:=by
     constructor
     ·intro e;rw[e]
     ·intro e
      cases b
      simp only at h1 htx e
      rw[h1,htx,e]
    refine Evt.bind (FK _ b.form (Nat.le_refl _) hsm g) fun v hv=>Evt.pure ?_
    subst hv
    by_cases hb:b.form=g
    ·simp only[if_pos (hiff.2 hb),decide_eq_true hb]
     exact⟨fun e he=>by cases he;rfl,fun he=>by cases he⟩
    ·simp only[if_neg fun e=>hb (hiff.1 e),decide_eq_false hb]
     exact⟨fun e he=>(by cases he),fun _=>rfl⟩
  have hp:¬cS s f:=fun h=>(of_decide_eq_false e) (hpart.2 h)
  rw[if_neg hp]
  refine Evt.cond (fun e=>Evt.pure ?_) (fun e=>?_)
  ·have hc:f.kind≠g.kind∨f.words.length≠g.words.length:=Classical.byContradiction fun h=>by
    obtain⟨h1,h2⟩:=not_or.1 h
    have h1:=Classical.not_not.1 h1
    have h2:=Classical.not_not.1 h2
    simp[h1,h2]at e
   rw[if_pos hc]
   exact⟨fun e he=>(by cases he),fun _=>rfl⟩
  have hk:f.kind=g.kind:=Classical.byContradiction fun h=>by simp[h]at e
  have hl:f.words.length=g.words.length:=Classical.byContradiction fun h=>by
   have:¬((f.words.length:Int)=(g.words.length:Int)):=by omega
   simp[this]at e
  rw[if_neg fun h=>h.elim (fun h=>h hk) (fun h=>h hl),pP]
  have hsl:f.subs.length=g.subs.length:=by have:=hnf.1;have:=hng.1;rw[hk]at *; omega
  have rest:∀CY:Env,kY CY→Has bd CY→Has (if QK f.kind then f.name::bd else bd) CY→Evt (fun n=>K9 (E8 n) (Y7 s f bd) (gS s) g CY) (RM ((cat (ptw s.words bd f.words g.words) (pQ s f.subs (if QK f.kind then f.name::bd else bd) g.subs)).bind (cT CY))):=by
   intro CY he1 hh1 Ra
   rw[pP]
   unfold K9
   refine Evt.C2 (Bz hwf hl bd he1 hh1) (fun t ht=>?_) (fun r hr=>?_)
   ·obtain⟨ht,hte,hth⟩:=ht
    have hmono:Has (if QK f.kind then f.name::bd else bd) t:=by
     cases hw:ptw s.words bd f.words g.words with
     |none=>rw[hw]at ht;cases ht
     |some ps=>rw[hw]at ht;exact Ra.mono (mB _ _ _ ht).2.1
    rw[ht]
    unfold ah
    rw[hms,mz]
    refine Evt.C2 (P:=ExP (fun t'=>(pQ s f.subs (if QK f.kind then f.name::bd else bd) g.subs).bind (cT t)=some t') (fun r=>(pQ s f.subs (if QK f.kind then f.name::bd else bd) g.subs).bind (cT t)=none∧r.1=false)) ((Evt.range (fun k t'=>(pQ s f.subs (if QK f.kind then f.name::bd else bd) g.subs).bind (cT t)=(pQ s (f.subs.drop k) (if QK f.kind then f.name::bd else bd) (g.subs.drop k)).bind (cT t')∧kY t'∧Has (if QK f.kind then f.name::bd else bd) t') (fun _=>False) (fun r=>(pQ s f.subs (if QK f.kind then f.name::bd else bd) g.subs).bind (cT t)=none∧r.1=false) ⟨rfl,hte,hmono⟩ (fun k t' hk ht'=>?_)).mono fun e h=>?_) (fun t' ht'=>?_) (fun r hr=>?_)
    ·obtain⟨ht',Ot,Ou⟩:=ht'
     have hkg:k<g.subs.length:=by omega
     have hkm:Am.get (Y7 s f bd).subs k=Y7 s (Am.get f.subs k) (if QK f.kind then f.name::bd else bd):=by
      rw[hms]
      have:∀(l:List u5) (bd:List Bs) (k:Nat),k<l.length→Am.get (R6 s l bd) k=Y7 s (Am.get l k) bd:=by
       intro l
       induction l with
       |nil=>intro bd k h;cases h
       |cons a l ih=>
        intro bd k h
        rw[R6]
        cases k with
        |zero=>rfl
        |succ k=>exact ih bd k (by simpa using h)
      exact this _ _ _ hk
     have e1:f.subs.drop k=Am.get f.subs k::f.subs.drop (k+1):=by rw[List.drop_eq_getElem_cons hk];simp[Am.get,hk]
     have e2:g.subs.drop k=Am.get g.subs k::g.subs.drop (k+1):=by rw[List.drop_eq_getElem_cons hkg];simp[Am.get,hkg]
     rw[e1,e2,pQ,pP]at ht'
     unfold aj
     simp only[hkm]
     have hsz:=J6 hk
     refine Evt.chk (by omega) (Evt.bind (ih _ (by omega) (ng hwf hk) _ (Ge hwg hkg) _ t' Ot Ou) fun v hv=>?_)
     cases hp:(pts s (Am.get f.subs k) (if QK f.kind then f.name::bd else bd) (Am.get g.subs k)).bind (cT t')with
     |none=>
      rw[hp]at ht' hv
      have h1:=hv.2 rfl
      exact Evt.cond (fun _=>Evt.pure ⟨ht',rfl⟩) (fun e=>by rw[h1]at e;cases e)
     |some t''=>
      rw[hp]at ht' hv
      have h1:=hv.1 _ rfl
      subst h1
      refine Evt.cond (fun e=>by cases e) (fun _=>Evt.pure ⟨ht',?_,?_⟩)
      ·cases hq:pts s (Am.get f.subs k) (if QK f.kind then f.name::bd else bd) (Am.get g.subs k)with
       |none=>rw[hq]at hp;cases hp
       |some ps=>rw[hq]at hp;exact zZ Ot (Bv s _ _ _ (ArF.sm _ (Ge hwg hkg)) ps hq) hp
      ·cases hq:pts s (Am.get f.subs k) (if QK f.kind then f.name::bd else bd) (Am.get g.subs k)with
       |none=>rw[hq]at hp;cases hp
       |some ps=>rw[hq]at hp;exact Ou.mono (mB _ _ _ hp).2.1
    ·cases e with
     |ret r=>exact h
     |nxt t'=>
      obtain⟨h1,h2,h3⟩:=h.elim id False.elim
      rw[List.drop_length,pQ]at h1
      exact h1
    ·unfold ak
     have ht':(pQ s f.subs (if QK f.kind then f.name::bd else bd) g.subs).bind (cT t)=some t':=ht'
     refine Evt.pure ?_
     show RM ((some t).bind _) _
     rw[Option.bind_some,ht']
     exact⟨fun e he=>by cases he;rfl,fun he=>by cases he⟩
    ·show RM ((some t).bind _) _
     rw[Option.bind_some,hr.1]
     exact⟨fun e he=>(by cases he),fun _=>hr.2⟩
   ·rw[hr.1]
    exact⟨fun e he=>(by cases he),fun _=>hr.2⟩
  have Ov:∀c:UInt8,c=33∨c=63→mkn s f=c::f.name→pth s f g=some [⟨c::f.name,g.name,zf⟩]→(QK f.kind→c=63)→Evt (fun n=>G7 (E8 n) (Y7 s f bd) g env (gS s) true) (RM (((pth s f g).bind (cT env)).bind fun s'=>(cat (ptw s.words bd f.words g.words) (pQ s f.subs (if QK f.kind then f.name::bd else bd) g.subs)).bind (cT s'))):=by
   intro c hc hm hpt hq
   have hc3:c=33∨c=46∨c=63:=hc.elim .inl fun h=>.inr (.inr h)
   unfold G7
   simp only[cond_true,hmn,hm,hpt]
   have e0:(some [(⟨c::f.name,g.name,zf⟩:w6)]).bind (cT env)=qT env ⟨c::f.name,g.name,zf⟩:=by
    show cT env [_]=_
    rw[cT]
    cases qT env ⟨c::f.name,g.name,zf⟩<;>rfl
   rw[e0]
   refine Evt.bind (sS he hc3 f.name g.name) fun v hv=>?_
   cases hp:qT env ⟨c::f.name,g.name,zf⟩with
   |none=>
    rw[hp]at hv
    have h1:=hv.2 rfl
    exact Evt.cond (fun _=>Evt.pure ⟨fun e he=>(by cases he),fun _=>rfl⟩) (fun e=>by rw[h1]at e;cases e)
   |some t=>
    rw[hp]at hv
    have h1:=hv.1 _ rfl
    subst h1
    refine Evt.cond (fun e=>by cases e) (fun _=>?_)
    have hm1:=hh.mono (kG hp).2.1
    refine rest t (zY he (Aa hc3) hp) hm1 ?_
    by_cases hqk:QK f.kind
    ·rw[if_pos hqk]
     intro x hx
     rcases List.mem_cons.1 hx with rfl|hx
     ·have:=(kG hp).1
      obtain rfl:=hq hqk
      show(assoc (63::f.name) t).isSome=true
      rw[show assoc (63::f.name) t=some _ from this];rfl
     ·exact hm1 x hx
    ·rw[if_neg hqk];exact hm1
  refine Evt.cond (fun e=>?_) (fun e=>?_)
  ·have hq:QK f.kind:=of_decide_eq_true e
   rw[e]
   exact Ov 63 (.inr rfl) (by unfold mkn;rw[if_pos hq]) (by unfold pth;rw[if_pos hq]) (fun _=>rfl)
  ·have hq:¬QK f.kind:=of_decide_eq_false e
   have CZ:mkn s f=if f.kind=2∧f.name∈s.E9 then 33::f.name else f.name:=by unfold mkn;rw[if_neg hq,if_neg hp]
   refine Evt.bind (P:=fun v=>f.kind=2→v=decide (mkn s f∈(gS s).E9)) (Evt.gd (fun _=>Evt.pure fun _=>rfl) (fun g h=>by simp[h]at g)) fun v hv=>?_
   by_cases hpr:f.kind=2∧f.name∈s.E9
   ·rw[if_pos hpr]at CZ
    have h1:=hv hpr.1
    rw[CZ,decide_eq_true (show(33::f.name:Bs)∈(gS s).E9 from ju.2 hpr.2)]at h1
    have e2:(bif decide (f.kind=2)then v else false)=true:=by simp[hpr.1,h1]
    rw[e2]
    exact Ov 33 (.inl rfl) CZ (by unfold pth;rw[if_neg hq,if_pos hpr]) (fun h=>absurd h hq)
   ·rw[if_neg hpr]at CZ
    have e2:(bif decide (f.kind=2)then v else false)=false:=by
     by_cases h2:f.kind=2
     ·have h1:=hv h2
      rw[CZ,decide_eq_false (show ¬f.name∈(gS s).E9 from fun h=>hplain h2 (Ab (.inl rfl) h))]at h1
      simp[h1]
     ·simp[h2]
    rw[e2]
    have hpt:pth s f g=if f.name=g.name then some []else none:=by unfold pth;rw[if_neg hq,if_neg hpr]
    unfold G7
    simp only[cond_false,hmn,CZ,hpt]
    refine Evt.cond (fun e=>Evt.pure ?_) (fun e=>?_)
    ·replace e:=bx e
     rw[if_neg e]
     exact⟨fun e he=>(by cases he),fun _=>rfl⟩
    ·replace e:=bx e
     rw[if_pos e]
     exact rest env he hh (by rw[if_neg hq];exact hh)
end
theorem BN{s:A8}(hs:KR s){g:u5}(hg:ArF g):Evt (fun n=>eZ n s g) (fun r=>r=Iu s g):=by
 have hvl:=vZ s
 have hl:=hs.len
 have hnd:=hs.form.2.1
 have hql:(qs s.form).length≤200:=by rw[Bf];have:=zO s.form;omega
 unfold eZ
 refine Evt.bind (zX hs) fun v1 hv1=>?_
 subst hv1
 refine Evt.bind (Gf _ s.form (Nat.le_refl _) hs.form.1 g hg [] [] (fun k b h=>by cases h) (fun x hx=>by cases hx)) fun v2 hv2=>?_
 unfold Iu
 cases hp:(pts s s.form [] g).bind (cT [])with
 |none=>
  rw[hp]at hv2
  have h1:=hv2.2 rfl
  exact Evt.cond (fun _=>Evt.pure rfl) (fun e=>by rw[h1]at e;cases e)
 |some env=>
  rw[hp]at hv2
  have h1:=hv2.1 _ rfl
  subst h1
  have Iv:kY env:=by
   cases hq:pts s s.form [] g with
   |none=>rw[hq]at hp;cases hp
   |some ps=>rw[hq]at hp;exact zZ (fun k b h=>by cases h) (Bv s _ _ _ (ArF.sm g hg) ps hq) hp
  refine Evt.cond (fun e=>by cases e) (fun _=>?_)
  have hqv:Evt (fun n=>C4 n (gS s).form) (fun r=>r=(qs s.form).map (63:: ·)):=by
   refine(sN _ (gS s).form (Nat.le_refl _) ?_).mono fun r hr=>?_
   ·show ndF (Y7 s s.form [])≤_
    rw[BA];omega
   ·rw[hr];exact BD s s.form []
  refine Evt.bind hqv fun v3 hv3=>?_
  subst hv3
  refine Evt.C2 (P:=ExP (fun t=>t=(qs s.form).map fun x=>txE env (63::x)) (fun _=>False)) ((Evt.range (fun k t=>t=((qs s.form).take k).map fun x=>txE env (63::x)) (fun _=>False) (fun _=>False) (by simp) (fun k t hk ht=>?_)).mono fun e he=>?_) (fun t ht=>?_) (fun _ h=>h.elim)
  ·rw[List.length_map]at hk
   unfold dz
   rw[get_map _ hk]
   refine Evt.P6 (Evt.chk ?_ (Evt.pure ?_))
   ·rw[M0,ht];simp only[List.length_append,List.length_map,List.length_take,List.length_cons,List.length_nil];omega
   ·show _=_
    rw[F8 hk,List.map_append,ht];rfl
  ·cases e with
   |ret r=>exact he
   |nxt t=>
    have:=he.elim id False.elim
    rw[List.length_map,List.take_length]at this
    exact this
  have ht:t=(qs s.form).map fun x=>txE env (63::x):=ht
  subst ht
  unfold dD P7
  have hfl: [(gS s).words,(gS s).E9,(gS s).parts].flatten=s.words.map (46:: ·)++s.E9.map (33:: ·)++s.parts.map (43:: ·):=by simp[gS]
  refine Evt.bind (P:=fun v=>v=s.words.map (46:: ·)++s.E9.map (33:: ·)++s.parts.map (43:: ·)) ?_ fun v hv=>Evt.bind hqv fun v3 hv3=>?_
  ·unfold pK
   simp only[Option.bind_assoc,Option.bind_some,hfl]
   exact Evt.bind (P:=fun v=>v=s.words.map (46:: ·)++s.E9.map (33:: ·)++s.parts.map (43:: ·)) (Evt.chk ⟨by simp,by simp only[List.length_append,List.length_map];omega⟩ (Evt.pure rfl)) fun v hv=>Evt.pure hv
  subst hv hv3
  have Tv: [s.words.map (46:: ·)++s.E9.map (33:: ·)++s.parts.map (43:: ·),(qs s.form).map (63:: ·)].flatten=iU s:=by simp[iU]
  refine Evt.bind (P:=fun v=>v=iU s) ?_ fun v hv=>?_
  ·unfold pK
   rw[Tv]
   refine Evt.chk ⟨by simp,?_⟩ (Evt.pure rfl)
   unfold iU;simp only[List.length_append,List.length_map];omega
  subst hv
  have hkl:(iU s).length≤500:=by unfold iU;simp only[List.length_append,List.length_map];omega
  have hk1:∀k∈iU s,1≤k.length:=fun k hk=>by
   unfold iU at hk
   rcases List.mem_append.1 hk with hk|hk
   ·rcases List.mem_append.1 hk with hk|hk
    ·rcases List.mem_append.1 hk with hk|hk
     ·obtain⟨y,_,rfl⟩:=List.mem_map.1 hk;simp
     ·obtain⟨y,_,rfl⟩:=List.mem_map.1 hk;simp
    ·obtain⟨y,_,rfl⟩:=List.mem_map.1 hk;simp
   ·obtain⟨y,_,rfl⟩:=List.mem_map.1 hk;simp
  have hkw:∀w∈s.words,(46::w)∈iU s:=fun w hw=>List.mem_append.2 (.inl (List.mem_append.2 (.inl (List.mem_append.2 (.inl (ju.2 hw))))))
  refine Evt.C2 (P:=ExP (fun t=>t=((iU s).map fun k=>(⟨k.drop 1,txE env k,fmE env k⟩:w6))∧¬caught s env) (fun r=>r=([],false)∧caught s env)) ((Evt.range (fun k t=>t=(((iU s).take k).map fun k=>(⟨k.drop 1,txE env k,fmE env k⟩:w6))∧∀w∈s.words,(46::w)∈(iU s).take k→txE env (46::w)∉ (qs s.form).map fun x=>txE env (63::x)) (fun _=>False) (fun r=>r=([],false)∧caught s env) ⟨by simp,fun w _ h=>by simp at h⟩ (fun k t hk ht=>?_)).mono fun e he=>?_) (fun t ht=>?_) (fun r hr=>?_)
  ·obtain⟨ht1,ht2⟩:=ht
   unfold dF
   have hc2:∀x,E5 x ((qs s.form).map fun x=>txE env (63::x))=some (decide (x∈(qs s.form).map fun x=>txE env (63::x))):=fun x=>yu x _ (by rw[List.length_map];omega)
   simp only[J8,hc2,Option.bind_some]
   refine Evt.bind (P:=fun v=>(∃w∈s.words,Am.get (iU s) k=46::w)→v=decide (txE env (Am.get (iU s) k)∈(qs s.form).map fun x=>txE env (63::x))) (Evt.gd (fun _=>Evt.pure fun _=>rfl) (fun h ⟨w,hw,e⟩=>?_)) fun v hv=>Evt.cond (fun e=>Evt.pure ⟨rfl,?_⟩) (fun e=>?_)
   ·rw[e,decide_eq_true (show(46::w:Bs)∈(gS s).words from ju.2 hw)]at h;cases h
   ·replace e:=bx e
    obtain⟨e1,e2⟩:=e
    obtain⟨w,hw,e3⟩:=List.mem_map.1 (show _∈s.words.map (46:: ·)from e1)
    have:=hv ⟨w,hw,e3.symm⟩
    rw[e2]at this
    refine⟨w,hw,?_⟩
    rw[e3]
    exact of_decide_eq_true this.symm
   ·have hnw:∀w∈s.words,(46::w)∈(iU s).take (k+1)→txE env (46::w)∉ (qs s.form).map fun x=>txE env (63::x):=fun w hw hm=>by
     rw[F8 hk]at hm
     rcases List.mem_append.1 hm with hm|hm
     ·exact ht2 w hw hm
     ·rw[List.mem_singleton]at hm
      intro hc
      have h1:=hv ⟨w,hw,hm.symm⟩
      rw[←hm,decide_eq_true hc]at h1
      rw[←hm,decide_eq_true (show(46::w:Bs)∈(gS s).words from ju.2 hw),h1]at e
      cases e
    have htl:t.length=k:=by rw[ht1,List.length_map,List.length_take];omega
    have hsn:((iU s).take (k+1)).map (fun k=>(⟨k.drop 1,txE env k,fmE env k⟩:w6))=t++[⟨(Am.get (iU s) k).drop 1,txE env (Am.get (iU s) k),fmE env (Am.get (iU s) k)⟩]:=by rw[F8 hk,List.map_append,ht1];rfl
    refine Evt.chk ⟨by omega,hk1 _ (get_mem hk)⟩ (Evt.cond (fun e=>?_) (fun e=>Evt.P6 (Evt.chk ?_ (Evt.pure ?_))))
    ·refine Evt.bind (Ir _ _ (Nat.le_refl _) (Ow Iv (Am.get (iU s) k))) fun v hv=>Evt.P6 (Evt.chk ?_ (Evt.pure ?_))
     ·rw[M0];simp only[List.length_append,List.length_cons,List.length_nil];omega
     ·subst hv
      exact⟨hsn.symm,hnw⟩
    ·rw[M0];simp only[List.length_append,List.length_cons,List.length_nil];omega
    ·exact⟨hsn.symm,hnw⟩
  ·cases e with
   |ret r=>exact he
   |nxt t=>
    obtain⟨h1,h2⟩:=he.elim id False.elim
    rw[List.take_length]at h1
    refine⟨h1,fun⟨w,hw,hc⟩=>?_⟩
    exact h2 w hw (by rw[List.take_length];exact hkw w hw) hc
  ·obtain⟨rfl,ht⟩:=ht
   unfold dG
   refine Evt.pure ?_
   simp only[if_neg ht]
  ·obtain⟨rfl,hr⟩:=hr
   simp only[if_pos hr]
mutual
def cV(fr to:Bs)(a:Nat):u5→u5
 | .mk k n w s=>.mk k (if k=2∧n=fr∧w.length=a then to else n) w (Q7 fr to a s)
def Q7(fr to:Bs)(a:Nat):List u5→List u5
 | []=>[]
 |f::l=>cV fr to a f::Q7 fr to a l
end
mutual
def tlF(nm:Bs)(a:Nat):u5→Prop
 | .mk k n w s=>(k=2∧n=nm∧w.length=a)∨Gg nm a s
def Gg(nm:Bs)(a:Nat):List u5→Prop
 | []=>False
 |f::l=>tlF nm a f∨Gg nm a l
end
section
variable (fr to:Bs) (a:Nat)
theorem Gh(f:u5):cV fr to a f= .mk f.kind (if f.kind=2∧f.name=fr∧f.words.length=a then to else f.name) f.words (Q7 fr to a f.subs):=by cases f;rw[cV];rfl
theorem oM:∀l:List u5,Q7 fr to a l=l.map (cV fr to a)
 | []=>by rw[Q7];rfl
 |f::l=>by rw[Q7,oM l];rfl
theorem yA(l:List u5):(Q7 fr to a l).length=l.length:=by rw[oM,List.length_map]
mutual
theorem sZ:∀f:u5,ndF (cV fr to a f)=ndF f
 | .mk k n w s=>by rw[cV,ndF,ndF,qU s]
theorem qU:∀l:List u5,bT (Q7 fr to a l)=bT l
 | []=>by rw[Q7]
 |f::l=>by rw[Q7,bT,bT,sZ f,qU l]
end
mutual
theorem wB:∀f:u5,dpF (cV fr to a f)=dpF f
 | .mk k n w s=>by rw[cV,dpF,dpF,qV s]
theorem qV:∀l:List u5,jr (Q7 fr to a l)=jr l
 | []=>by rw[Q7]
 |f::l=>by rw[Q7,jr,jr,wB f,qV l]
end
mutual
theorem Gi:∀f:u5,nq (cV fr to a f)=nq f
 | .mk k n w s=>by rw[cV,nq,nq,BO s]
theorem BO:∀l:List u5,nqL (Q7 fr to a l)=nqL l
 | []=>by rw[Q7]
 |f::l=>by rw[Q7,nqL,nqL,Gi f,BO l]
end
theorem q2{k:Int}(h:k=2):¬QK k:=by subst h;unfold QK;omega
theorem Lb{k:Int}{n:Bs}{w:List Bs}(h:QK k):(if k=2∧n=fr∧w.length=a then to else n)=n:=if_neg fun e=>q2 e.1 h
mutual
theorem BP(N:Nat→Bs):∀(f:u5) (env:List (Bs×Bs)) (i:Nat),cV fr to a (ren N f env i)=ren N (cV fr to a f) env i
 | .mk k n w s,env,i=>by
   rw[ren,cV,cV,ren]
   by_cases hq:QK k
   ·rw[Lb fr to a hq,Lb fr to a hq]
    simp only[if_pos hq]
    rw[td N s]
   ·simp only[if_neg hq,List.length_map]
    rw[td N s]
theorem td(N:Nat→Bs):∀(l:List u5) (env:List (Bs×Bs)) (i:Nat),Q7 fr to a (O8 N l env i)=O8 N (Q7 fr to a l) env i
 | [],env,i=>by rw[O8,Q7,O8]
 |f::l,env,i=>by rw[O8,Q7,Q7,O8,BP N f,td N l,Gi]
end
mutual
theorem BQ:∀(f:u5) (bd:List Bs) (x:Bs),fre (cV fr to a f) bd x↔fre f bd x
 | .mk k n w s,bd,x=>by
   rw[cV,fre,fre]
   by_cases hq:QK k
   ·rw[Lb fr to a hq,tg s]
   ·simp only[if_neg hq]
    rw[tg s]
theorem tg:∀(l:List u5) (bd:List Bs) (x:Bs),eP (Q7 fr to a l) bd x↔eP l bd x
 | [],bd,x=>by rw[Q7]
 |f::l,bd,x=>by rw[Q7,eP,eP,BQ f,tg l]
end
mutual
theorem Gj:∀f:u5,ArF f→ArF (cV fr to a f)
 | .mk k n w s,h=>by
   rw[ArF]at h
   rw[cV,ArF,yA]
   exact⟨h.1,h.2.1,h.2.2.1,BR s h.2.2.2⟩
theorem BR:∀l:List u5,qm l→qm (Q7 fr to a l)
 | [],_=>by rw[Q7,qm];trivial
 |f::l,h=>by
  rw[qm]at h
  rw[Q7,qm]
  exact⟨Gj f h.1,BR l h.2⟩
end
theorem BS{f:u5}(h1:(f.subs.length:Int)=arF f.kind)(h2:hJ f.kind f.words.length)(h3:f.kind=2∨QK f.kind→D2 f.name)(h4:¬(f.kind=2∨QK f.kind)→f.name=[])(h5:∀w∈f.words,D2 w):eD f=0:=by
 unfold eD
 rw[if_neg (by omega),if_neg (fun e=>e.elim (fun e=>e h1) fun e=>e h2),if_neg (fun e=>e.2 (h3 e.1)),if_neg (fun e=>e.2 (h4 e.1)),if_neg (fun⟨w,h6,h7⟩=>h7 (h5 w h6))]
variable {to}
mutual
theorem Ae(ht:D2 to):∀f:u5,WfF f→WfF (cV fr to a f)
 | .mk k n w s,h=>by
   obtain⟨h1,h2⟩:=(Y6 _).1 h
   obtain⟨n1,n2,n3,n4,n5⟩:=W1 h1
   rw[Y6]
   refine⟨BS ?_ ?_ ?_ ?_ ?_,?_⟩
   ·rw[cV];show((Q7 fr to a s).length:Int)=_;rw[yA];exact n1
   ·rw[cV];exact n2
   ·rw[cV]
    intro e
    show D2 (if _ then to else n)
    split
    ·exact ht
    ·exact n3 e
   ·rw[cV]
    intro e
    show(if _ then to else n)=[]
    rw[if_neg fun e2=>e (.inl e2.1)]
    exact n4 e
   ·rw[cV];exact n5
   ·rw[cV];exact BT ht s h2
theorem BT(ht:D2 to):∀l:List u5,kE l→kE (Q7 fr to a l)
 | [],_=>by rw[Q7,kE];trivial
 |f::l,h=>by
  rw[kE]at h
  rw[Q7,kE]
  exact⟨Ae ht f h.1,BT ht l h.2⟩
end
theorem Gk(ht:D2 to){f:u5}(h:OkF f):OkF (cV fr to a f):=⟨Ae fr a ht f h.1,by rw[sZ];exact h.2.1,by rw[wB];exact h.2.2⟩
variable (to)
mutual
theorem Gm:∀f:u5,¬tlF to a f→cV to fr a (cV fr to a f)=f
 | .mk k n w s,h=>by
   rw[tlF,not_or]at h
   rw[cV,cV,uW s h.2]
   congr 1
   by_cases e:k=2∧n=fr∧w.length=a
   ·rw[if_pos e,if_pos ⟨e.1,rfl,e.2.2⟩];exact e.2.1.symm
   ·rw[if_neg e,if_neg h.1]
theorem uW:∀l:List u5,¬Gg to a l→Q7 to fr a (Q7 fr to a l)=l
 | [],_=>by rw[Q7,Q7]
 |f::l,h=>by
  rw[Gg,not_or]at h
  rw[Q7,Q7,Gm f h.1,uW l h.2]
end
mutual
theorem Gn(hne:fr≠to):∀f:u5,¬tlF fr a (cV fr to a f)
 | .mk k n w s=>by
   rw[cV,tlF,not_or]
   refine⟨fun⟨h1,h2,h3⟩=>?_,uX hne s⟩
   by_cases e:k=2∧n=fr∧w.length=a
   ·rw[if_pos e]at h2;exact hne h2.symm
   ·rw[if_neg e]at h2;exact e ⟨h1,h2,h3⟩
theorem uX(hne:fr≠to):∀l:List u5,¬Gg fr a (Q7 fr to a l)
 | []=>by rw[Q7,Gg];exact id
 |f::l=>by rw[Q7,Gg,not_or];exact⟨Gn hne f,uX hne l⟩
end
mutual
theorem Lc(N:Nat→Bs):∀(f:u5) (env:List (Bs×Bs)) (i:Nat),tlF to a (ren N f env i)↔tlF to a f
 | .mk k n w s,env,i=>by
   rw[ren,tlF,tlF,BU N s,List.length_map]
   by_cases hk:k=2
   ·simp only[if_neg (q2 hk)]
   ·simp only[hk,false_and]
theorem BU(N:Nat→Bs):∀(l:List u5) (env:List (Bs×Bs)) (i:Nat),Gg to a (O8 N l env i)↔Gg to a l
 | [],env,i=>by rw[O8]
 |f::l,env,i=>by rw[O8,Gg,Gg,Lc N f,BU N l]
end
end
def xw(i:Nat):Bs:=120::Lib.decDigits i
def xs(a:Nat):List Bs:=(List.range a).map xw
theorem PG{i:Nat}(h:i<10):Lib.decDigits i=[UInt8.ofNat (48+i)]:=by rw[Lib.decDigits,dif_pos h]
theorem fL(a:Nat):(xs a).length=a:=by unfold xs;simp
theorem OB{i:Nat}(h:i<3):D2 (xw i):=by
 have e:xw i=[120,UInt8.ofNat (48+i)]:=by unfold xw;rw[PG (by omega)]
 rw[e]
 have hi:i=0∨i=1∨i=2:=by omega
 have hk':∀k,k<2→k=0∨k=1:=fun k h=>by omega
 rcases hi with rfl|rfl|rfl
 ·exact⟨by decide,by decide,by decide,fun k hk=>by rcases hk' k hk with rfl|rfl<;>(unfold OkC;decide)⟩
 ·exact⟨by decide,by decide,by decide,fun k hk=>by rcases hk' k hk with rfl|rfl<;>(unfold OkC;decide)⟩
 ·exact⟨by decide,by decide,by decide,fun k hk=>by rcases hk' k hk with rfl|rfl<;>(unfold OkC;decide)⟩
theorem OC{a:Nat}(h:a≤3):∀w∈xs a,D2 w:=fun w hw=>by
 obtain⟨i,hi,rfl⟩:=List.mem_map.1 hw
 rw[List.mem_range]at hi
 exact OB (by omega)
theorem uY{a i:Nat}(h:i<a):Am.get (xs a) i=xw i:=by
 unfold xs
 rw[get_map xw (by simpa using h)]
 congr 1
 unfold Am.get
 rw[List.getD_eq_getElem?_getD,List.getElem?_eq_getElem (by simpa using h)]
 simp
theorem Jy{i j:Nat}(h:xw i=xw j):i=j:=wg (List.cons.inj h).2
def wS(n:Bs)(a:Nat):u5:=.mk 2 n (xs a) []
def oN(n:Bs)(a:Nat):A8:=⟨wS n a,xs a,[],[]⟩
theorem Gp{n:Bs}{a:Nat}(hn:D2 n)(ha:a≤3):OkF (wS n a):=by
 refine⟨(Y6 _).2 ⟨BS (f:=wS n a) rfl ?_ (fun _=>hn) (fun h=>absurd (Or.inl rfl) h) (OC ha),?_⟩,?_,?_⟩
 ·show hJ 2 (xs a).length
  rw[fL];unfold hJ;rw[if_pos rfl];exact ha
 ·show kE []
  rw[kE];trivial
 ·show ndF (.mk 2 n (xs a) [])≤_
  rw[ndF,bT];omega
 ·show dpF (.mk 2 n (xs a) [])≤_
  rw[dpF,jr];omega
theorem wC(n:Bs)(a:Nat):vns (oN n a)=xs a:=by unfold vns oN;simp
theorem BW(n:Bs)(a:Nat):qs (oN n a).form=[]:=by
 show qs (.mk 2 n (xs a) [])=[]
 rw[qs,qsL,if_neg (q2 rfl)];rfl
theorem Ld{n:Bs}{a:Nat}(x:Bs):fre (oN n a).form [] x↔x∈xs a:=by
 show fre (.mk 2 n (xs a) []) [] x↔_
 rw[fre,eP];simp
theorem Gq{n:Bs}{a:Nat}(hn:D2 n)(ha:a≤3):OkS (oN n a):=by
 refine⟨Gp hn ha,by rw[wC,fL];omega,fun j hj=>?_,fun k hk=>?_⟩
 ·rw[wC,fL]at hj
  unfold bO
  rw[wC,uY hj,if_neg (fun h=>h (OB (by omega))),if_neg,if_pos (show j<(oN n a).words.length by show j<(xs a).length;rw[fL];exact hj),if_pos]
  ·rw[Ld, ←uY hj];exact get_mem (by rw[fL];exact hj)
  ·intro h
   obtain⟨i,hi,e⟩:=bD.1 h
   rw[List.length_take,fL]at hi
   rw[Bb (by omega),uY (by omega)]at e
   have:=Jy e
   omega
 ·rw[BW]at hk;cases hk
theorem OD{n:Bs}{a:Nat}(ha:a≤3):SB (oN n a):=by
 refine⟨by show(xs a).length≤_;rw[fL];omega,by simp[oN],by simp[oN],fun x hx=>?_⟩
 rw[wC]at hx
 have:=(OC ha x hx).2.1
 omega
noncomputable def wdM(cs:List A0)(env:List B9)(w:Bs):Int:=
 match env.reverse.find? (fun e=>decide (e.name=w))with
 |some e=>e.value
 |none=>(Ds cs w).1
theorem wD(cs:List A0)(env:List B9)(e:B9)(w:Bs):wdM cs (env++[e]) w=if e.name=w then e.value else wdM cs env w:=by
 unfold wdM
 rw[List.reverse_append,List.reverse_singleton,List.singleton_append,List.find?_cons]
 by_cases h:e.name=w
 ·rw[if_pos h];simp[h]
 ·rw[if_neg h];simp[h]
def upv(W:Bs→Int)(n:Bs)(v:Int):Bs→Int:=fun w=>if n=w then v else W w
theorem Jz(cs:List A0)(env:List B9)(n:Bs)(v:Int):wdM cs (env++[⟨n,v⟩])=upv (wdM cs env) n v:=funext fun w=>wD cs env ⟨n,v⟩ w
section
variable (sz:Nat) (R:Bs→List Int→Bool)
mutual
def vl:u5→(Bs→Int)→Bool
 | .mk k n w s,W=>
   if k=1 then true else if k=2 then R n (w.map W)else if k=3 then decide (W (Am.get w 0)=W (Am.get w 1))
   else if k=4 then !vlL s W 0 else if k=5 then vlL s W 0&&vlL s W 1 else if k=6 then vlL s W 0||vlL s W 1 else if k=7 then !vlL s W 0||vlL s W 1
   else if k=8 then(List.range sz).all fun v=>vlL s (upv W n (v:Int)) 0 else(List.range sz).any fun v=>vlL s (upv W n (v:Int)) 0
def vlL:List u5→(Bs→Int)→Nat→Bool
 | [],_,_=>false
 |f::l,W,i=>if i=0 then vl f W else vlL l W (i-1)
end
theorem mJ(f:u5)(W:Bs→Int):vl sz R f W=if f.kind=1 then true else if f.kind=2 then R f.name (f.words.map W)else if f.kind=3 then decide (W (Am.get f.words 0)=W (Am.get f.words 1))
 else if f.kind=4 then !vlL sz R f.subs W 0 else if f.kind=5 then vlL sz R f.subs W 0&&vlL sz R f.subs W 1 else if f.kind=6 then vlL sz R f.subs W 0||vlL sz R f.subs W 1 else if f.kind=7 then !vlL sz R f.subs W 0||vlL sz R f.subs W 1
 else if f.kind=8 then(List.range sz).all fun v=>vlL sz R f.subs (upv W f.name (v:Int)) 0 else(List.range sz).any fun v=>vlL sz R f.subs (upv W f.name (v:Int)) 0:=by cases f;rw[vl];rfl
theorem tj:∀(l:List u5) (W:Bs→Int) (i:Nat),i<l.length→vlL sz R l W i=vl sz R (Am.get l i) W
 |f::l,W,0,_=>by rw[vlL,if_pos rfl];rfl
 |f::l,W,i+1,h=>by
  rw[vlL,if_neg (Nat.succ_ne_zero i),Nat.add_sub_cancel,tj l W i (by simpa using h)]
  rfl
end
structure VM(m:B4):Prop where
 st:StK m.relations
 rl:m.relations.length≤1000000
 cl:m.constants.length≤1000000
 sz:0≤m.size∧m.size≤1000000
 tl:∀k,k<m.relations.length→(Am.get m.relations k).tuples.length≤1000000000
noncomputable def fdM(m:B4)(nm:Bs)(a:Int):w7×Bool:=Mt fun n=>eW n m nm a
noncomputable def oO(m:B4)(nm:Bs)(t:List Int):Bool:=RX (fdM m nm (t.length:Int)).1.tuples t
theorem Dc{m:B4}(h:VM m)(nm:Bs)(a:Int):Evt (fun n=>eW n m nm a) (fun r=>r=fdM m nm a)∧((∃k,k<m.relations.length∧fJ (Am.get m.relations k)=(nm,a)∧fdM m nm a=(Am.get m.relations k,true))∨((∀k,k<m.relations.length→fJ (Am.get m.relations k)≠(nm,a))∧fdM m nm a=(⟨[],0,[]⟩,false))):=FV (Ix h.st h.rl nm a)
theorem JA{m:B4}(h:VM m)(nm:Bs)(a:Int):(fdM m nm a).1.tuples.length≤1000000000:=by
 rcases(Dc h nm a).2 with⟨k,hk,_,e⟩|⟨_,e⟩
 ·rw[e];exact h.tl k hk
 ·rw[e];exact Nat.zero_le _
theorem Rg{m:B4}(h:VM m){nm:Bs}{a:Int}{k:Nat}(hk:k<m.relations.length)(e:fJ (Am.get m.relations k)=(nm,a)):fdM m nm a=(Am.get m.relations k,true):=by
 rcases(Dc h nm a).2 with⟨j,hj,ej,e2⟩|⟨hn,_⟩
 ·rw[e2,h.st.uniq hj hk (ej.trans e.symm)]
 ·exact absurd e (hn k hk)
theorem Af{env:List B9}(he:env.length≤1000000){cs:List A0}(hc:cs.length≤1000000)(w:Bs)(sz:Int)(rs:List w7):Evt (fun n=>W9 n w env sz cs rs) (fun r=>r=wdM cs env w):=by
 unfold W9
 refine Evt.C2 (P:=ExP (fun _=>wdM cs env w=(Ds cs w).1) (fun r=>r=wdM cs env w)) (Evt.loop (fun s:Int=>(s+1).toNat) (fun s=>∃k:Nat,s=(k:Int)-1∧k≤env.length∧wdM cs env w=wdM cs (env.take k) w) (fun _=>wdM cs env w=(Ds cs w).1) (fun r=>r=wdM cs env w) ⟨env.length,?_,Nat.le_refl _,by rw[List.take_length]⟩ (fun s hs=>?_)) (fun t ht=>?_) (fun r hr=>hr)
 ·rw[cr (by omega) (by omega)]
 ·obtain⟨k,rfl,hk,hw⟩:=hs
  unfold dH
  refine Evt.cond (fun e=>?_) (fun e=>Evt.pure ?_)
  ·replace e:=bx e
   obtain⟨j,rfl⟩:∃j,k=j+1:=⟨k-1,by omega⟩
   have ej:((j+1:Nat):Int)-1=(j:Int):=by omega
   rw[ej,Int.toNat_natCast]
   rw[F8 (show j<env.length by omega),wD]at hw
   refine Evt.chk (by omega) (Evt.cond (fun e2=>Evt.pure ?_) (fun e2=>Evt.pure ?_))
   ·rw[if_pos (of_decide_eq_true e2)]at hw
    exact hw.symm
   ·rw[if_neg (of_decide_eq_false e2)]at hw
    rw[cr (by omega) (by omega)]
    exact⟨⟨j,rfl,by omega,hw⟩,by show((j:Int)-1+1).toNat<((j:Int)+1).toNat;omega⟩
  ·replace e:=bx e
   have:k=0:=by omega
   subst this
   exact hw
 ·have ht:wdM cs env w=(Ds cs w).1:=ht
  unfold dI
  refine Evt.bind (nI hc w) fun v hv=>Evt.pure ?_
  rw[hv,ht]
theorem Dd{m:B4}(hm:VM m):∀(b:Nat) (f:u5),SizeOf.sizeOf f≤b→WfF f→∀(env:List B9),env.length+dpF f≤100000→Evt (fun n=>I3 n m f env) (fun r=>r=vl m.size.toNat (oO m) f (wdM m.constants env)):=by
 intro b
 induction b with
 |zero=>intro f h;cases f;simp only[u5.mk.sizeOf_spec]at h;omega
 |succ b ih=>
  intro f hf hwf env hen
  obtain⟨hs,hw,_,_,_⟩:=W1 ((Y6 f).1 hwf).1
  have hdq:=Bd f
  have hz:=hm.sz
  have hv1:∀w,Evt (fun n=>W9 n w env m.size m.constants m.relations) (fun r=>r=wdM m.constants env w):=fun w=>Af (by omega) hm.cl w _ _
  have hsub:∀ {k:Nat},k<f.subs.length→Evt (fun n=>I3 n m (Am.get f.subs k) env) (fun r=>r=vlL m.size.toNat (oO m) f.subs (wdM m.constants env) k):=fun {k} hk=>by
   rw[tj _ _ _ _ _ hk]
   have:=J6 hk
   have:=kJ hk
   exact ih _ (by omega) (ng hwf hk) env (by omega)
  refine Evt.succ ?_
  simp only[I3]
  refine Evt.cond (fun e=>Evt.pure ?_) (fun e=>?_)
  ·rw[mJ,if_pos (of_decide_eq_true e)]
  have n1:=of_decide_eq_false e
  refine Evt.cond (fun e=>?_) (fun e=>?_)
  ·have e:=of_decide_eq_true e
   have hwl:f.words.length≤3:=by rw[e]at hw;simpa[hJ]using hw
   refine Evt.C2 (P:=ExP (fun t=>t=f.words.map (wdM m.constants env)) (fun _=>False)) ((Evt.range (fun k t=>t=(f.words.take k).map (wdM m.constants env)) (fun _=>False) (fun _=>False) (by simp) (fun k t hk ht=>?_)).mono fun c hc=>?_) (fun t ht=>?_) (fun _ h=>h.elim)
   ·unfold fh
    refine Evt.bind (hv1 _) fun v hv=>Evt.P6 (Evt.chk ?_ (Evt.pure ?_))
    ·rw[M0,ht];simp only[List.length_append,List.length_map,List.length_take,List.length_cons,List.length_nil];omega
    ·show t++[v]=_
     rw[F8 hk,List.map_append,ht,hv];rfl
   ·cases c with
    |ret r=>exact hc
    |nxt t=>
     have hc:=hc.elim id False.elim
     rw[List.take_length]at hc
     exact hc
   ·have ht:t=_:=ht
    subst ht
    unfold fj
    refine Evt.bind (Dc hm _ _).1 fun v hv=>?_
    subst hv
    refine Evt.bind (FX (by have:=JA hm f.name ((f.words.map (wdM m.constants env)).length:Int);omega) _) fun v hv=>Evt.pure ?_
    rw[hv,mJ,if_neg n1,if_pos e]
    rfl
  have n2:=of_decide_eq_false e
  refine Evt.cond (fun e=>?_) (fun e=>?_)
  ·have e:=of_decide_eq_true e
   have hwl:f.words.length=2:=by rw[e]at hw;simpa[hJ]using hw
   refine Evt.chk (by omega) (Evt.bind (hv1 _) fun v hv=>Evt.chk (by omega) (Evt.bind (hv1 _) fun v2 hv2=>Evt.pure ?_))
   rw[hv,hv2,mJ,if_neg n1,if_neg n2,if_pos e]
  have n3:=of_decide_eq_false e
  refine Evt.cond (fun e=>?_) (fun e=>?_)
  ·have e:=of_decide_eq_true e
   have hsl:f.subs.length=1:=by rw[e]at hs;simp only[arF]at hs;omega
   refine Evt.chk (by omega) (Evt.bind (hsub (by omega)) fun v hv=>Evt.pure ?_)
   rw[hv,mJ,if_neg n1,if_neg n2,if_neg n3,if_pos e]
  have n4:=of_decide_eq_false e
  refine Evt.cond (fun e=>?_) (fun e=>?_)
  ·have e:=of_decide_eq_true e
   have hsl:f.subs.length=2:=by rw[e]at hs;simp only[arF]at hs;omega
   refine Evt.chk (by omega) (Evt.bind (hsub (by omega)) fun v hv=>Evt.chk (eO fun _=>by omega) (Evt.bind (P:=fun w=>v=true→w=vlL m.size.toNat (oO m) f.subs (wdM m.constants env) 1) (Evt.gd (fun _=>(hsub (by omega)).mono fun r hr _=>hr) (fun e e2=>by rw[e]at e2;cases e2)) fun w hw=>Evt.pure ?_))
   rw[mJ,if_neg n1,if_neg n2,if_neg n3,if_neg n4,if_pos e, ←hv]
   cases v with
   |false=>rfl
   |true=>exact hw rfl
  have n5:=of_decide_eq_false e
  refine Evt.cond (fun e=>?_) (fun e=>?_)
  ·have e:=of_decide_eq_true e
   have hsl:f.subs.length=2:=by rw[e]at hs;simp only[arF]at hs;omega
   refine Evt.chk (by omega) (Evt.bind (hsub (by omega)) fun v hv=>Evt.chk (eO fun _=>by omega) (Evt.bind (P:=fun w=>v=false→w=vlL m.size.toNat (oO m) f.subs (wdM m.constants env) 1) (Evt.gd (fun _=>(hsub (by omega)).mono fun r hr _=>hr) (fun e e2=>by rw[e2]at e;cases e)) fun w hw=>Evt.pure ?_))
   rw[mJ,if_neg n1,if_neg n2,if_neg n3,if_neg n4,if_neg n5,if_pos e, ←hv]
   cases v with
   |true=>rfl
   |false=>exact hw rfl
  have n6:=of_decide_eq_false e
  refine Evt.cond (fun e=>?_) (fun e=>?_)
  ·have e:=of_decide_eq_true e
   have hsl:f.subs.length=2:=by rw[e]at hs;simp only[arF]at hs;omega
   refine Evt.chk (by omega) (Evt.bind (hsub (by omega)) fun v hv=>Evt.chk (eO fun _=>by omega) (Evt.bind (P:=fun w=>v=true→w=vlL m.size.toNat (oO m) f.subs (wdM m.constants env) 1) (Evt.gd (fun _=>(hsub (by omega)).mono fun r hr _=>hr) (fun e e2=>by rw[e2]at e;cases e)) fun w hw=>Evt.pure ?_))
   rw[mJ,if_neg n1,if_neg n2,if_neg n3,if_neg n4,if_neg n5,if_neg n6,if_pos e, ←hv]
   cases v with
   |false=>rfl
   |true=>exact hw rfl
  have n7:=of_decide_eq_false e
  have hq:f.kind=8∨f.kind=9:=by
   by_cases h8:f.kind=8∨f.kind=9
   ·exact h8
   ·exfalso
    unfold arF at hs
    rw[if_neg (by omega),if_neg (by omega),if_neg (by omega)]at hs
    omega
  have hsl:f.subs.length=1:=by
   unfold arF at hs
   rw[if_neg (by omega),if_pos (by omega)]at hs
   omega
  have hvl:vl m.size.toNat (oO m) f (wdM m.constants env)=if f.kind=8 then(List.range m.size.toNat).all fun v=>vlL m.size.toNat (oO m) f.subs (upv (wdM m.constants env) f.name (v:Int)) 0 else(List.range m.size.toNat).any fun v=>vlL m.size.toNat (oO m) f.subs (upv (wdM m.constants env) f.name (v:Int)) 0:=by
   rw[mJ,if_neg n1,if_neg n2,if_neg n3,if_neg n4,if_neg n5,if_neg n6,if_neg n7]
  refine Evt.C2 (P:=ExP (fun _=>decide (f.kind=8)=vl m.size.toNat (oO m) f (wdM m.constants env)) (fun r=>r=vl m.size.toNat (oO m) f (wdM m.constants env))) (Evt.CU m.size.toNat (fun k s=>s=(k:Int)∧∀v,v<k→vlL m.size.toNat (oO m) f.subs (upv (wdM m.constants env) f.name (v:Int)) 0=decide (f.kind=8)) _ _ ⟨rfl,fun v hv=>absurd hv (Nat.not_lt_zero _)⟩ (fun k s hk hs=>?_) (fun s hs=>?_)) (fun t ht=>Evt.pure ht) (fun r hr=>hr)
  ·obtain⟨rfl,hall⟩:=hs
   unfold bW
   refine Evt.cond (fun _=>?_) (fun e=>by replace e:=bx e;omega)
   refine Evt.chk (by omega) (Evt.chk (by omega) (Evt.P6 (Evt.chk (by rw[M0];simp only[List.length_append,List.length_cons,List.length_nil];omega) ?_)))
   have h0:0<f.subs.length:=by omega
   have:=J6 h0
   have:=kJ h0
   refine Evt.bind (ih (Am.get f.subs 0) (by omega) (ng hwf h0) (env++[⟨f.name,(k:Int)⟩]) (by simp only[List.length_append,List.length_cons,List.length_nil];omega)) fun v hv=>?_
   rw[Jz, ←tj _ _ _ _ _ h0]at hv
   refine Evt.cond (fun e=>Evt.pure ?_) (fun e=>Evt.pure ?_)
   ·have e:¬v=decide (f.kind=8):=by simpa using e
    show decide (f.kind=9)=_
    rw[hvl]
    rcases hq with h8|h9
    ·rw[if_pos h8]
     have ev:v=false:=by rw[decide_eq_true h8]at e;simpa using e
     rw[decide_eq_false (by omega)]
     symm
     rw[List.all_eq_false]
     exact⟨k,List.mem_range.2 hk,by rw[←hv,ev];decide⟩
    ·have n8:¬f.kind=8:=by omega
     rw[if_neg n8]
     have ev:v=true:=by rw[decide_eq_false n8]at e;simpa using e
     rw[decide_eq_true h9]
     symm
     rw[List.any_eq_true]
     exact⟨k,List.mem_range.2 hk,by rw[←hv,ev]⟩
   ·have e:v=decide (f.kind=8):=by simpa using e
    rw[cr (by omega) (by omega)]
    refine⟨by omega,fun u hu=>?_⟩
    by_cases eu:u=k
    ·subst eu;rw[←hv,e]
    ·exact hall u (by omega)
  ·obtain⟨rfl,hall⟩:=hs
   unfold bW
   refine Evt.cond (fun e=>by replace e:=bx e;omega) (fun _=>Evt.pure ?_)
   show decide (f.kind=8)=_
   rw[hvl]
   rcases hq with h8|h9
   ·rw[if_pos h8,decide_eq_true h8]
    symm
    rw[List.all_eq_true]
    intro u hu
    rw[hall u (List.mem_range.1 hu),decide_eq_true h8]
   ·have n8:¬f.kind=8:=by omega
    rw[if_neg n8,decide_eq_false n8]
    symm
    rw[List.any_eq_false]
    intro u hu
    rw[hall u (List.mem_range.1 hu),decide_eq_false n8]
    decide
theorem Gr{env:List B9}(he:env.length≤1000000){cs:List A0}(hc:cs.length≤1000000)(w:Bs)(sz:Int)(rs:List w7):Evt (fun n=>bX n w env sz cs rs) (fun r=>r=wdM cs env w):=by
 unfold bX
 refine Evt.C2 (P:=ExP (fun _=>wdM cs env w=(Ds cs w).1) (fun r=>r=wdM cs env w)) (Evt.loop (fun s:Int=>(s+1).toNat) (fun s=>∃k:Nat,s=(k:Int)-1∧k≤env.length∧wdM cs env w=wdM cs (env.take k) w) (fun _=>wdM cs env w=(Ds cs w).1) (fun r=>r=wdM cs env w) ⟨env.length,?_,Nat.le_refl _,by rw[List.take_length]⟩ (fun s hs=>?_)) (fun t ht=>?_) (fun r hr=>hr)
 ·rw[cr (by omega) (by omega)]
 ·obtain⟨k,rfl,hk,hw⟩:=hs
  unfold gH
  refine Evt.cond (fun e=>?_) (fun e=>Evt.pure ?_)
  ·replace e:=bx e
   obtain⟨j,rfl⟩:∃j,k=j+1:=⟨k-1,by omega⟩
   have ej:((j+1:Nat):Int)-1=(j:Int):=by omega
   rw[ej,Int.toNat_natCast]
   rw[F8 (show j<env.length by omega),wD]at hw
   refine Evt.chk (by omega) (Evt.cond (fun e2=>Evt.pure ?_) (fun e2=>Evt.pure ?_))
   ·rw[if_pos (of_decide_eq_true e2)]at hw
    exact hw.symm
   ·rw[if_neg (of_decide_eq_false e2)]at hw
    rw[cr (by omega) (by omega)]
    exact⟨⟨j,rfl,by omega,hw⟩,by show((j:Int)-1+1).toNat<((j:Int)+1).toNat;omega⟩
  ·replace e:=bx e
   have:k=0:=by omega
   subst this
   exact hw
 ·have ht:wdM cs env w=(Ds cs w).1:=ht
  unfold gI
  refine Evt.bind (nI hc w) fun v hv=>Evt.pure ?_
  rw[hv,ht]
theorem Iz{m:B4}(hm:VM m):∀(b:Nat) (f:u5),SizeOf.sizeOf f≤b→WfF f→∀(env:List B9),env.length+dpF f≤100000→Evt (fun n=>S9 n m f env) (fun r=>r=vl m.size.toNat (oO m) f (wdM m.constants env)):=by
 intro b
 induction b with
 |zero=>intro f h;cases f;simp only[u5.mk.sizeOf_spec]at h;omega
 |succ b ih=>
  intro f hf hwf env hen
  obtain⟨hs,hw,_,_,_⟩:=W1 ((Y6 f).1 hwf).1
  have hdq:=Bd f
  have hz:=hm.sz
  have hv1:∀w,Evt (fun n=>bX n w env m.size m.constants m.relations) (fun r=>r=wdM m.constants env w):=fun w=>Gr (by omega) hm.cl w _ _
  have hsub:∀ {k:Nat},k<f.subs.length→Evt (fun n=>S9 n m (Am.get f.subs k) env) (fun r=>r=vlL m.size.toNat (oO m) f.subs (wdM m.constants env) k):=fun {k} hk=>by
   rw[tj _ _ _ _ _ hk]
   have:=J6 hk
   have:=kJ hk
   exact ih _ (by omega) (ng hwf hk) env (by omega)
  refine Evt.succ ?_
  simp only[S9]
  refine Evt.cond (fun e=>Evt.pure ?_) (fun e=>?_)
  ·rw[mJ,if_pos (of_decide_eq_true e)]
  have n1:=of_decide_eq_false e
  refine Evt.cond (fun e=>?_) (fun e=>?_)
  ·have e:=of_decide_eq_true e
   have hwl:f.words.length≤3:=by rw[e]at hw;simpa[hJ]using hw
   refine Evt.C2 (P:=ExP (fun t=>t=f.words.map (wdM m.constants env)) (fun _=>False)) ((Evt.range (fun k t=>t=(f.words.take k).map (wdM m.constants env)) (fun _=>False) (fun _=>False) (by simp) (fun k t hk ht=>?_)).mono fun c hc=>?_) (fun t ht=>?_) (fun _ h=>h.elim)
   ·unfold iA
    refine Evt.bind (hv1 _) fun v hv=>Evt.P6 (Evt.chk ?_ (Evt.pure ?_))
    ·rw[M0,ht];simp only[List.length_append,List.length_map,List.length_take,List.length_cons,List.length_nil];omega
    ·show t++[v]=_
     rw[F8 hk,List.map_append,ht,hv];rfl
   ·cases c with
    |ret r=>exact hc
    |nxt t=>
     have hc:=hc.elim id False.elim
     rw[List.take_length]at hc
     exact hc
   ·have ht:t=_:=ht
    subst ht
    unfold iB
    refine Evt.bind (Dc hm _ _).1 fun v hv=>?_
    subst hv
    refine Evt.bind (FX (by have:=JA hm f.name ((f.words.map (wdM m.constants env)).length:Int);omega) _) fun v hv=>Evt.pure ?_
    rw[hv,mJ,if_neg n1,if_pos e]
    rfl
  have n2:=of_decide_eq_false e
  refine Evt.cond (fun e=>?_) (fun e=>?_)
  ·have e:=of_decide_eq_true e
   have hwl:f.words.length=2:=by rw[e]at hw;simpa[hJ]using hw
   refine Evt.chk (by omega) (Evt.bind (hv1 _) fun v hv=>Evt.chk (by omega) (Evt.bind (hv1 _) fun v2 hv2=>Evt.pure ?_))
   rw[hv,hv2,mJ,if_neg n1,if_neg n2,if_pos e]
  have n3:=of_decide_eq_false e
  refine Evt.cond (fun e=>?_) (fun e=>?_)
  ·have e:=of_decide_eq_true e
   have hsl:f.subs.length=1:=by rw[e]at hs;simp only[arF]at hs;omega
   refine Evt.chk (by omega) (Evt.bind (hsub (by omega)) fun v hv=>Evt.pure ?_)
   rw[hv,mJ,if_neg n1,if_neg n2,if_neg n3,if_pos e]
  have n4:=of_decide_eq_false e
  refine Evt.cond (fun e=>?_) (fun e=>?_)
  ·have e:=of_decide_eq_true e
   have hsl:f.subs.length=2:=by rw[e]at hs;simp only[arF]at hs;omega
   refine Evt.chk (by omega) (Evt.bind (hsub (by omega)) fun v hv=>Evt.chk (eO fun _=>by omega) (Evt.bind (P:=fun w=>v=true→w=vlL m.size.toNat (oO m) f.subs (wdM m.constants env) 1) (Evt.gd (fun _=>(hsub (by omega)).mono fun r hr _=>hr) (fun e e2=>by rw[e]at e2;cases e2)) fun w hw=>Evt.pure ?_))
   rw[mJ,if_neg n1,if_neg n2,if_neg n3,if_neg n4,if_pos e, ←hv]
   cases v with
   |false=>rfl
   |true=>exact hw rfl
  have n5:=of_decide_eq_false e
  refine Evt.cond (fun e=>?_) (fun e=>?_)
  ·have e:=of_decide_eq_true e
   have hsl:f.subs.length=2:=by rw[e]at hs;simp only[arF]at hs;omega
   refine Evt.chk (by omega) (Evt.bind (hsub (by omega)) fun v hv=>Evt.chk (eO fun _=>by omega) (Evt.bind (P:=fun w=>v=false→w=vlL m.size.toNat (oO m) f.subs (wdM m.constants env) 1) (Evt.gd (fun _=>(hsub (by omega)).mono fun r hr _=>hr) (fun e e2=>by rw[e2]at e;cases e)) fun w hw=>Evt.pure ?_))
   rw[mJ,if_neg n1,if_neg n2,if_neg n3,if_neg n4,if_neg n5,if_pos e, ←hv]
   cases v with
   |true=>rfl
   |false=>exact hw rfl
  have n6:=of_decide_eq_false e
  refine Evt.cond (fun e=>?_) (fun e=>?_)
  ·have e:=of_decide_eq_true e
   have hsl:f.subs.length=2:=by rw[e]at hs;simp only[arF]at hs;omega
   refine Evt.chk (by omega) (Evt.bind (hsub (by omega)) fun v hv=>Evt.chk (eO fun _=>by omega) (Evt.bind (P:=fun w=>v=true→w=vlL m.size.toNat (oO m) f.subs (wdM m.constants env) 1) (Evt.gd (fun _=>(hsub (by omega)).mono fun r hr _=>hr) (fun e e2=>by rw[e2]at e;cases e)) fun w hw=>Evt.pure ?_))
   rw[mJ,if_neg n1,if_neg n2,if_neg n3,if_neg n4,if_neg n5,if_neg n6,if_pos e, ←hv]
   cases v with
   |false=>rfl
   |true=>exact hw rfl
  have n7:=of_decide_eq_false e
  have hq:f.kind=8∨f.kind=9:=by
   by_cases h8:f.kind=8∨f.kind=9
   ·exact h8
   ·exfalso
    unfold arF at hs
    rw[if_neg (by omega),if_neg (by omega),if_neg (by omega)]at hs
    omega
  have hsl:f.subs.length=1:=by
   unfold arF at hs
   rw[if_neg (by omega),if_pos (by omega)]at hs
   omega
  have hvl:vl m.size.toNat (oO m) f (wdM m.constants env)=if f.kind=8 then(List.range m.size.toNat).all fun v=>vlL m.size.toNat (oO m) f.subs (upv (wdM m.constants env) f.name (v:Int)) 0 else(List.range m.size.toNat).any fun v=>vlL m.size.toNat (oO m) f.subs (upv (wdM m.constants env) f.name (v:Int)) 0:=by
   rw[mJ,if_neg n1,if_neg n2,if_neg n3,if_neg n4,if_neg n5,if_neg n6,if_neg n7]
  refine Evt.C2 (P:=ExP (fun _=>decide (f.kind=8)=vl m.size.toNat (oO m) f (wdM m.constants env)) (fun r=>r=vl m.size.toNat (oO m) f (wdM m.constants env))) (Evt.CU m.size.toNat (fun k s=>s=(k:Int)∧∀v,v<k→vlL m.size.toNat (oO m) f.subs (upv (wdM m.constants env) f.name (v:Int)) 0=decide (f.kind=8)) _ _ ⟨rfl,fun v hv=>absurd hv (Nat.not_lt_zero _)⟩ (fun k s hk hs=>?_) (fun s hs=>?_)) (fun t ht=>Evt.pure ht) (fun r hr=>hr)
  ·obtain⟨rfl,hall⟩:=hs
   unfold fq
   refine Evt.cond (fun _=>?_) (fun e=>by replace e:=bx e;omega)
   refine Evt.chk (by omega) (Evt.chk (by omega) (Evt.P6 (Evt.chk (by rw[M0];simp only[List.length_append,List.length_cons,List.length_nil];omega) ?_)))
   have h0:0<f.subs.length:=by omega
   have:=J6 h0
   have:=kJ h0
   refine Evt.bind (Dd hm b (Am.get f.subs 0) (by omega) (ng hwf h0) (env++[⟨f.name,(k:Int)⟩]) (by simp only[List.length_append,List.length_cons,List.length_nil];omega)) fun v hv=>?_
   rw[Jz, ←tj _ _ _ _ _ h0]at hv
   refine Evt.cond (fun e=>Evt.pure ?_) (fun e=>Evt.pure ?_)
   ·have e:¬v=decide (f.kind=8):=by simpa using e
    show decide (f.kind=9)=_
    rw[hvl]
    rcases hq with h8|h9
    ·rw[if_pos h8]
     have ev:v=false:=by rw[decide_eq_true h8]at e;simpa using e
     rw[decide_eq_false (by omega)]
     symm
     rw[List.all_eq_false]
     exact⟨k,List.mem_range.2 hk,by rw[←hv,ev];decide⟩
    ·have n8:¬f.kind=8:=by omega
     rw[if_neg n8]
     have ev:v=true:=by rw[decide_eq_false n8]at e;simpa using e
     rw[decide_eq_true h9]
     symm
     rw[List.any_eq_true]
     exact⟨k,List.mem_range.2 hk,by rw[←hv,ev]⟩
   ·have e:v=decide (f.kind=8):=by simpa using e
    rw[cr (by omega) (by omega)]
    refine⟨by omega,fun u hu=>?_⟩
    by_cases eu:u=k
    ·subst eu;rw[←hv,e]
    ·exact hall u (by omega)
  ·obtain⟨rfl,hall⟩:=hs
   unfold fq
   refine Evt.cond (fun e=>by replace e:=bx e;omega) (fun _=>Evt.pure ?_)
   show decide (f.kind=8)=_
   rw[hvl]
   rcases hq with h8|h9
   ·rw[if_pos h8,decide_eq_true h8]
    symm
    rw[List.all_eq_true]
    intro u hu
    rw[hall u (List.mem_range.1 hu),decide_eq_true h8]
   ·have n8:¬f.kind=8:=by omega
    rw[if_neg n8,decide_eq_false n8]
    symm
    rw[List.any_eq_false]
    intro u hu
    rw[hall u (List.mem_range.1 hu),decide_eq_false n8]
    decide
end Go.Proofs.YtanlbioodbnakaaGreatDoor
