import Derived.Test.YtfogbhjeihkliaaGreatDoorDXLaw0
set_option linter.unusedVariables false
set_option linter.unusedSimpArgs false
namespace Go.Am
open Go
section
variable {σ ρ τ:Type} {body:Nat→σ→Option (Ctl ρ σ τ)} {s s' s'':σ} {e:Ex ρ τ}
def gA(body:Nat→σ→Option (Ctl ρ σ τ))(s s':σ):Prop:=∃k N,∀n,N≤n→∀f,P4 (body n) (f+k) s=P4 (body n) f s'
def lD(body:Nat→σ→Option (Ctl ρ σ τ))(s:σ)(e:Ex ρ τ):Prop:=∃k N,∀n,N≤n→∀f,P4 (body n) (f+k) s=some e
theorem gA.refl:gA body s s:=⟨0,0,fun _ _ _=>rfl⟩
theorem gA.trans(h:gA body s s')(k:gA body s' s''):gA body s s'':=by
 obtain⟨a,N,h⟩:=h
 obtain⟨b,M,k⟩:=k
 exact⟨b+a,max N M,fun n hn f=>by rw[←Nat.add_assoc,h n (by omega),k n (by omega)]⟩
theorem gA.ends(h:gA body s s')(k:lD body s' e):lD body s e:=by
 obtain⟨a,N,h⟩:=h
 obtain⟨b,M,k⟩:=k
 exact⟨b+a,max N M,fun n hn f=>by rw[←Nat.add_assoc,h n (by omega),k n (by omega)]⟩
theorem gA.one(h:Evt (fun n=>body n s) (fun c=>c= .nxt s')):gA body s s':=by
 obtain⟨c,rfl,N,h⟩:=h
 exact⟨1,N,fun n hn f=>by show P4 (body n) (f+1) s=_;simp only[P4,h n hn]⟩
theorem lD.brk{t:τ}(h:Evt (fun n=>body n s) (fun c=>c= .brk t)):lD body s (.nxt t):=by
 obtain⟨c,rfl,N,h⟩:=h
 exact⟨1,N,fun n hn f=>by show P4 (body n) (f+1) s=_;simp only[P4,h n hn]⟩
theorem lD.ret{r:ρ}(h:Evt (fun n=>body n s) (fun c=>c= .ret r)):lD body s (.ret r):=by
 obtain⟨c,rfl,N,h⟩:=h
 exact⟨1,N,fun n hn f=>by show P4 (body n) (f+1) s=_;simp only[P4,h n hn]⟩
theorem lD.evt(h:lD body s e):Evt (fun n=>P4 (body n) n s) (fun x=>x=e):=by
 obtain⟨k,N,h⟩:=h
 exact⟨e,rfl,max N k,fun n hn=>by
  have:=h n (by omega) (n-k)
  rwa[show n-k+k=n by omega]at this⟩
end
end Go.Am
namespace Go.Proofs.YtfogbhjeihkliaaGreatDoor
open Go Go.Am
theorem get_mem{α:Type}[Inhabited α]{l:List α}{k:Nat}(h:k<l.length):Am.get l k∈l:=by
 unfold Am.get
 rw[List.getD_eq_getElem?_getD,List.getElem?_eq_getElem h]
 exact List.getElem_mem h
theorem nN{s:w6}{k:Nat}(h:k<s.args.length):SizeOf.sizeOf (Am.get s.args k)<SizeOf.sizeOf s:=by
 cases s with
 |mk b a=>
  have:=List.sizeOf_lt_of_mem (get_mem (l:=a) h)
  show SizeOf.sizeOf (Am.get a k)<_
  simp only[w6.mk.sizeOf_spec]
  omega
theorem ij{α:Type}[Inhabited α]{l:List α}{k:Nat}(h:k<l.length):l.drop k=Am.get l k::l.drop (k+1):=by
 rw[List.drop_eq_getElem_cons h]
 unfold Am.get
 rw[List.getD_eq_getElem?_getD,List.getElem?_eq_getElem h];rfl
def qL(s:w6):Prop:=((s.base=[101]∨s.base=[116])∧s.args.length=0)∨(s.base=[]∧s.args.length=2)
open Classical in
mutual
noncomputable def um:w6→Int→Int→Int×Int
 | .mk base args,d,b=>if 200<b+1∨40<d then(1,b+1)else if qL (.mk base args)then sv args (d+1) (b+1)else(5,b+1)
noncomputable def sv:List w6→Int→Int→Int×Int
 | [],_,b=>(0,b)
 |s::l,d,b=>if(um s d b).1=0 then sv l d (um s d b).2 else um s d b
end
open Classical in
theorem ED(s:w6)(d b:Int):um s d b=if 200<b+1∨40<d then(1,b+1)else if qL s then sv s.args (d+1) (b+1)else(5,b+1):=by
 cases s with
 |mk base args=>rw[um];rfl
theorem oN:∀(m:Nat) (s:w6),SizeOf.sizeOf s≤m→∀d b:Int,0≤d→d≤41→0≤b→b≤200→Evt (fun n=>cZ n s d b) (fun r=>r=um s d b∧(r.1=0→b≤r.2∧r.2≤200)):=by
 intro m
 induction m with
 |zero=>intro s h;cases s;simp only[w6.mk.sizeOf_spec]at h;omega
 |succ m ih=>
  intro s hs d b hd0 hd hb0 hb
  have hw1:wr .i64 (d+1)=d+1:=H9 (by omega) (by omega)
  have hw2:wr .i64 (b+1)=b+1:=H9 (by omega) (by omega)
  refine Evt.succ ?_
  simp only[cZ,hw2]
  rw[ED]
  refine Evt.cond (fun e=>Evt.pure ?_) (fun e=>Evt.cond (fun e2=>Evt.pure ?_) (fun e2=>?_))
  ·replace e:=bx e
   rw[if_pos (by omega)]
   exact⟨rfl,fun h=>absurd (show(1:Int)=0 from h) (by decide)⟩
  ·replace e:=bx e
   rw[if_neg (by omega),if_neg]
   ·exact⟨rfl,fun h=>absurd (show(5:Int)=0 from h) (by decide)⟩
   ·intro hsh
    unfold qL at hsh
    rcases hsh with⟨h1|h1,h2⟩|⟨h1,h2⟩
    ·simp[h1,h2]at e2
    ·simp[h1,h2]at e2
    ·simp[h1,h2]at e2
  ·replace e:=bx e
   have hsh:qL s:=by
    unfold qL
    replace e2:=bx e2
    by_cases h1:s.base=[101]
    ·simp[h1]at e2;left;exact⟨.inl h1,by rw[e2];rfl⟩
    ·by_cases h2:s.base=[116]
     ·simp[h2]at e2;left;exact⟨.inr h2,by rw[e2];rfl⟩
     ·simp[h1,h2]at e2;right;exact⟨e2.1,by omega⟩
   rw[if_neg (by omega),if_pos hsh]
   have hl:s.args.length≤2:=by
    unfold qL at hsh
    omega
   refine Evt.B5 (Evt.range (fun k c=>sv (s.args.drop k) (d+1) c=sv s.args (d+1) (b+1)∧b+1≤c∧c≤200) (fun _=>False) (fun r:Int×Int=>r=sv s.args (d+1) (b+1)∧r.1≠0) ⟨rfl,by omega,by omega⟩ (fun k c hk hj=>?_)) (fun t ht=>Evt.pure ?_) (fun r hr=>⟨hr.1,fun h=>absurd h hr.2⟩)
   ·obtain⟨h1,h2,h3⟩:=hj
    unfold iq
    have hsz:=nN hk
    rw[hw1]
    rw[ij hk,sv]at h1
    refine Evt.bind (ih _ (by omega) _ _ (by omega) (by omega) (by omega) h3) fun v hv=>Evt.cond (fun e=>Evt.pure ?_) (fun e=>Evt.pure ?_)
    ·replace e:=bx e
     obtain⟨rfl,_⟩:=hv
     rw[if_neg e]at h1
     exact⟨h1,e⟩
    ·replace e:=bx e
     obtain⟨rfl,hv2⟩:=hv
     rw[if_pos e]at h1
     have:=hv2 e
     exact⟨h1,by omega,by omega⟩
   ·obtain⟨h1,h2,h3⟩:=ht.elim id False.elim
    rw[List.drop_length,sv]at h1
    unfold iu at*
    exact⟨h1,fun _=>⟨by show b≤t;omega,h3⟩⟩
theorem pR(s:w6):Evt (fun n=>gI n s) (fun f=>f.code=(um s 1 0).1):=by
 unfold gI
 exact Evt.bind (oN _ s (Nat.le_refl _) _ _ (by omega) (by omega) (by omega) (by omega)) fun v hv=>Evt.pure (by rw[hv.1])
def Live{α:Type}(st:List α×Int×Nat)(l:List α)(c:Int):Prop:=st.1.take st.2.2=l∧st.2.2=l.length∧st.2.1=c
section
variable {α:Type} {st:List α×Int×Nat} {rest:List α} {x:α} {c:Int}
theorem Live.le{l:List α}(h:Live st l c):st.2.2≤st.1.length:=by
 have h1:=congrArg List.length h.1
 rw[List.length_take]at h1
 have h2:=h.2.1
 omega
theorem Live.sp(h:Live st (rest++[x]) c):st.2.2=rest.length+1:=by rw[h.2.1];simp
theorem Live.top[Inhabited α](h:Live st (rest++[x]) c):Am.get st.1 rest.length=x:=by
 have h1:Am.get (st.1.take st.2.2) rest.length=Am.get st.1 rest.length:=oL (by rw[h.sp];omega)
 rw[←h1,h.1]
 exact qw
theorem Live.pop(h:Live st (rest++[x]) c):st.1.take rest.length=rest:=by
 have h1:=congrArg (List.take rest.length) h.1
 rw[List.take_take,List.take_left,h.sp,Nat.min_eq_left (by omega)]at h1
 exact h1
end
theorem Oo(s:w6){d b:Int}(h0:0≤d)(h1:d≤41)(h2:0≤b)(h3:b≤200)(h:(um s d b).1=0):b≤(um s d b).2∧(um s d b).2≤200:=by
 obtain⟨r,⟨rfl,hr⟩,_⟩:=oN _ s (Nat.le_refl _) d b h0 h1 h2 h3
 exact hr h
theorem CU:∀(m:Nat) (s:w6),SizeOf.sizeOf s≤m→∀(rest:List y7) (d c:Int) (st:List y7×Int×Nat),Live st (rest++[⟨s,d⟩]) c→0≤d→d≤41→(rest.length:Int)≤c→c≤200→
 ((um s d c).1=0→∃st',Live st' rest (um s d c).2∧gA (fun _=>F7) st st')∧((um s d c).1≠0→∃code:Int,code≠0∧lD (fun _=>F7) st (.ret code)):=by
 intro m
 induction m with
 |zero=>intro s h;cases s;simp only[w6.mk.sizeOf_spec]at h;omega
 |succ m ih=>
  intro s hs rest d c st kX hd0 hd hrc hc
  have hsp:=kX.sp
  have hle:=kX.le
  have MP:=kX.top
  have Sz:=kX.pop
  have MQ:=kX.2.2
  have hw:wr .i64 ((st.2.2:Int)-1)=(rest.length:Int):=by rw[H9 (by omega) (by omega)];omega
  have hwc:wr .i64 (st.2.1+1)=c+1:=by rw[MQ];exact H9 (by omega) (by omega)
  have hwd:wr .i64 (d+1)=d+1:=H9 (by omega) (by omega)
  have hgo:∀ {Q:Ctl Int (List y7×Int×Nat) Unit→Prop},(200<c+1∨40<d→Q (.ret 1))→(¬(200<c+1∨40<d)→¬qL s→Q (.ret 5))→
   (¬(200<c+1∨40<d)→s.base=[]→s.args.length=2→Q (.nxt (rest++[⟨Am.get s.args 1,d+1⟩,⟨Am.get s.args 0,d+1⟩],c+1,(rest++[(⟨Am.get s.args 1,d+1⟩:y7),⟨Am.get s.args 0,d+1⟩]).length)))→
   (¬(200<c+1∨40<d)→s.args.length=0→s.base≠ []→qL s→Q (.nxt (st.1,c+1,rest.length)))→Evt (fun _:Nat=>F7 st) Q:=by
   intro Q q1 q2 q3 q4
   unfold F7
   simp only[hw,hwc,Int.toNat_natCast,MP,Sz,hwd]
   refine Evt.cond (fun _=>?_) (fun e=>?_)
   ·refine Evt.chk hle (Evt.chk (by omega) (Evt.chk (by omega) (Evt.cond (fun e=>Evt.pure (q1 ?_)) (fun e=>?_))))
    ·replace e:=bx e
     exact e
    ·replace e:=bx e
     have hn:¬(200<c+1∨40<d):=by omega
     refine Evt.cond (fun e1=>?_) (fun e1=>?_)
     ·replace e1:=bx e1
      refine Evt.cond (fun e2=>Evt.pure (q2 hn fun hsh=>?_)) (fun e2=>?_)
      ·replace e2:=bx e2
       unfold qL at hsh
       rcases hsh with⟨h1|h1,_⟩|⟨_,h2⟩
       ·rw[e1]at h1;cases h1
       ·rw[e1]at h1;cases h1
       ·omega
      ·replace e2:=bx e2
       refine Evt.chk (by omega) (Evt.chk (by omega) (Evt.chk (by omega) (Evt.eE (Evt.chk ?_ (Evt.pure (q3 hn e1 (by omega)))))))
       rw[bO]
       simp only[List.length_append,List.length_cons,List.length_nil]
       omega
     ·replace e1:=bx e1
      refine Evt.cond (fun e2=>Evt.pure (q2 hn fun hsh=>?_)) (fun e2=>Evt.pure ?_)
      ·unfold qL at hsh
       rcases hsh with⟨h1|h1,h2⟩|⟨h1,_⟩
       ·simp[h1,h2]at e2
       ·simp[h1,h2]at e2
       ·exact e1 h1
      ·replace e2:=bx e2
       have h0:s.args.length=0:=by
        have:=e2.2
        omega
       refine q4 hn h0 e1 (.inl ⟨?_,h0⟩)
       by_cases h1:s.base=[101]
       ·exact .inl h1
       ·by_cases h2:s.base=[116]
        ·exact .inr h2
        ·simp[h1,h2]at e2
   ·replace e:=bx e
    omega
  rw[ED]
  by_cases hn:200<c+1∨40<d
  ·rw[if_pos hn]
   exact⟨fun h=>absurd (show(1:Int)=0 from h) (by decide),fun _=>⟨1,by decide,lD.ret (hgo (fun _=>rfl) (fun h=>absurd hn h) (fun h=>absurd hn h) (fun h=>absurd hn h))⟩⟩
  ·rw[if_neg hn]
   by_cases hsh:qL s
   ·rw[if_pos hsh]
    rcases hsh with⟨hb,h0⟩|⟨hb,h2⟩
    ·have hb':s.base≠ []:=by
      intro h;rw[h]at hb
      rcases hb with h|h<;>cases h
     have hnil:s.args=[]:=List.length_eq_zero_iff.1 h0
     rw[hnil,sv]
     refine⟨fun _=>⟨(st.1,c+1,rest.length),⟨Sz,rfl,rfl⟩,gA.one (hgo (Q:=fun c'=>c'= .nxt (st.1,c+1,rest.length)) (fun h=>absurd h hn) (fun _ h=>absurd (.inl ⟨hb,h0⟩) h) (fun _ h=>absurd h hb') (fun _ _ _ _=>rfl))⟩,fun h=>absurd rfl h⟩
    ·have hstep:=gA.one (hgo (Q:=fun c'=>c'= .nxt (rest++[⟨Am.get s.args 1,d+1⟩,⟨Am.get s.args 0,d+1⟩],c+1,(rest++[(⟨Am.get s.args 1,d+1⟩:y7),⟨Am.get s.args 0,d+1⟩]).length)) (fun h=>absurd h hn) (fun _ h=>absurd (.inr ⟨hb,h2⟩) h) (fun _ _ _=>rfl) (fun _ _ h=>absurd hb h))
     have s0:=nN (s:=s) (k:=0) (by omega)
     have s1:=nN (s:=s) (k:=1) (by omega)
     have hargs:s.args=[Am.get s.args 0,Am.get s.args 1]:=by
      have e0:=ij (l:=s.args) (k:=0) (by omega)
      have e1:=ij (l:=s.args) (k:=1) (by omega)
      have e2:s.args.drop 2=[]:=List.drop_eq_nil_of_le (by omega)
      rw[List.drop_zero]at e0
      rw[e2]at e1
      rw[e1]at e0
      exact e0
     have Lj:(((rest++[(⟨Am.get s.args 1,d+1⟩:y7)]).length:Nat):Int)≤c+1:=by simp;omega
     have hl1:Live (rest++[(⟨Am.get s.args 1,d+1⟩:y7),⟨Am.get s.args 0,d+1⟩],c+1,(rest++[(⟨Am.get s.args 1,d+1⟩:y7),⟨Am.get s.args 0,d+1⟩]).length) ((rest++[⟨Am.get s.args 1,d+1⟩])++[⟨Am.get s.args 0,d+1⟩]) (c+1):=
      ⟨by simp[List.take_of_length_le],by simp,rfl⟩
     have i0:=ih (Am.get s.args 0) (by omega) _ (d+1) (c+1) _ hl1 (by omega) (by omega) Lj (by omega)
     generalize hg0:Am.get s.args 0=a0 at*
     generalize hg1:Am.get s.args 1=a1 at*
     rw[hargs,sv]
     by_cases h0:(um a0 (d+1) (c+1)).1=0
     ·rw[if_pos h0,sv]
      have hbd:=Oo a0 (by omega) (by omega) (by omega) (by omega) h0
      obtain⟨st',hl2,UH⟩:=i0.1 h0
      have i1:=ih a1 (by omega) rest (d+1) _ st' hl2 (by omega) (by omega) (by omega) hbd.2
      by_cases h1:(um a1 (d+1) (um a0 (d+1) (c+1)).2).1=0
      ·rw[if_pos h1,sv]
       obtain⟨Gq,hl3,VW⟩:=i1.1 h1
       exact⟨fun _=>⟨Gq,hl3,(hstep.trans UH).trans VW⟩,fun h=>absurd rfl h⟩
      ·rw[if_neg h1]
       obtain⟨code,hc1,hc2⟩:=i1.2 h1
       exact⟨fun h=>absurd h h1,fun _=>⟨code,hc1,(hstep.trans UH).ends hc2⟩⟩
     ·rw[if_neg h0]
      obtain⟨code,hc1,hc2⟩:=i0.2 h0
      exact⟨fun h=>absurd h h0,fun _=>⟨code,hc1,hstep.ends hc2⟩⟩
   ·rw[if_neg hsh]
    exact⟨fun h=>absurd (show(5:Int)=0 from h) (by decide),fun _=>⟨5,by decide,lD.ret (hgo (Q:=fun c'=>c'= .ret 5) (fun h=>absurd h hn) (fun _ _=>rfl) (fun _ h1 h2=>absurd (.inr ⟨h1,h2⟩) hsh) (fun _ _ _ h=>absurd h hsh))⟩⟩
theorem oO(s:w6):Evt (fun n=>U4 n s) (fun r=>r=0↔(um s 1 0).1=0):=by
 unfold U4
 have h:=CU _ s (Nat.le_refl _) [] 1 0 ([(y7.mk s 1)],0,1) ⟨rfl,rfl,rfl⟩ (by omega) (by omega) (by simp) (by omega)
 by_cases h0:(um s 1 0).1=0
 ·obtain⟨st',hl,hst⟩:=h.1 h0
  have TV:lD (fun _=>F7) st' (.nxt ()):=lD.brk (by
   have:=hl.2.1
   unfold F7
   refine Evt.cond (fun e=>?_) (fun _=>Evt.pure rfl)
   replace e:=bx e
   have h2:st'.2.2=0:=this
   omega)
  refine Evt.B5 (hst.ends TV).evt (fun t ht=>?_) (fun r hr=>by cases hr)
  unfold X1
  exact Evt.pure ⟨fun _=>h0,fun _=>rfl⟩
 ·obtain⟨code,hc1,hc2⟩:=h.2 h0
  refine Evt.B5 hc2.evt (fun t ht=>by cases ht) (fun r hr=>?_)
  cases hr
  exact⟨fun h=>absurd h hc1,fun h=>absurd h h0⟩
theorem nO{s:x9}{k:Nat}(h:k<s.args.length):SizeOf.sizeOf (Am.get s.args k)<SizeOf.sizeOf s:=by
 cases s with
 |mk a b c d e=>
  have:=List.sizeOf_lt_of_mem (get_mem (l:=e) h)
  show SizeOf.sizeOf (Am.get e k)<_
  simp only[x9.mk.sizeOf_spec]
  omega
def NoT(s:w6):Prop:=s.base=[]∧s.args.length=0
open Classical in
noncomputable def hdT(t:x9)(b:Int):Int:=
 if t.kind=1 then(if t.index≠0∨t.args.length≠0 then 5 else if ¬wj t.name then 10 else if(um t.type 1 0).1≠0 then 12 else 0)
 else if t.kind=2 then(if t.name≠ []∨¬NoT t.type∨t.args.length≠0 then 5 else if t.index<0∨b≤t.index then 15 else 0)
 else if t.kind=3 then(if t.name≠ []∨t.index≠0∨t.args.length≠1 then 5 else if(um t.type 1 0).1≠0 then 12 else 0)
 else if t.kind=4 then(if t.name≠ []∨t.index≠0∨¬NoT t.type∨t.args.length≠2 then 5 else 0)
 else 4
mutual
noncomputable def rX:x9→Int→Int→Int→w9×Int
 | .mk kind name index type args,d,b,c=>if 200<c+1∨40<d then(⟨1,c⟩,c+1)else if hdT (.mk kind name index type args) b=0 then mG args (d+1) (if kind=3 then b+1 else b) (c+1)else(⟨hdT (.mk kind name index type args) b,c⟩,c+1)
noncomputable def mG:List x9→Int→Int→Int→w9×Int
 | [],_,_,c=>(⟨0,0⟩,c)
 |t::l,d,b,c=>if(rX t d b c).1.code=0 then mG l d b (rX t d b c).2 else rX t d b c
end
theorem yE(t:x9)(d b c:Int):rX t d b c=if 200<c+1∨40<d then(⟨1,c⟩,c+1)else if hdT t b=0 then mG t.args (d+1) (if t.kind=3 then b+1 else b) (c+1)else(⟨hdT t b,c⟩,c+1):=by
 cases t with
 |mk kind name index type args=>rw[rX];rfl
theorem yF(s:w6):Evt (fun _=>rY s) (fun v=>v=true↔NoT s):=by
 unfold rY
 refine Evt.pure ?_
 unfold NoT
 by_cases h:s.base=[]
 ·simp only[h,decide_true,cond_true,decide_eq_true_eq,true_and];omega
 ·simp[h]
def TvR(t:x9)(d b c:Int)(r:w9×Int):Prop:=r=rX t d b c∧(r.1.code=0→r.1=⟨0,0⟩∧c≤r.2∧r.2≤200)
theorem uo{t:x9}{d b c x:Int}(hn:¬(200<c+1∨40<d))(h:hdT t b=x)(h0:x≠0):Evt (fun _=>(Q8 x c).bind fun v=>some (v,c+1)) (TvR t d b c):=
 Evt.bind (P:=fun v=>v=⟨x,c⟩) (Evt.pure rfl) fun v hv=>Evt.pure (by
  subst hv
  refine⟨?_,fun h=>absurd h h0⟩
  rw[yE,if_neg hn,if_neg (by rw[h];exact h0),h])
theorem qM:∀(m:Nat) (t:x9),SizeOf.sizeOf t≤m→∀d b c:Int,0≤d→d≤41→0≤b→b≤d→0≤c→c≤200→Evt (fun n=>eR n t d b c) (TvR t d b c):=by
 intro m
 induction m with
 |zero=>intro s h;cases s;simp only[x9.mk.sizeOf_spec]at h;omega
 |succ m ih=>
  intro t ht d b c hd0 hd hb0 hb hc0 hc
  have hwc:wr .i64 (c+1)=c+1:=H9 (by omega) (by omega)
  have hwd:wr .i64 (d+1)=d+1:=H9 (by omega) (by omega)
  have hwb:wr .i64 (b+1)=b+1:=H9 (by omega) (by omega)
  refine Evt.succ ?_
  simp only[eR,hwc,hwd,hwb]
  refine Evt.cond (fun e=>?_) (fun e=>?_)
  ·replace e:=bx e
   refine Evt.bind (P:=fun v=>v=⟨1,c⟩) (Evt.pure rfl) fun v hv=>Evt.pure ?_
   subst hv
   exact⟨by rw[yE,if_pos e],fun h=>absurd (show(1:Int)=0 from h) (by decide)⟩
  ·replace e:=bx e
   have hn:¬(200<c+1∨40<d):=by omega
   have Bn:∀ {r:w9×Int},hdT t b=0→r=mG t.args (d+1) (if t.kind=3 then b+1 else b) (c+1)→(r.1.code=0→r.1=⟨0,0⟩∧c≤r.2∧r.2≤200)→TvR t d b c r:=fun h1 h2 h3=>⟨by rw[yE,if_neg hn,if_pos h1];exact h2,h3⟩
   refine Evt.cond (fun k=>?_) (fun k1=>Evt.cond (fun k=>?_) (fun k2=>Evt.cond (fun k=>?_) (fun k3=>Evt.cond (fun k=>?_) (fun k4=>?_))))
   ·replace k:=bx k
    refine Evt.cond (fun e1=>uo hn ?_ (by decide)) (fun e1=>Evt.bind (qt _) fun v hv=>Evt.cond (fun e2=>uo hn ?_ (by decide)) (fun e2=>Evt.bind (pR _) fun f hf=>Evt.cond (fun e3=>uo hn ?_ (by decide)) (fun e3=>Evt.pure ?_)))
    ·replace e1:=bx e1
     unfold hdT
     rw[if_pos k,if_pos (by omega)]
    ·replace e1:=bx e1;replace e2:=bx e2
     unfold hdT
     rw[if_pos k,if_neg (by omega),if_pos]
     intro h
     rw[hv,pP h]at e2
     cases e2
    ·replace e1:=bx e1;replace e2:=bx e2;replace e3:=bx e3
     unfold hdT
     have hnm:wj t.name:=Classical.byContradiction fun h=>by rw[hv,fq h]at e2;cases e2
     rw[if_pos k,if_neg (by omega),if_neg (fun h=>h hnm),if_pos (by rw[←hf];exact e3)]
    ·replace e1:=bx e1;replace e2:=bx e2;replace e3:=bx e3
     have hnm:wj t.name:=Classical.byContradiction fun h=>by rw[hv,fq h]at e2;cases e2
     have hnil:t.args=[]:=List.length_eq_zero_iff.1 (by omega)
     refine Bn ?_ ?_ (fun _=>⟨rfl,by show c≤c+1;omega,by show c+1≤200;omega⟩)
     ·unfold hdT
      rw[if_pos k,if_neg (by omega),if_neg (fun h=>h hnm),if_neg (by rw[←hf];exact fun h=>h e3)]
     ·rw[hnil,mG]
   ·replace k1:=bx k1;replace k:=bx k
    refine Evt.bind (P:=fun v=>t.name=[]→(v=true↔NoT t.type)) (Evt.gd (fun _=>(yF _).mono fun r hr _=>hr) (fun e h=>by simp[h]at e)) fun v hv=>Evt.cond (fun e1=>uo hn ?_ (by decide)) (fun e1=>Evt.cond (fun e2=>uo hn ?_ (by decide)) (fun e2=>Evt.pure ?_))
    ·replace e1:=bx e1
     unfold hdT
     rw[if_neg k1,if_pos k,if_pos]
     rcases e1 with(e1|e1)|e1
     ·exact .inl e1
     ·by_cases h:t.name=[]
      ·exact .inr (.inl fun h2=>by rw[(hv h).2 h2]at e1;cases e1)
      ·exact .inl h
     ·exact .inr (.inr (by omega))
    ·replace e1:=bx e1;replace e2:=bx e2
     unfold hdT
     rw[if_neg k1,if_pos k,if_neg,if_pos (by omega)]
     rintro(h|h|h)
     ·exact h e1.1.1
     ·exact h ((hv e1.1.1).1 e1.1.2)
     ·omega
    ·replace e1:=bx e1;replace e2:=bx e2
     have hnil:t.args=[]:=List.length_eq_zero_iff.1 (by omega)
     refine Bn ?_ ?_ (fun _=>⟨rfl,by show c≤c+1;omega,by show c+1≤200;omega⟩)
     ·unfold hdT
      rw[if_neg k1,if_pos k,if_neg,if_neg (by omega)]
      rintro(h|h|h)
      ·exact h e1.1.1
      ·exact h ((hv e1.1.1).1 e1.1.2)
      ·omega
     ·rw[hnil,mG]
   ·replace k1:=bx k1;replace k2:=bx k2;replace k:=bx k
    refine Evt.cond (fun e1=>uo hn ?_ (by decide)) (fun e1=>?_)
    ·replace e1:=bx e1
     unfold hdT
     rw[if_neg k1,if_neg k2,if_pos k,if_pos (by rcases e1 with(e1|e1)|e1;exact .inl e1;exact .inr (.inl e1);exact .inr (.inr (by omega)))]
    ·replace e1:=bx e1
     have h5:¬(t.name≠ []∨t.index≠0∨t.args.length≠1):=by
      rintro(h|h|h)
      ·exact h e1.1.1
      ·exact h e1.1.2
      ·omega
     refine Evt.bind (pR _) fun f hf=>Evt.cond (fun e3=>uo hn ?_ (by decide)) (fun e3=>?_)
     ·replace e3:=bx e3
      unfold hdT
      rw[if_neg k1,if_neg k2,if_pos k,if_neg h5,if_pos (by rw[←hf];exact e3)]
     ·replace e3:=bx e3
      have h0:hdT t b=0:=by
       unfold hdT
       rw[if_neg k1,if_neg k2,if_pos k,if_neg h5,if_neg (by rw[←hf];exact fun h=>h e3)]
      have hsz:=nO (s:=t) (k:=0) (by omega)
      have hargs:t.args=[Am.get t.args 0]:=by
       have e0:=ij (l:=t.args) (k:=0) (by omega)
       have e2:t.args.drop 1=[]:=List.drop_eq_nil_of_le (by omega)
       rw[List.drop_zero]at e0
       rw[e2]at e0
       exact e0
      refine Evt.chk (by omega) (Evt.bind (ih _ (by omega) _ _ _ (by omega) (by omega) (by omega) (by omega) (by omega) (by omega)) fun v hv=>Evt.pure (Bn h0 ?_ fun h=>?_))
      ·rw[hargs,mG,if_pos k]
       obtain⟨hv1,hv2⟩:=hv
       by_cases hz:(rX (Am.get t.args 0) (d+1) (b+1) (c+1)).1.code=0
       ·rw[if_pos hz,mG, ←hv1]
        rw[←hv1]at hz
        rw[←(hv2 hz).1]
       ·rw[if_neg hz, ←hv1]
      ·have:=hv.2 h
       exact⟨this.1,by show c≤v.2;omega,this.2.2⟩
   ·replace k1:=bx k1;replace k2:=bx k2;replace k3:=bx k3;replace k:=bx k
    refine Evt.bind (P:=fun v=>t.name=[]→t.index=0→(v=true↔NoT t.type)) (Evt.gd (fun _=>(yF _).mono fun r hr _ _=>hr) (fun e h h2=>by simp[h,h2]at e)) fun v hv=>Evt.cond (fun e1=>uo hn ?_ (by decide)) (fun e1=>?_)
    ·replace e1:=bx e1
     unfold hdT
     rw[if_neg k1,if_neg k2,if_neg k3,if_pos k,if_pos]
     rcases e1 with((e1|e1)|e1)|e1
     ·exact .inl e1
     ·exact .inr (.inl e1)
     ·by_cases h:t.name=[]
      ·by_cases h3:t.index=0
       ·exact .inr (.inr (.inl fun h2=>by rw[(hv h h3).2 h2]at e1;cases e1))
       ·exact .inr (.inl h3)
      ·exact .inl h
     ·exact .inr (.inr (.inr (by omega)))
    ·replace e1:=bx e1
     have h0:hdT t b=0:=by
      unfold hdT
      rw[if_neg k1,if_neg k2,if_neg k3,if_pos k,if_neg]
      rintro(h|h|h|h)
      ·exact h e1.1.1.1
      ·exact h e1.1.1.2
      ·exact h ((hv e1.1.1.1 e1.1.1.2).1 e1.1.2)
      ·omega
     have s0:=nO (s:=t) (k:=0) (by omega)
     have s1:=nO (s:=t) (k:=1) (by omega)
     have hargs:t.args=[Am.get t.args 0,Am.get t.args 1]:=by
      have e0:=ij (l:=t.args) (k:=0) (by omega)
      have e1:=ij (l:=t.args) (k:=1) (by omega)
      have e2:t.args.drop 2=[]:=List.drop_eq_nil_of_le (by omega)
      rw[List.drop_zero]at e0
      rw[e2]at e1
      rw[e1]at e0
      exact e0
     refine Evt.chk (by omega) (Evt.bind (ih _ (by omega) _ _ _ (by omega) (by omega) (by omega) (by omega) (by omega) (by omega)) fun v hv=>?_)
     obtain⟨hv1,hv2⟩:=hv
     refine Evt.cond (fun e3=>Evt.pure (Bn h0 ?_ fun h=>?_)) (fun e3=>?_)
     ·replace e3:=bx e3
      rw[hv1]at e3
      rw[hargs,mG,if_neg k3,if_neg e3, ←hv1]
     ·replace e3:=bx e3
      exact absurd h e3
     ·replace e3:=bx e3
      have hb2:=hv2 e3
      rw[hv1]at e3
      refine Evt.chk (by omega) (Evt.bind (ih _ (by omega) _ _ _ (by omega) (by omega) (by omega) (by omega) (by omega) (by omega)) fun u hu=>Evt.pure (Bn h0 ?_ fun h=>?_))
      ·rw[hargs,mG,if_neg k3,if_pos e3,mG, ←hv1]
       obtain⟨hu1,hu2⟩:=hu
       by_cases hz:(rX (Am.get t.args 1) (d+1) b v.2).1.code=0
       ·rw[if_pos hz,mG, ←hu1]
        rw[←hu1]at hz
        rw[←(hu2 hz).1]
       ·rw[if_neg hz, ←hu1]
      ·have:=hu.2 h
       exact⟨this.1,by show c≤u.2;omega,this.2.2⟩
   ·replace k1:=bx k1;replace k2:=bx k2;replace k3:=bx k3;replace k4:=bx k4
    exact uo hn (by unfold hdT;rw[if_neg k1,if_neg k2,if_neg k3,if_neg k4]) (by decide)
theorem EF(s:Bs):Evt (fun n=>dc n s) (fun b=>b=yw s):=by
 unfold dc
 refine Evt.cond (fun h=>Evt.pure (fq fun hn=>?_).symm) (fun h=>?_)
 ·obtain⟨h1,h2,h3,_⟩:=hn
  replace h:=bx h
  omega
 replace h:=bx h
 refine Evt.B5 (P:=ExP (fun _=>yw s=true) (fun b=>b=false∧yw s=false)) (Evt.loop (fun i:Int=>(s.length-i).toNat) (fun i=>0≤i∧i≤s.length∧∀j:Nat,(j:Int)<i→OkC (B0 s (j:Int))∧(j=0→97≤B0 s 0∧B0 s 0≤122)) _ _ ⟨Int.le_refl _,by omega,fun j hj=>by omega⟩ (fun i hi=>?_)) (fun t ht=>Evt.pure ht.symm) (fun r hr=>by rw[hr.1,hr.2])
 obtain⟨h0,h1,h2⟩:=hi
 unfold dI
 refine Evt.cond (fun e=>?_) (fun e=>Evt.pure ?_)
 ·replace e:=bx e
  have hw:wr .i64 (i+1)=i+1∨True:=.inr trivial
  refine Evt.chk ⟨h0,e⟩ (Evt.cond (fun e2=>Evt.pure ⟨rfl,fq fun hn=>?_⟩) (fun e2=>Evt.pure ?_))
  ·replace e2:=bx e2
   have h3:=hn.2.2.2 i.toNat (by omega)
   rw[show((i.toNat:Nat):Int)=i by omega]at h3
   unfold OkC at h3
   have h4:=hn.2.2.1
   by_cases hi0:i=0
   ·subst hi0;omega
   ·omega
  ·replace e2:=bx e2
   have hl:s.length≤30:=by omega
   rw[H9 (by omega) (by omega)]
   refine⟨⟨by omega,by omega,fun j hj=>?_⟩,by omega⟩
   by_cases ej:(j:Int)=i
   ·rw[ej]
    unfold OkC
    by_cases hi0:i=0
    ·subst hi0
     by_cases hc:97≤B0 s 0∧B0 s 0≤122
     ·exact⟨.inl hc,fun _=>hc⟩
     ·exact absurd rfl (e2 (by omega)).1
    ·exact⟨by omega,fun h=>by omega⟩
   ·exact h2 j (by omega)
 ·replace e:=bx e
  exact pP ⟨by omega,by omega,(h2 0 (by omega)).2 rfl,fun k hk=>(h2 k (by omega)).1⟩
theorem CV(s:w6):Evt (fun _=>bI s) (fun v=>v=true↔NoT s):=by
 unfold bI
 refine Evt.pure ?_
 unfold NoT
 by_cases h:s.base=[]
 ·simp only[h,decide_true,cond_true,decide_eq_true_eq,true_and];omega
 ·simp[h]
theorem BF{α:Type}{x:Option α}{d:α}:gd false x d=some d:=rfl
theorem uq{α:Type}{x:Option α}{d:α}:gd true x d=x:=rfl
abbrev TAt:=y3
theorem EG{t:x9}{d b c:Int}{rest:List TAt}{st:List TAt×Int×Nat}(kX:Live st (rest++[⟨t,d,b⟩]) c)(hc0:0≤c)(hrc:(rest.length:Int)≤c)(hc:c≤200){Q:Ctl w9 (List TAt×Int×Nat) Unit→Prop}
 (q1:200<c+1∨40<d→Evt (fun n=>D1 n st 1) Q) (q2:¬(200<c+1∨40<d)→Evt (fun n=>D1 n st (hdT t b)) Q):Evt (fun n=>C6 n st) Q:=by
 have hsp:=kX.sp
 have hle:=kX.le
 have MP:=kX.top
 have MQ:=kX.2.2
 have hw:wr .i64 ((st.2.2:Int)-1)=(rest.length:Int):=by rw[H9 (by omega) (by omega)];omega
 unfold C6
 simp only[hw,Int.toNat_natCast,MP,MQ]
 refine Evt.cond (fun _=>?_) (fun e=>?_)
 ·refine Evt.chk hle (Evt.chk (by omega) (Evt.chk (by omega) (Evt.cond (fun e=>q1 ?_) (fun e=>?_))))
  ·replace e:=bx e
   omega
  ·replace e:=bx e
   have q2:=q2 (by omega)
   refine Evt.cond (fun k=>?_) (fun k=>?_)
   ·replace k:=bx k
    have:hdT t b=4:=by
     unfold hdT
     rw[if_neg (by omega),if_neg (by omega),if_neg (by omega),if_neg (by omega)]
    rw[this]at q2
    exact q2
   ·replace k:=bx k
    refine Evt.chk (by omega) ?_
    have hk:t.kind=1∨t.kind=2∨t.kind=3∨t.kind=4:=by omega
    rcases hk with hk|hk|hk|hk
    ·have g1:Am.get [0,0,0,1,2] (Int.toNat 1)=(0:Int):=rfl
     simp only[hk,g1,Int.reduceEq,decide_true,decide_false,cond_true,cond_false,Bool.not_true,Bool.and_false,BF,uq,Option.bind_some]
     refine Evt.cond (fun e1=>?_) (fun e1=>Evt.bind (EF _) fun v hv=>Evt.cond (fun e2=>?_) (fun e2=>Evt.bind (oO _) fun f hf=>Evt.cond (fun e3=>?_) (fun e3=>?_)))
     ·have:hdT t b=5:=by
       unfold hdT
       rw[if_pos hk,if_pos]
       by_cases h1:(t.args.length:Int)=0
       ·by_cases h2:t.index=0
        ·simp[h1,h2]at e1
        ·exact .inl h2
       ·exact .inr (by omega)
      rw[this]at q2;exact q2
     ·have h5:¬(t.index≠0∨t.args.length≠0):=by
       rintro(h|h)
       ·simp[h]at e1
       ·simp[h]at e1
      have:hdT t b=10:=by
       unfold hdT
       rw[if_pos hk,if_neg h5,if_pos]
       intro h
       rw[hv,pP h]at e2
       cases e2
      rw[this]at q2;exact q2
     ·have h5:¬(t.index≠0∨t.args.length≠0):=by
       rintro(h|h)
       ·simp[h]at e1
       ·simp[h]at e1
      have hnm:wj t.name:=Classical.byContradiction fun h=>by rw[hv,fq h]at e2;cases e2
      replace e3:=bx e3
      have:hdT t b=12:=by
       unfold hdT
       rw[if_pos hk,if_neg h5,if_neg (fun h=>h hnm),if_pos (fun h=>e3 (hf.2 h))]
      rw[this]at q2;exact q2
     ·have h5:¬(t.index≠0∨t.args.length≠0):=by
       rintro(h|h)
       ·simp[h]at e1
       ·simp[h]at e1
      have hnm:wj t.name:=Classical.byContradiction fun h=>by rw[hv,fq h]at e2;cases e2
      replace e3:=bx e3
      have:hdT t b=0:=by
       unfold hdT
       rw[if_pos hk,if_neg h5,if_neg (fun h=>h hnm),if_neg (fun h=>h (hf.1 e3))]
      rw[this]at q2;exact q2
    ·have g1:Am.get [0,0,0,1,2] (Int.toNat 2)=(0:Int):=rfl
     have k1:¬t.kind=1:=by omega
     simp only[hk,g1,Int.reduceEq,decide_true,decide_false,cond_true,cond_false,Bool.not_true,Bool.not_false,Bool.and_false,Bool.and_true,BF,uq,Option.bind_some]
     refine Evt.bind (P:=fun v=>t.args.length=0∧t.name=[]→(v=true↔NoT t.type)) (Evt.gd (fun _=>(CV _).mono fun r hr _=>hr) (fun e h=>by simp[h]at e)) fun v hv=>Evt.cond (fun e1=>?_) (fun e1=>Evt.cond (fun e2=>?_) (fun e2=>?_))
     ·have:hdT t b=5:=by
       unfold hdT
       rw[if_neg k1,if_pos hk,if_pos]
       by_cases h1:t.args.length=0
       ·by_cases h2:t.name=[]
        ·have h3:=hv ⟨h1,h2⟩
         refine .inr (.inl fun h4=>?_)
         simp[h1,h2,h3.2 h4]at e1
        ·exact .inl h2
       ·exact .inr (.inr h1)
      rw[this]at q2;exact q2
     ·have h5:¬(t.name≠ []∨¬NoT t.type∨t.args.length≠0):=by
       rintro(h|h|h)
       ·simp[h]at e1
       ·by_cases h1:t.args.length=0
        ·by_cases h2:t.name=[]
         ·have h3:=hv ⟨h1,h2⟩
          have h4:v=false:=by cases v with
           |false=>rfl
           |true=>exact absurd (h3.1 rfl) h
          simp[h4]at e1
         ·simp[h2]at e1
        ·simp[h1]at e1
       ·simp[h]at e1
      replace e2:=bx e2
      have:hdT t b=15:=by
       unfold hdT
       rw[if_neg k1,if_pos hk,if_neg h5,if_pos e2]
      rw[this]at q2;exact q2
     ·have h5:¬(t.name≠ []∨¬NoT t.type∨t.args.length≠0):=by
       rintro(h|h|h)
       ·simp[h]at e1
       ·by_cases h1:t.args.length=0
        ·by_cases h2:t.name=[]
         ·have h3:=hv ⟨h1,h2⟩
          have h4:v=false:=by cases v with
           |false=>rfl
           |true=>exact absurd (h3.1 rfl) h
          simp[h4]at e1
         ·simp[h2]at e1
        ·simp[h1]at e1
       ·simp[h]at e1
      replace e2:=bx e2
      have:hdT t b=0:=by
       unfold hdT
       rw[if_neg k1,if_pos hk,if_neg h5,if_neg (by omega)]
      rw[this]at q2;exact q2
    ·have g1:Am.get [0,0,0,1,2] (Int.toNat 3)=(1:Int):=rfl
     have k1:¬t.kind=1:=by omega
     have k2:¬t.kind=2:=by omega
     simp only[hk,g1,Int.reduceEq,decide_true,decide_false,cond_true,cond_false,Bool.not_true,Bool.not_false,Bool.and_false,Bool.and_true,BF,uq,Option.bind_some]
     refine Evt.cond (fun e1=>?_) (fun e1=>Evt.bind (oO _) fun f hf=>Evt.cond (fun e3=>?_) (fun e3=>?_))
     ·have:hdT t b=5:=by
       unfold hdT
       rw[if_neg k1,if_neg k2,if_pos hk,if_pos]
       by_cases h1:(t.args.length:Int)=1
       ·by_cases h2:t.name=[]
        ·by_cases h3:t.index=0
         ·simp[h1,h2,h3]at e1
         ·exact .inr (.inl h3)
        ·exact .inl h2
       ·exact .inr (.inr (by omega))
      rw[this]at q2;exact q2
     ·have h5:¬(t.name≠ []∨t.index≠0∨t.args.length≠1):=by
       rintro(h|h|h)
       ·simp[h]at e1
       ·simp[h]at e1
       ·have:¬(t.args.length:Int)=1:=by omega
        simp[this]at e1
      replace e3:=bx e3
      have:hdT t b=12:=by
       unfold hdT
       rw[if_neg k1,if_neg k2,if_pos hk,if_neg h5,if_pos (fun h=>e3 (hf.2 h))]
      rw[this]at q2;exact q2
     ·have h5:¬(t.name≠ []∨t.index≠0∨t.args.length≠1):=by
       rintro(h|h|h)
       ·simp[h]at e1
       ·simp[h]at e1
       ·have:¬(t.args.length:Int)=1:=by omega
        simp[this]at e1
      replace e3:=bx e3
      have:hdT t b=0:=by
       unfold hdT
       rw[if_neg k1,if_neg k2,if_pos hk,if_neg h5,if_neg (fun h=>h (hf.1 e3))]
      rw[this]at q2;exact q2
    ·have g1:Am.get [0,0,0,1,2] (Int.toNat 4)=(2:Int):=rfl
     have k1:¬t.kind=1:=by omega
     have k2:¬t.kind=2:=by omega
     have k3:¬t.kind=3:=by omega
     simp only[hk,g1,Int.reduceEq,decide_true,decide_false,cond_true,cond_false,Bool.not_true,Bool.not_false,Bool.and_false,Bool.and_true,BF,uq,Option.bind_some]
     refine Evt.bind (P:=fun v=>(t.args.length:Int)=2∧t.name=[]∧t.index=0→(v=true↔NoT t.type)) (Evt.gd (fun _=>(CV _).mono fun r hr _=>hr) (fun e h=>by simp[h]at e)) fun v hv=>Evt.cond (fun e1=>?_) (fun e1=>?_)
     ·have:hdT t b=5:=by
       unfold hdT
       rw[if_neg k1,if_neg k2,if_neg k3,if_pos hk,if_pos]
       by_cases h1:(t.args.length:Int)=2
       ·by_cases h2:t.name=[]
        ·by_cases h6:t.index=0
         ·have h3:=hv ⟨h1,h2,h6⟩
          refine .inr (.inr (.inl fun h4=>?_))
          simp[h1,h2,h6,h3.2 h4]at e1
         ·exact .inr (.inl h6)
        ·exact .inl h2
       ·exact .inr (.inr (.inr (by omega)))
      rw[this]at q2;exact q2
     ·have h1:(t.args.length:Int)=2:=Classical.byContradiction fun h=>by simp[h]at e1
      have h2:t.name=[]:=Classical.byContradiction fun h=>by simp[h]at e1
      have h6:t.index=0:=Classical.byContradiction fun h=>by simp[h]at e1
      have h3:=hv ⟨h1,h2,h6⟩
      have h4:NoT t.type:=Classical.byContradiction fun h=>by
       have h4:v=false:=by cases v with
        |false=>rfl
        |true=>exact absurd (h3.1 rfl) h
       simp[h4]at e1
      have:hdT t b=0:=by
       unfold hdT
       rw[if_neg k1,if_neg k2,if_neg k3,if_pos hk,if_neg]
       rintro(h|h|h|h)
       ·exact h h2
       ·exact h h6
       ·exact h h4
       ·omega
      rw[this]at q2;exact q2
 ·replace e:=bx e
  omega
theorem Oq(t:x9){d b c:Int}(h0:0≤d)(h1:d≤41)(hb0:0≤b)(hb:b≤d)(h2:0≤c)(h3:c≤200)(h:(rX t d b c).1.code=0):(rX t d b c).1=⟨0,0⟩∧c≤(rX t d b c).2∧(rX t d b c).2≤200:=by
 obtain⟨r,⟨rfl,hr⟩,_⟩:=qM _ t (Nat.le_refl _) d b c h0 h1 hb0 hb h2 h3
 exact hr h
theorem LI{t:x9}{b:Int}(h:hdT t b=0):t.args.length≤2:=by
 unfold hdT at h
 by_cases h1:t.kind=1
 ·rw[if_pos h1]at h
  split at h
  ·omega
  ·omega
 ·rw[if_neg h1]at h
  by_cases h2:t.kind=2
  ·rw[if_pos h2]at h
   split at h
   ·omega
   ·rename_i h3
    have:¬t.args.length≠0:=fun h4=>h3 (.inr (.inr h4))
    omega
  ·rw[if_neg h2]at h
   by_cases h3:t.kind=3
   ·rw[if_pos h3]at h
    split at h
    ·omega
    ·rename_i h4
     have:¬t.args.length≠1:=fun h5=>h4 (.inr (.inr h5))
     omega
   ·rw[if_neg h3]at h
    by_cases h4:t.kind=4
    ·rw[if_pos h4]at h
     split at h
     ·omega
     ·rename_i h5
      have:¬t.args.length≠2:=fun h6=>h5 (.inr (.inr (.inr h6)))
      omega
    ·rw[if_neg h4]at h
     omega
def argsAt(l:List x9)(d b:Int):List TAt:=(l.map fun t=>(⟨t,d,b⟩:TAt)).reverse
theorem yG{t:x9}{l:List x9}{d b:Int}:argsAt (t::l) d b=argsAt l d b++[⟨t,d,b⟩]:=by simp[argsAt]
theorem Ap{l:List x9}{d b:Int}:(argsAt l d b).length=l.length:=by simp[argsAt]
theorem Jx{t:x9}{d b c b':Int}{rest:List TAt}{st:List TAt×Int×Nat}(kX:Live st (rest++[⟨t,d,b⟩]) c)(hd0:0≤d)(hd:d≤41)(hc0:0≤c)(hrc:(rest.length:Int)≤c)(hc:c≤200)(hl:t.args.length≤2):
 Evt (fun n=>N7 n st b') (fun x=>∃st',x= .nxt st'∧Live st' (rest++argsAt t.args (d+1) b') (c+1)):=by
 have hsp:=kX.sp
 have hle:=kX.le
 have MP:=kX.top
 have Sz:=kX.pop
 have MQ:=kX.2.2
 have hw:wr .i64 ((st.2.2:Int)-1)=(rest.length:Int):=by rw[H9 (by omega) (by omega)];omega
 have hwc:wr .i64 (c+1)=c+1:=H9 (by omega) (by omega)
 have hwd:wr .i64 (d+1)=d+1:=H9 (by omega) (by omega)
 have hwl:wr .i64 ((t.args.length:Int)-1)=(t.args.length:Int)-1:=H9 (by omega) (by omega)
 unfold N7
 simp only[hw,Int.toNat_natCast,MP,hwl]
 refine Evt.B5 (P:=ExP (fun u:List TAt×Nat=>u.1.take u.2=rest++argsAt t.args (d+1) b'∧u.2=(rest++argsAt t.args (d+1) b').length) (fun _=>False))
  (Evt.loop (fun s6:List TAt×Int×Nat=>(s6.2.1+1).toNat) (fun s6=> -1≤s6.2.1∧s6.2.1<t.args.length∧s6.1.take s6.2.2=rest++argsAt (t.args.drop (s6.2.1+1).toNat) (d+1) b'∧s6.2.2=(rest++argsAt (t.args.drop (s6.2.1+1).toNat) (d+1) b').length) _ _ ⟨?_,?_,?_,?_⟩ (fun s6 hs6=>?_)) (fun u hu=>?_) (fun r hr=>hr.elim)
 ·show(-1:Int)≤(t.args.length:Int)-1;omega
 ·show(t.args.length:Int)-1<_;omega
 ·show st.1.take rest.length=rest++argsAt (t.args.drop ((t.args.length:Int)-1+1).toNat) (d+1) b'
  rw[show((t.args.length:Int)-1+1).toNat=t.args.length by omega,List.drop_length,Sz]
  simp[argsAt]
 ·show rest.length=(rest++argsAt (t.args.drop ((t.args.length:Int)-1+1).toNat) (d+1) b').length
  rw[show((t.args.length:Int)-1+1).toNat=t.args.length by omega,List.drop_length]
  simp[argsAt]
 ·obtain⟨h1,h2,h3,h4⟩:=hs6
  have h4':s6.2.2=rest.length+(t.args.length-(s6.2.1+1).toNat):=by
   rw[h4,List.length_append,Ap,List.length_drop]
  have VX:s6.2.2≤s6.1.length:=by
   have h5:=congrArg List.length h3
   rw[List.length_take]at h5
   omega
  unfold av
  simp only[hw,Int.toNat_natCast,MP,hwd]
  refine Evt.cond (fun e=>?_) (fun e=>Evt.pure ?_)
  ·replace e:=bx e
   have hwi:wr .i64 (s6.2.1-1)=s6.2.1-1:=H9 (by omega) (by omega)
   have hdr:t.args.drop (s6.2.1-1+1).toNat=Am.get t.args s6.2.1.toNat::t.args.drop (s6.2.1+1).toNat:=by
    rw[show(s6.2.1-1+1).toNat=s6.2.1.toNat by omega,ij (by omega),show(s6.2.1+1).toNat=s6.2.1.toNat+1 by omega]
   have hnew:s6.1.take s6.2.2++[(⟨Am.get t.args s6.2.1.toNat,d+1,b'⟩:TAt)]=rest++argsAt (t.args.drop (s6.2.1-1+1).toNat) (d+1) b':=by
    rw[hdr,yG, ←List.append_assoc, ←h3]
   refine Evt.chk ⟨e,h2⟩ (Evt.chk VX (Evt.eE (Evt.chk ?_ (Evt.pure ?_))))
   ·rw[bO,List.length_append,List.length_take]
    simp only[List.length_cons,List.length_nil]
    omega
   ·rw[hwi,hnew]
    exact⟨⟨by show(-1:Int)≤s6.2.1-1;omega,by show s6.2.1-1<_;omega,List.take_length,rfl⟩,by show(s6.2.1-1+1).toNat<_;omega⟩
  ·replace e:=bx e
   have:(s6.2.1+1).toNat=0:=by omega
   rw[this,List.drop_zero]at h3 h4
   exact⟨h3,h4⟩
 ·unfold ay
  rw[MQ,hwc]
  exact Evt.pure ⟨_,rfl,hu.1,hu.2,rfl⟩
theorem Ot{m:Nat}(ih:∀(t:x9),SizeOf.sizeOf t≤m→∀(rest:List TAt) (d b c:Int) (st:List TAt×Int×Nat),Live st (rest++[⟨t,d,b⟩]) c→0≤d→d≤41→0≤b→b≤d→0≤c→(rest.length:Int)≤c→c≤200→
 ((rX t d b c).1.code=0→∃st',Live st' rest (rX t d b c).2∧gA (fun n=>C6 n) st st')∧((rX t d b c).1.code≠0→lD (fun n=>C6 n) st (.ret (rX t d b c).1))):
 ∀(l:List x9),(∀t∈l,SizeOf.sizeOf t≤m)→∀(rest:List TAt) (d b c:Int) (st:List TAt×Int×Nat),Live st (rest++argsAt l d b) c→0≤d→d≤41→0≤b→b≤d→0≤c→((rest.length:Int)+l.length≤c+1)→(rest.length:Int)≤c→c≤200→
 ((mG l d b c).1.code=0→∃st',Live st' rest (mG l d b c).2∧gA (fun n=>C6 n) st st')∧((mG l d b c).1.code≠0→lD (fun n=>C6 n) st (.ret (mG l d b c).1)):=by
 intro l
 induction l with
 |nil=>
  intro _ rest d b c st hl _ _ _ _ _ _ _ _
  rw[mG]
  refine⟨fun _=>⟨st,?_,gA.refl⟩,fun h=>absurd rfl h⟩
  simpa[argsAt]using hl
 |cons t l ihl=>
  intro hsz rest d b c st hl hd0 hd hb0 hb hc0 hrl hrc hc
  rw[yG, ←List.append_assoc]at hl
  have hlen:((rest++argsAt l d b).length:Int)≤c:=by
   rw[List.length_append,Ap]
   simp only[List.length_cons]at hrl
   omega
  have i0:=ih t (hsz t (by simp)) _ d b c st hl hd0 hd hb0 hb hc0 hlen hc
  rw[mG]
  by_cases h0:(rX t d b c).1.code=0
  ·rw[if_pos h0]
   have hbd:=Oq t hd0 hd hb0 hb hc0 hc h0
   obtain⟨st',hl',hst⟩:=i0.1 h0
   simp only[List.length_cons]at hrl
   have i1:=ihl (fun t ht=>hsz t (by simp[ht])) rest d b _ st' hl' hd0 hd hb0 hb (by omega) (by omega) (by omega) hbd.2.2
   exact⟨fun h=>by
    obtain⟨Gq,hl'',DB⟩:=i1.1 h
    exact⟨Gq,hl'',hst.trans DB⟩,fun h=>hst.ends (i1.2 h)⟩
  ·rw[if_neg h0]
   exact⟨fun h=>absurd h h0,fun _=>i0.2 h0⟩
theorem GY:∀(m:Nat) (t:x9),SizeOf.sizeOf t≤m→∀(rest:List TAt) (d b c:Int) (st:List TAt×Int×Nat),Live st (rest++[⟨t,d,b⟩]) c→0≤d→d≤41→0≤b→b≤d→0≤c→(rest.length:Int)≤c→c≤200→
 ((rX t d b c).1.code=0→∃st',Live st' rest (rX t d b c).2∧gA (fun n=>C6 n) st st')∧((rX t d b c).1.code≠0→lD (fun n=>C6 n) st (.ret (rX t d b c).1)):=by
 intro m
 induction m with
 |zero=>intro s h;cases s;simp only[x9.mk.sizeOf_spec]at h;omega
 |succ m ih=>
  intro t hs rest d b c st kX hd0 hd hb0 hb hc0 hrc hc
  have MP:=kX.top
  have MQ:=kX.2.2
  have hsp:=kX.sp
  have hw:wr .i64 ((st.2.2:Int)-1)=(rest.length:Int):=by rw[H9 (by omega) (by omega)];omega
  have hwb:wr .i64 (b+1)=b+1:=H9 (by omega) (by omega)
  rw[yE]
  by_cases hn:200<c+1∨40<d
  ·rw[if_pos hn]
   refine⟨fun h=>absurd (show(1:Int)=0 from h) (by decide),fun _=>lD.ret (EG kX hc0 hrc hc (fun _=>?_) (fun h=>absurd hn h))⟩
   unfold D1
   refine Evt.cond (fun _=>Evt.pure (by rw[MQ])) (fun e=>?_)
   replace e:=bx e
   cases e
  ·rw[if_neg hn]
   by_cases h0:hdT t b=0
   ·rw[if_pos h0]
    have hl2:=LI h0
    have hgo:Evt (fun n=>C6 n st) (fun x=>∃st',x= .nxt st'∧Live st' (rest++argsAt t.args (d+1) (if t.kind=3 then b+1 else b)) (c+1)):=by
     refine EG kX hc0 hrc hc (fun h=>absurd h hn) (fun _=>?_)
     rw[h0]
     unfold D1
     simp only[hw,Int.toNat_natCast,MP,hwb]
     refine Evt.cond (fun e=>?_) (fun _=>Evt.cond (fun e=>?_) (fun e=>?_))
     ·replace e:=bx e
      exact absurd trivial e
     ·replace e:=bx e
      rw[if_pos e]
      exact Jx kX hd0 hd hc0 hrc hc hl2
     ·replace e:=bx e
      rw[if_neg e]
      exact Jx kX hd0 hd hc0 hrc hc hl2
    obtain⟨x,⟨st',rfl,hl'⟩,N,hN⟩:=hgo
    have hstep:gA (fun n=>C6 n) st st':=gA.one ⟨_,rfl,N,hN⟩
    have hsz:∀a∈t.args,SizeOf.sizeOf a≤m:=fun a ha=>by
     obtain⟨j,hj,rfl⟩:=vB.1 ha
     have:=nO (s:=t) hj
     omega
    have i:=Ot ih t.args hsz rest (d+1) (if t.kind=3 then b+1 else b) (c+1) st' hl' (by omega) (by omega) (by split<;>omega) (by split<;>omega) (by omega) (by omega) (by omega) (by omega)
    exact⟨fun h=>by
     obtain⟨Gq,hl'',hst⟩:=i.1 h
     exact⟨Gq,hl'',hstep.trans hst⟩,fun h=>hstep.ends (i.2 h)⟩
   ·rw[if_neg h0]
    refine⟨fun h=>absurd h h0,fun _=>lD.ret (EG kX hc0 hrc hc (fun h=>absurd h hn) (fun _=>?_))⟩
    unfold D1
    refine Evt.cond (fun _=>Evt.pure (by rw[MQ])) (fun e=>?_)
    replace e:=bx e
    exact absurd e h0
theorem sI(t:x9):Evt (fun n=>P4 (C6 n) n ([(y3.mk t 1 0)],0,1)) (fun e=>if(rX t 1 0 0).1.code=0 then e= .nxt ()else e= .ret (rX t 1 0 0).1):=by
 have h:=GY _ t (Nat.le_refl _) [] 1 0 0 ([(y3.mk t 1 0)],0,1) ⟨rfl,rfl,rfl⟩ (by omega) (by omega) (by omega) (by omega) (by omega) (by simp) (by omega)
 by_cases h0:(rX t 1 0 0).1.code=0
 ·obtain⟨st',hl,hst⟩:=h.1 h0
  have TV:lD (fun n=>C6 n) st' (.nxt ()):=lD.brk (by
   have h2:st'.2.2=0:=hl.2.1
   unfold C6
   refine Evt.cond (fun e=>?_) (fun _=>Evt.pure rfl)
   replace e:=bx e
   omega)
  exact(hst.ends TV).evt.mono fun e he=>by rw[if_pos h0];exact he
 ·exact(h.2 h0).evt.mono fun e he=>by rw[if_neg h0];exact he
inductive SOk:w6→Nat→Prop
 |leaf (s:w6) (h:s.base=[101]∨s.base=[116]) (h0:s.args=[]):SOk s 1
 |node (s a b:w6) (n m:Nat) (h:s.base=[]) (h2:s.args=[a,b]) (ha:SOk a n) (hb:SOk b m):SOk s (n+m+1)
theorem FZ{s:w6}(h:s.args.length=2):s.args=[Am.get s.args 0,Am.get s.args 1]:=by
 have e0:=ij (l:=s.args) (k:=0) (by omega)
 have e1:=ij (l:=s.args) (k:=1) (by omega)
 have e2:s.args.drop 2=[]:=List.drop_eq_nil_of_le (by omega)
 rw[List.drop_zero]at e0
 rw[e2]at e1
 rw[e1]at e0
 exact e0
theorem Jy:∀(m:Nat) (s:w6),SizeOf.sizeOf s≤m→∀d b:Int,(um s d b).1=0→∃n:Nat,SOk s n∧(um s d b).2=b+n∧b+n≤200:=by
 intro m
 induction m with
 |zero=>intro s h;cases s;simp only[w6.mk.sizeOf_spec]at h;omega
 |succ m ih=>
  intro s hs d b h
  rw[ED]at h⊢
  by_cases hn:200<b+1∨40<d
  ·rw[if_pos hn]at h;exact absurd (show(1:Int)=0 from h) (by decide)
  ·rw[if_neg hn]at h⊢
   by_cases hsh:qL s
   ·rw[if_pos hsh]at h⊢
    rcases hsh with⟨hb,h0⟩|⟨hb,h2⟩
    ·have hnil:s.args=[]:=List.length_eq_zero_iff.1 h0
     rw[hnil,sv]
     exact⟨1,.leaf s hb hnil,rfl,by omega⟩
    ·have s0:=nN (s:=s) (k:=0) (by omega)
     have s1:=nN (s:=s) (k:=1) (by omega)
     have hargs:=FZ h2
     generalize hg0:Am.get s.args 0=a0 at*
     generalize hg1:Am.get s.args 1=a1 at*
     rw[hargs,sv]at h⊢
     by_cases h0:(um a0 (d+1) (b+1)).1=0
     ·rw[if_pos h0]at h⊢
      obtain⟨n0,k0,e0,l0⟩:=ih a0 (by omega) _ _ h0
      rw[sv]at h⊢
      by_cases h1:(um a1 (d+1) (um a0 (d+1) (b+1)).2).1=0
      ·rw[if_pos h1]at h⊢
       obtain⟨n1,k1,e1,l1⟩:=ih a1 (by omega) _ _ h1
       rw[sv]
       refine⟨n0+n1+1,.node s a0 a1 n0 n1 hb hargs k0 k1,?_,by rw[e0]at l1;omega⟩
       show(um a1 (d+1) (um a0 (d+1) (b+1)).2).2=_
       rw[e1,e0];omega
      ·rw[if_neg h1]at h;exact absurd h h1
     ·rw[if_neg h0]at h;exact absurd h h0
   ·rw[if_neg hsh]at h;exact absurd (show(5:Int)=0 from h) (by decide)
theorem BG{s:w6}{n:Nat}(h:SOk s n):∀t:w6,Evt (fun n=>fJ n s t) (fun r=>r=true↔s=t):=by
 induction h with
 |leaf s h h0=>
  intro t
  refine Evt.succ ?_
  simp only[fJ,h0]
  refine Evt.cond (fun e=>Evt.pure ?_) (fun e=>?_)
  ·replace e:=bx e
   refine⟨fun h=>(by cases h),fun h2=>?_⟩
   subst h2
   rw[h0]at e
   rcases e with e|e
   ·exact absurd rfl e
   ·exact absurd rfl e
  ·replace e:=bx e
   refine Evt.chk (by simp) (Evt.B5 (P:=fun x=>x= .nxt ()) ⟨_,rfl,0,fun _ _=>rfl⟩ (fun u _=>Evt.pure ?_) (fun r hr=>by cases hr))
   refine⟨fun _=>?_,fun _=>rfl⟩
   have h3:t.args=[]:=List.length_eq_zero_iff.1 (by have:=e.2;simp only[List.length_nil]at this;omega)
   cases s;cases t
   have h4:=e.1
   simp only[w6.yu,w6.Bu]at h0 h3 h4
   rw[h0,h3,h4]
 |node s a b n m hb h2 ha hb2 iha ihb=>
  intro t
  refine Evt.succ ?_
  simp only[fJ,h2]
  refine Evt.cond (fun e=>Evt.pure ?_) (fun e=>?_)
  ·replace e:=bx e
   refine⟨fun h=>(by cases h),fun h3=>?_⟩
   subst h3
   rw[h2]at e
   rcases e with e|e
   ·exact absurd rfl e
   ·exact absurd rfl e
  ·replace e:=bx e
   have hl:t.args.length=2:=by have:=e.2;simp only[List.length_cons,List.length_nil]at this;omega
   have ht:=FZ hl
   have hst:s=t↔a=Am.get t.args 0∧b=Am.get t.args 1:=by
    constructor
    ·intro h;subst h;rw[h2];exact⟨rfl,rfl⟩
    ·rintro⟨h3,h4⟩
     cases s;cases t
     have h5:=e.1
     simp only[w6.yu,w6.Bu]at h2 ht h5 h3 h4
     rw[h2,ht,h5, ←h3, ←h4]
   refine Evt.chk (by simp) (Evt.B5 (Evt.scan (fun k _=>∀j,j<k→Am.get [a,b] j=Am.get t.args j) (fun k (r:Bool)=>r=false∧Am.get [a,b] k≠Am.get t.args k) (fun j hj=>absurd hj (Nat.not_lt_zero _)) (fun k u hk hi=>?_)) (fun u hu=>?_) (fun r hr=>?_))
   ·have hk:k<2:=hk
    unfold mX
    rw[h2]
    have hsub:Evt (fun n=>fJ n (Am.get [a,b] k) (Am.get t.args k)) (fun r=>r=true↔Am.get [a,b] k=Am.get t.args k):=by
     match k,hk with
     |0,_=>exact iha _
     |1,_=>exact ihb _
    refine Evt.chk (by omega) (Evt.bind hsub fun v hv=>Evt.cond (fun e2=>Evt.pure ?_) (fun e2=>Evt.pure fun j hj=>?_))
    ·replace e2:=bx e2
     exact⟨rfl,fun h=>by rw[hv.2 h]at e2;cases e2⟩
    ·replace e2:=bx e2
     by_cases ej:j=k
     ·subst ej;exact hv.1 e2
     ·exact hi j (by omega)
   ·unfold mY
    have hu:∀j,j<2→Am.get [a,b] j=Am.get t.args j:=hu
    exact Evt.pure ⟨fun _=>hst.2 ⟨hu 0 (by omega),hu 1 (by omega)⟩,fun _=>rfl⟩
   ·obtain⟨k,_,hk,_,rfl,h3⟩:=hr
    have hk:k<2:=hk
    refine⟨fun h=>(by cases h),fun h=>absurd ?_ h3⟩
    have h4:=hst.1 h
    match k,hk with
    |0,_=>exact h4.1
    |1,_=>exact h4.2
inductive Txt:w6→Bs→Prop
 |leaf (s:w6) (h:s.base=[101]∨s.base=[116]) (h0:s.args=[]):Txt s s.base
 |node (s a b:w6) (u v:Bs) (h:s.base=[]) (h2:s.args=[a,b]) (ha:Txt a u) (hb:Txt b v):Txt s ([40]++(u++([32]++(v++[41]))))
theorem Txt.inj{s:w6}{u:Bs}(h:Txt s u):∀ {t:w6} {v x y:Bs},Txt t v→u++x=v++y→s=t∧x=y:=by
 induction h with
 |leaf s h h0=>
  intro t v x y k e
  cases k with
  |leaf _ k k0=>
   have hb:s.base=t.base∧x=y:=by
    rcases h with h|h<;>rcases k with k|k<;>rw[h,k]at e⊢
    ·exact⟨rfl,by simpa using e⟩
    ·simp at e
    ·simp at e
    ·exact⟨rfl,by simpa using e⟩
   refine⟨?_,hb.2⟩
   cases s;cases t
   simp only[w6.yu,w6.Bu]at h0 k0 hb
   rw[h0,k0,hb.1]
  |node _ a b u v k k2 ka kb=>
   rcases h with h|h<;>rw[h]at e<;>simp at e
 |node s a b u w h h2 ha hb iha ihb=>
  intro t v x y k e
  cases k with
  |leaf _ k k0=>
   rcases k with k|k<;>rw[k]at e<;>simp at e
  |node _ a' b' u' w' k k2 ka kb=>
   simp only[List.append_assoc,List.cons_append,List.nil_append,List.cons.injEq,true_and]at e
   obtain⟨e1,e2⟩:=iha ka e
   simp only[List.cons.injEq,true_and]at e2
   obtain⟨e3,e4⟩:=ihb kb e2
   simp only[List.cons.injEq,true_and]at e4
   refine⟨?_,e4⟩
   cases s;cases t
   simp only[w6.yu,w6.Bu]at h h2 k k2
   rw[h,h2,k,k2,e1,e3]
theorem Txt.fn{s:w6}{u:Bs}(h:Txt s u):∀ {v:Bs},Txt s v→u=v:=by
 induction h with
 |leaf s h h0=>
  intro v k
  cases k with
  |leaf _ k k0=>rfl
  |node _ a b u v k k2 ka kb=>rcases h with h|h<;>rw[h]at k<;>cases k
 |node s a b u w h h2 ha hb iha ihb=>
  intro v k
  cases k with
  |leaf _ k k0=>rcases k with k|k<;>rw[h]at k<;>cases k
  |node _ a' b' u' w' k k2 ka kb=>
   rw[h2]at k2
   simp only[List.cons.injEq,and_true]at k2
   obtain⟨rfl,rfl⟩:=k2
   rw[iha ka,ihb kb]
theorem pS{s:w6}{n:Nat}(h:SOk s n):n≤1000000→Evt (fun k=>H6 k s) (fun u=>Txt s u∧u.length≤4*n):=by
 induction h with
 |leaf s h h0=>
  intro _
  refine Evt.succ ?_
  simp only[H6]
  refine Evt.cond (fun _=>Evt.pure ⟨.leaf s h h0,?_⟩) (fun e=>?_)
  ·rcases h with h|h<;>rw[h]<;>simp
  ·replace e:=bx e
   rcases h with h|h<;>rw[h]at e<;>cases e
 |node s a b n m h h2 ha hb iha ihb=>
  intro hn
  refine Evt.succ ?_
  simp only[H6]
  refine Evt.cond (fun e=>?_) (fun _=>?_)
  ·replace e:=bx e
   exact absurd h e
  ·rw[h2]
   refine Evt.chk (by simp) (Evt.bind (iha (by omega)) fun u hu=>?_)
   obtain⟨hu1,hu2⟩:=hu
   refine Evt.chk ?_ (Evt.chk ?_ (Evt.chk (by simp) (Evt.bind (ihb (by omega)) fun v hv=>?_)))
   ·unfold nD;simp only[List.length_cons,List.length_nil];omega
   ·unfold nD zT;simp only[List.length_append,List.length_cons,List.length_nil];omega
   obtain⟨hv1,hv2⟩:=hv
   refine Evt.chk ?_ (Evt.chk ?_ (Evt.pure ⟨?_,?_⟩))
   ·unfold nD zT;simp only[List.length_append,List.length_cons,List.length_nil];omega
   ·unfold nD zT;simp only[List.length_append,List.length_cons,List.length_nil];omega
   ·have:=Txt.node s a b u v h h2 hu1 hv1
    have e:zT (zT (zT (zT [40] u) [32]) v) [41]=[40]++(u++([32]++(v++[41]))):=by simp[zT]
    rw[e];exact this
   ·simp only[zT,List.length_append,List.length_cons,List.length_nil];omega
theorem yH{s t:w6}{n m:Nat}(hs:SOk s n)(ht:SOk t m)(hn:n≤1000000)(hm:m≤1000000):Evt (fun k=>aA k s t) (fun r=>r=true↔s=t):=by
 unfold aA
 refine Evt.bind (pS hs hn) fun u hu=>Evt.bind (pS ht hm) fun v hv=>Evt.pure ?_
 rw[decide_eq_true_iff]
 refine⟨fun e=>?_,fun e=>?_⟩
 ·exact(hu.1.inj (x:=[]) (y:=[]) hv.1 (by rw[e])).1
 ·subst e
  exact hu.1.fn hv.1
inductive WfT:Nat→x9→Nat→Prop
 |con (b:Nat) (t:x9) (k:Nat) (h:t.kind=1) (hs:SOk t.type k) (hk:k≤200) (h0:t.args=[]):WfT b t 1
 |var (b:Nat) (t:x9) (h:t.kind=2) (hi:0≤t.index∧t.index<b) (h0:t.args=[]):WfT b t 1
 |abs (b:Nat) (t u:x9) (k n:Nat) (h:t.kind=3) (hs:SOk t.type k) (hk:k≤200) (h0:t.args=[u]) (hu:WfT (b+1) u n):WfT b t (n+1)
 |app (b:Nat) (t u v:x9) (n m:Nat) (h:t.kind=4) (h0:t.args=[u,v]) (hu:WfT b u n) (hv:WfT b v m):WfT b t (n+m+1)
theorem Ou:∀(m:Nat) (t:x9),SizeOf.sizeOf t≤m→∀(d c:Int) (b:Nat),(rX t d b c).1.code=0→∃n:Nat,WfT b t n∧(rX t d b c).2=c+n∧c+n≤200:=by
 intro m
 induction m with
 |zero=>intro s h;cases s;simp only[x9.mk.sizeOf_spec]at h;omega
 |succ m ih=>
  intro t ht d c b h
  rw[yE]at h⊢
  by_cases hn:200<c+1∨40<d
  ·rw[if_pos hn]at h;exact absurd (show(1:Int)=0 from h) (by decide)
  ·rw[if_neg hn]at h⊢
   by_cases h0:hdT t b=0
   ·rw[if_pos h0]at h⊢
    have hh:=h0
    unfold hdT at hh
    by_cases k1:t.kind=1
    ·rw[if_pos k1]at hh
     split at hh
     ·omega
     ·rename_i h1
      split at hh
      ·omega
      ·split at hh
       ·omega
       ·rename_i h3
        have h3:(um t.type 1 0).1=0:=Classical.byContradiction fun h=>h3 h
        obtain⟨n,hn1,_,hn2⟩:=Jy _ t.type (Nat.le_refl _) _ _ h3
        have hnil:t.args=[]:=List.length_eq_zero_iff.1 (Classical.byContradiction fun h=>h1 (.inr h))
        rw[hnil,mG]
        exact⟨1,.con b t n k1 hn1 (by omega) hnil,rfl,by omega⟩
    ·rw[if_neg k1]at hh
     by_cases k2:t.kind=2
     ·rw[if_pos k2]at hh
      split at hh
      ·omega
      ·rename_i h1
       split at hh
       ·omega
       ·rename_i h3
        have hnil:t.args=[]:=List.length_eq_zero_iff.1 (Classical.byContradiction fun h=>h1 (.inr (.inr h)))
        rw[hnil,mG]
        exact⟨1,.var b t k2 (by omega) hnil,rfl,by omega⟩
     ·rw[if_neg k2]at hh
      by_cases k3:t.kind=3
      ·rw[if_pos k3]at hh
       split at hh
       ·omega
       ·rename_i h1
        split at hh
        ·omega
        ·rename_i h3
         have h3:(um t.type 1 0).1=0:=Classical.byContradiction fun h=>h3 h
         obtain⟨n,hn1,_,hn2⟩:=Jy _ t.type (Nat.le_refl _) _ _ h3
         have hl:t.args.length=1:=Classical.byContradiction fun h=>h1 (.inr (.inr h))
         have hsz:=nO (s:=t) (k:=0) (by omega)
         have hargs:t.args=[Am.get t.args 0]:=by
          have e0:=ij (l:=t.args) (k:=0) (by omega)
          have e2:t.args.drop 1=[]:=List.drop_eq_nil_of_le (by omega)
          rw[List.drop_zero]at e0
          rw[e2]at e0
          exact e0
         generalize hg0:Am.get t.args 0=u at*
         rw[if_pos k3,hargs,mG,show(b:Int)+1=((b+1:Nat):Int)by omega]at h⊢
         by_cases h5:(rX u (d+1) ((b+1:Nat):Int) (c+1)).1.code=0
         ·rw[if_pos h5,mG]at h⊢
          obtain⟨k,hk1,hk2,hk3⟩:=ih u (by omega) _ _ _ h5
          exact⟨k+1,.abs b t u n k k3 hn1 (by omega) hargs hk1,by show(rX u (d+1) ((b+1:Nat):Int) (c+1)).2=_;rw[hk2];omega,by omega⟩
         ·rw[if_neg h5]at h;exact absurd h h5
      ·rw[if_neg k3]at hh
       by_cases k4:t.kind=4
       ·rw[if_pos k4]at hh
        split at hh
        ·omega
        ·rename_i h1
         have hl:t.args.length=2:=Classical.byContradiction fun h=>h1 (.inr (.inr (.inr h)))
         have s0:=nO (s:=t) (k:=0) (by omega)
         have s1:=nO (s:=t) (k:=1) (by omega)
         have hargs:t.args=[Am.get t.args 0,Am.get t.args 1]:=by
          have e0:=ij (l:=t.args) (k:=0) (by omega)
          have e1:=ij (l:=t.args) (k:=1) (by omega)
          have e2:t.args.drop 2=[]:=List.drop_eq_nil_of_le (by omega)
          rw[List.drop_zero]at e0
          rw[e2]at e1
          rw[e1]at e0
          exact e0
         generalize hg0:Am.get t.args 0=u at*
         generalize hg1:Am.get t.args 1=v at*
         rw[if_neg k3,hargs,mG]at h⊢
         by_cases h5:(rX u (d+1) (b:Int) (c+1)).1.code=0
         ·rw[if_pos h5,mG]at h⊢
          obtain⟨k,hk1,hk2,hk3⟩:=ih u (by omega) _ _ _ h5
          by_cases h6:(rX v (d+1) (b:Int) (rX u (d+1) (b:Int) (c+1)).2).1.code=0
          ·rw[if_pos h6,mG]at h⊢
           obtain⟨j,hj1,hj2,hj3⟩:=ih v (by omega) _ _ _ h6
           refine⟨k+j+1,.app b t u v k j k4 hargs hk1 hj1,?_,by rw[hk2]at hj3;omega⟩
           show(rX v (d+1) (b:Int) (rX u (d+1) (b:Int) (c+1)).2).2=_
           rw[hj2,hk2];omega
          ·rw[if_neg h6]at h;exact absurd h h6
         ·rw[if_neg h5]at h;exact absurd h h5
       ·rw[if_neg k4]at hh;omega
   ·rw[if_neg h0]at h;exact absurd h h0
def Px(s:w6):List (Option w6)→Option w6
 | [some r]=>some (.mk [] [s,r])
 | _=>none
open Classical in
noncomputable def EH:List (Option w6)→Option w6
 | [some f,some x]=>if f.args.length=2∧Am.get f.args 0=x then some (Am.get f.args 1)else none
 | _=>none
mutual
noncomputable def pT:List w6→x9→Option w6
 |ctx,.mk kind _ index type args=>if kind=1 then some type else if kind=2 then some (Am.get ctx (ctx.length-1-index.toNat))else if kind=3 then Px type (oB (ctx++[type]) args)else EH (oB ctx args)
noncomputable def oB:List w6→List x9→List (Option w6)
 | _,[]=>[]
 |ctx,t::l=>pT ctx t::oB ctx l
end
theorem jQ(ctx:List w6)(t:x9):pT ctx t=if t.kind=1 then some t.type else if t.kind=2 then some (Am.get ctx (ctx.length-1-t.index.toNat))else if t.kind=3 then Px t.type (oB (ctx++[t.type]) t.args)else EH (oB ctx t.args):=by
 cases t with
 |mk kind name index type args=>rw[pT];rfl
def EI(b:Nat)(ctx:List w6):Prop:=ctx.length=b∧∀j,j<b→∃k,SOk (Am.get ctx j) k∧k≤200
theorem EI.snoc{b:Nat}{ctx:List w6}{s:w6}{k:Nat}(h:EI b ctx)(hs:SOk s k)(hk:k≤200):EI (b+1) (ctx++[s]):=by
 obtain⟨h1,h2⟩:=h
 refine⟨by simp[h1],fun j hj=>?_⟩
 by_cases e:j=ctx.length
 ·subst e;rw[qw];exact⟨k,hs,hk⟩
 ·rw[uh (by omega)];exact h2 j (by omega)
theorem Rp{b:Nat}{t:x9}{n:Nat}(h:WfT b t n):∀ {ctx:List w6} {r:w6},EI b ctx→pT ctx t=some r→∃k,SOk r k∧k≤201*n:=by
 induction h with
 |con b t k h hs hk h0=>
  intro ctx r hc hr
  rw[jQ,if_pos h]at hr
  cases hr
  exact⟨k,hs,by omega⟩
 |var b t h hi h0=>
  intro ctx r hc hr
  rw[jQ,if_neg (by omega),if_pos h]at hr
  cases hr
  obtain⟨k,h1,h2⟩:=hc.2 (ctx.length-1-t.index.toNat) (by have:=hc.1;omega)
  exact⟨k,h1,by omega⟩
 |abs b t u k n h hs hk h0 hu ih=>
  intro ctx r hc hr
  rw[jQ,if_neg (by omega),if_neg (by omega),if_pos h,h0,oB,oB]at hr
  cases hu2:pT (ctx++[t.type]) u with
  |none=>rw[hu2]at hr;cases hr
  |some q=>
   rw[hu2]at hr
   cases hr
   obtain⟨j,h1,h2⟩:=ih (hc.snoc hs hk) hu2
   exact⟨k+j+1,.node _ _ _ _ _ rfl rfl hs h1,by omega⟩
 |app b t u v n m h h0 hu hv ihu ihv=>
  intro ctx r hc hr
  rw[jQ,if_neg (by omega),if_neg (by omega),if_neg (by omega),h0,oB,oB,oB]at hr
  cases hu2:pT ctx u with
  |none=>rw[hu2]at hr;cases hr
  |some f=>
   cases hv2:pT ctx v with
   |none=>rw[hu2,hv2]at hr;cases hr
   |some x=>
    rw[hu2,hv2]at hr
    unfold EH at hr
    simp only[]at hr
    split at hr
    ·rename_i hx
     cases hr
     obtain⟨j,h1,h2⟩:=ihu hc hu2
     cases h1 with
     |leaf _ _ h0=>rw[h0]at hx;exact absurd hx.1 (by simp)
     |node _ a c i l e1 e2 e3 e4=>rw[e2];exact⟨l,e4,by omega⟩
    ·cases hr
def TyR(ctx:List w6)(t:x9)(r:w6×Bool):Prop:=(r.2=true∧pT ctx t=some r.1)∨(r.2=false∧pT ctx t=none)
theorem CW{ctx:List w6}{t u v:x9}{b n m:Nat}(hc:EI b ctx)(h:t.kind=4)(h0:t.args=[u,v])(hu:WfT b u n)(hv:WfT b v m){f x:w6×Bool}(hf:TyR ctx u f)(hx:TyR ctx v x):Evt (fun n=>
 chk (iQ (!(bif (bif (!f.2)then true else(!x.2))then true else(!decide ((f.1.args.length:Int)=2)))) (0<(f.1.args.length:Int))) <|
 (gd (!(bif (bif (!f.2)then true else(!x.2))then true else(!decide ((f.1.args.length:Int)=2)))) (fJ n (Am.get f.1.args 0) x.1) default).bind fun v22=>
 bif (bif (bif (bif (!f.2)then true else(!x.2))then true else(!decide ((f.1.args.length:Int)=2)))then true else(!v22))then
  some ((w6.mk [] []),false)
 else
  chk (1<(f.1.args.length:Int)) <|
  some ((Am.get f.1.args 1),true)) (TyR ctx t):=by
 have key:pT ctx t=EH [pT ctx u,pT ctx v]:=by rw[jQ,if_neg (by omega),if_neg (by omega),if_neg (by omega),h0,oB,oB,oB]
 rcases hf with⟨f2,hf⟩|⟨f2,hf⟩
 ·rcases hx with⟨x2,hx⟩|⟨x2,hx⟩
  ·rw[hf,hx]at key
   obtain⟨k,hk,_⟩:=Rp hu hc hf
   simp only[f2,x2,Bool.not_true,cond_false]
   by_cases hl:(f.1.args.length:Int)=2
   ·simp only[hl,decide_true,Bool.not_true,Bool.not_false,cond_false]
    cases hk with
    |leaf _ _ h0=>rw[h0]at hl;exact absurd hl (by simp)
    |node _ a c i l e1 e2 e3 e4=>
     refine Evt.chk (N6 fun _=>by omega) (Evt.bind (BG (s:=Am.get f.1.args 0) (n:=i) (by rw[e2];exact e3) x.1) fun w hw=>Evt.cond (fun e=>Evt.pure (.inr ⟨rfl,?_⟩)) (fun e=>Evt.chk (by omega) (Evt.pure (.inl ⟨rfl,?_⟩))))
     ·replace e:=bx e
      rw[key];unfold EH
      simp only[]
      rw[if_neg]
      intro hh
      rw[hw.2 hh.2]at e;cases e
     ·replace e:=bx e
      rw[key];unfold EH
      simp only[]
      rw[if_pos ⟨by omega,hw.1 e⟩]
   ·simp only[hl,decide_false,Bool.not_true,Bool.not_false,cond_true]
    refine Evt.chk (N6 fun h=>by cases h) (Evt.pure (.inr ⟨rfl,?_⟩))
    rw[key];unfold EH
    simp only[]
    rw[if_neg (by omega)]
  ·rw[hf,hx]at key
   simp only[f2,x2,Bool.not_true,Bool.not_false,cond_false,cond_true]
   exact Evt.chk (N6 fun h=>by cases h) (Evt.pure (.inr ⟨rfl,key⟩))
 ·rw[hf]at key
  simp only[f2,Bool.not_true,Bool.not_false,cond_true]
  refine Evt.chk (N6 fun h=>by cases h) (Evt.pure (.inr ⟨rfl,?_⟩))
  rw[key];unfold EH;rfl
theorem zB{t:x9}{b n:Nat}(h:WfT b t n):∀ {ctx:List w6},EI b ctx→b≤1000→n+b≤1000→Evt (fun n=>dg n t ctx) (TyR ctx t):=by
 induction h with
 |con b t k h hs hk h0=>
  intro ctx hc hb hn
  refine Evt.succ ?_
  simp only[dg,h,Int.reduceEq,decide_false,decide_true,cond_false,cond_true]
  exact Evt.pure (.inl ⟨rfl,by rw[jQ,if_pos h]⟩)
 |var b t h hi h0=>
  intro ctx hc hb hn
  have hlen:=hc.1
  refine Evt.succ ?_
  simp only[dg,h,Int.reduceEq,decide_false,decide_true,cond_false,cond_true]
  have hw:wr .i64 (wr .i64 ((ctx.length:Int)-1)-t.index)=((ctx.length-1-t.index.toNat:Nat):Int):=by
   rw[H9 (n:=(ctx.length:Int)-1) (by omega) (by omega),H9 (by omega) (by omega)]
   omega
  rw[hw,Int.toNat_natCast]
  exact Evt.chk (by omega) (Evt.pure (.inl ⟨rfl,by rw[jQ,if_neg (by omega),if_pos h]⟩))
 |abs b t u k n h hs hk h0 hu ih=>
  intro ctx hc hb hn
  have hlen:=hc.1
  refine Evt.succ ?_
  simp only[dg,h,Int.reduceEq,decide_false,decide_true,cond_false,cond_true,h0]
  have e:(ctx++[t.type]).length=ctx.length+1:=by simp
  refine Evt.chk (by omega) (Evt.eE (Evt.chk (by rw[e,bO];omega) (Evt.chk (by simp) (Evt.bind (ih (hc.snoc hs hk) (by omega) (by omega)) fun v hv=>Evt.pure ?_))))
  have key:pT ctx t=Px t.type [pT (ctx++[t.type]) u]:=by rw[jQ,if_neg (by omega),if_neg (by omega),if_pos h,h0,oB,oB]
  rcases hv with⟨h1,h2⟩|⟨h1,h2⟩
  ·have h2:pT (ctx++[t.type]) u=some v.1:=h2
   exact .inl ⟨h1,by rw[key,h2];rfl⟩
  ·have h2:pT (ctx++[t.type]) u=none:=h2
   exact .inr ⟨h1,by rw[key,h2];rfl⟩
 |app b t u v n m h h0 hu hv ihu ihv=>
  intro ctx hc hb hn
  refine Evt.succ ?_
  simp only[dg,h,Int.reduceEq,decide_false,decide_true,cond_false,cond_true]
  rw[h0]
  exact Evt.chk (by simp) (Evt.bind (ihu hc hb (by omega)) fun f hf=>Evt.chk (by simp) (Evt.bind (ihv hc hb (by omega)) fun x hx=>CW hc h h0 hu hv hf hx))
theorem CX{t:x9}{b n:Nat}(h:WfT b t n):∀ {ctx:List w6},EI b ctx→b≤1000→n+b≤1000→Evt (fun n=>jx n t ctx) (TyR ctx t):=by
 induction h with
 |con b t k h hs hk h0=>
  intro ctx hc hb hn
  refine Evt.succ ?_
  simp only[jx,h,Int.reduceEq,decide_false,decide_true,cond_false,cond_true]
  exact Evt.pure (.inl ⟨rfl,by rw[jQ,if_pos h]⟩)
 |var b t h hi h0=>
  intro ctx hc hb hn
  have hlen:=hc.1
  refine Evt.succ ?_
  simp only[jx,h,Int.reduceEq,decide_false,decide_true,cond_false,cond_true]
  have hw:wr .i64 (wr .i64 ((ctx.length:Int)-1)-t.index)=((ctx.length-1-t.index.toNat:Nat):Int):=by
   rw[H9 (n:=(ctx.length:Int)-1) (by omega) (by omega),H9 (by omega) (by omega)]
   omega
  rw[hw,Int.toNat_natCast]
  exact Evt.chk (by omega) (Evt.pure (.inl ⟨rfl,by rw[jQ,if_neg (by omega),if_pos h]⟩))
 |abs b t u k n h hs hk h0 hu ih=>
  intro ctx hc hb hn
  have hlen:=hc.1
  refine Evt.succ ?_
  simp only[jx,h,Int.reduceEq,decide_false,decide_true,cond_false,cond_true,h0]
  have e:(ctx++[t.type]).length=ctx.length+1:=by simp
  refine Evt.chk (by omega) (Evt.eE (Evt.chk (by rw[e,bO];omega) (Evt.chk (by simp) (Evt.bind (zB hu (hc.snoc hs hk) (by omega) (by omega)) fun v hv=>Evt.pure ?_))))
  have key:pT ctx t=Px t.type [pT (ctx++[t.type]) u]:=by rw[jQ,if_neg (by omega),if_neg (by omega),if_pos h,h0,oB,oB]
  rcases hv with⟨h1,h2⟩|⟨h1,h2⟩
  ·have h2:pT (ctx++[t.type]) u=some v.1:=h2
   exact .inl ⟨h1,by rw[key,h2];rfl⟩
  ·have h2:pT (ctx++[t.type]) u=none:=h2
   exact .inr ⟨h1,by rw[key,h2];rfl⟩
 |app b t u v n m h h0 hu hv ihu ihv=>
  intro ctx hc hb hn
  refine Evt.succ ?_
  simp only[jx,h,Int.reduceEq,decide_false,decide_true,cond_false,cond_true]
  rw[h0]
  exact Evt.chk (by simp) (Evt.bind (ihu hc hb (by omega)) fun f hf=>Evt.chk (by simp) (Evt.bind (ihv hc hb (by omega)) fun x hx=>CW hc h h0 hu hv hf hx))
def rowOf(t:x9)(kids:List Int)(up:Int):nP:=⟨t.kind,t.name,t.type,t.index,kids,up⟩
inductive Tab:x9→Int→Nat→List nP→Prop
 |leaf (t:x9) (up:Int) (i:Nat) (h:t.args=[]):Tab t up i [rowOf t [] up]
 |one (t u:x9) (up:Int) (i:Nat) (T:List nP) (h:t.args=[u]) (hu:Tab u i (i+1) T):Tab t up i (rowOf t [((i+1:Nat):Int)] up::T)
 |two (t u v:x9) (up:Int) (i:Nat) (T U:List nP) (h:t.args=[u,v]) (hu:Tab u i (i+1) T) (hv:Tab v i (i+1+T.length) U):Tab t up i (rowOf t [((i+1:Nat):Int),((i+1+T.length:Nat):Int)] up::(T++U))
theorem LJ{t:x9}{b n:Nat}(h:WfT b t n):∀(up:Int) (i:Nat),i+n≤1000→Evt (fun k=>vI k t up i) (fun T=>T.length=n∧Tab t up i T):=by
 have leaf:∀ {t:x9} (up:Int) (i:Nat),t.args=[]→i≤999→Evt (fun k=>vI k t up i) (fun T=>T.length=1∧Tab t up i T):=fun {t} up i h0 hi=>by
  refine Evt.succ ?_
  simp only[vI,h0]
  refine Evt.chk (by rw[bO];omega) (Evt.B5 (P:=fun x=>x= .nxt ([],[])) ⟨_,rfl,0,fun _ _=>rfl⟩ (fun u hu=>?_) (fun r hr=>by cases hr))
  cases hu
  exact Evt.pure ⟨rfl,.leaf t up i h0⟩
 induction h with
 |con b t k h hs hk h0=>intro up i hi;exact leaf up i h0 (by omega)
 |var b t h hi h0=>intro up i hi;exact leaf up i h0 (by omega)
 |abs b t u k n h hs hk h0 hu ih=>
  intro up i hi
  obtain⟨T,⟨hT1,hT2⟩,N,hN⟩:=ih i (i+1) (by omega)
  refine Evt.succ ?_
  simp only[vI,h0]
  refine Evt.chk (by rw[bO];omega) (Evt.B5 (P:=fun x=>x= .nxt ([((i+1:Nat):Int)],T)) ⟨_,rfl,N,fun m hm=>?_⟩ (fun u hu=>?_) (fun r hr=>by cases hr))
  ·have:=hN m hm
   have e:vI m (Am.get [u] 0) (i:Int) (i+1)=some T:=this
   simp[F2,cX,vJ,h0,e]
  ·cases hu
   exact Evt.pure ⟨by simp[hT1],.one t u up i T h0 hT2⟩
 |app b t u v n m h h0 hu hv ihu ihv=>
  intro up i hi
  obtain⟨T,⟨hT1,hT2⟩,N,hN⟩:=ihu i (i+1) (by omega)
  obtain⟨U,⟨hU1,hU2⟩,M,hM⟩:=ihv i (i+1+T.length) (by omega)
  refine Evt.succ ?_
  simp only[vI,h0]
  refine Evt.chk (by rw[bO];omega) (Evt.B5 (P:=fun x=>x= .nxt ([((i+1:Nat):Int),((i+1+T.length:Nat):Int)],T++U)) ⟨_,rfl,max N M,fun q hq=>?_⟩ (fun u hu=>?_) (fun r hr=>by cases hr))
  ·have e1:vI q (Am.get [u,v] 0) (i:Int) (i+1)=some T:=hN q (by omega)
   have e2:vI q (Am.get [u,v] 1) (i:Int) (i+1+T.length)=some U:=hM q (by omega)
   simp[F2,cX,vJ,h0,e1,e2]
  ·cases hu
   exact Evt.pure ⟨by simp[hT1,hU1],.two t u v up i T U h0 hT2 hU2⟩
inductive UpC(W:List nP):Int→List w6→Prop
 |top:UpC W (-1) []
 |abs (i:Nat) (ctx:List w6) (hi:i<W.length) (hk:(Am.get W i).kind=3) (hu:(Am.get W i).up<i) (h:UpC W (Am.get W i).up ctx):UpC W i (ctx++[(Am.get W i).typ])
 |app (i:Nat) (ctx:List w6) (hi:i<W.length) (hk:(Am.get W i).kind≠3) (hu:(Am.get W i).up<i) (h:UpC W (Am.get W i).up ctx):UpC W i ctx
inductive Node(W:List nP):Nat→x9→List w6→Nat→Prop
 |con (i:Nat) (t:x9) (ctx:List w6) (up:Int) (h:t.kind=1) (e:Am.get W i=rowOf t [] up) (hl:i<W.length):Node W i t ctx 1
 |var (i:Nat) (t:x9) (ctx:List w6) (up:Int) (h:t.kind=2) (hi:0≤t.index∧t.index<ctx.length) (e:Am.get W i=rowOf t [] up) (hl:i<W.length) (hu:UpC W up ctx) (hup:up<i):Node W i t ctx 1
 |abs (i:Nat) (t u:x9) (ctx:List w6) (up:Int) (n:Nat) (h:t.kind=3) (h0:t.args=[u]) (e:Am.get W i=rowOf t [((i+1:Nat):Int)] up) (hl:i<W.length) (hu:Node W (i+1) u (ctx++[t.type]) n):Node W i t ctx (n+1)
 |app (i:Nat) (t u v:x9) (ctx:List w6) (up:Int) (n m:Nat) (h:t.kind=4) (h0:t.args=[u,v]) (e:Am.get W i=rowOf t [((i+1:Nat):Int),((i+1+n:Nat):Int)] up) (hl:i<W.length) (hu:Node W (i+1) u ctx n) (hv:Node W (i+1+n) v ctx m):Node W i t ctx (n+m+1)
def MR(W T:List nP)(i:Nat):Prop:=i+T.length≤W.length∧∀k,k<T.length→Am.get W (i+k)=Am.get T k
theorem MR.head{W T:List nP}{r:nP}{i:Nat}(h:MR W (r::T) i):Am.get W i=r∧i<W.length∧MR W T (i+1):=by
 obtain⟨h1,h2⟩:=h
 simp only[List.length_cons]at h1 h2
 refine⟨h2 0 (by omega),by omega,by omega,fun k hk=>?_⟩
 have:=h2 (k+1) (by omega)
 rw[show i+1+k=i+(k+1)by omega]
 exact this
theorem MR.left{W T U:List nP}{i:Nat}(h:MR W (T++U) i):MR W T i∧MR W U (i+T.length):=by
 obtain⟨h1,h2⟩:=h
 rw[List.length_append]at h1
 refine⟨⟨by omega,fun k hk=>?_⟩,by omega,fun k hk=>?_⟩
 ·rw[h2 k (by rw[List.length_append];omega),uh hk]
 ·have:=h2 (T.length+k) (by rw[List.length_append];omega)
  rw[show i+T.length+k=i+(T.length+k)by omega,this]
  unfold Am.get
  rw[List.getD_eq_getElem?_getD,List.getD_eq_getElem?_getD,List.getElem?_append_right (by omega),Nat.add_sub_cancel_left]
theorem Jz{t:x9}{b n:Nat}(h:WfT b t n):∀ {T:List nP} {up:Int} {i:Nat},Tab t up i T→T.length=n:=by
 induction h with
 |con b t k h hs hk h0=>
  intro T up i hT
  cases hT with
  |leaf _ _ _ _=>rfl
  |one _ u _ _ T h1 _=>rw[h0]at h1;cases h1
  |two _ u v _ _ T U h1 _ _=>rw[h0]at h1;cases h1
 |var b t h hi h0=>
  intro T up i hT
  cases hT with
  |leaf _ _ _ _=>rfl
  |one _ u _ _ T h1 _=>rw[h0]at h1;cases h1
  |two _ u v _ _ T U h1 _ _=>rw[h0]at h1;cases h1
 |abs b t u k n h hs hk h0 hu0 ih=>
  intro T up i hT
  cases hT with
  |leaf _ _ _ h1=>rw[h0]at h1;cases h1
  |one _ u' _ _ T h1 hT=>rw[h0]at h1;cases h1;rw[List.length_cons,ih hT]
  |two _ u v _ _ T U h1 _ _=>rw[h0]at h1;cases h1
 |app b t u v n m h h0 hu0 hv0 ihu ihv=>
  intro T up i hT
  cases hT with
  |leaf _ _ _ h1=>rw[h0]at h1;cases h1
  |one _ u' _ _ T h1 hT=>rw[h0]at h1;cases h1
  |two _ u' v' _ _ T U h1 hT hU=>rw[h0]at h1;cases h1;rw[List.length_cons,List.length_append,ihu hT,ihv hU]
theorem Ov{t:x9}{b n:Nat}(h:WfT b t n):∀ {W T:List nP} {up:Int} {i:Nat} {ctx:List w6},ctx.length=b→Tab t up i T→T.length=n→MR W T i→UpC W up ctx→up<i→Node W i t ctx n:=by
 induction h with
 |con b t k h hs hk h0=>
  intro W T up i ctx hb hT hn hl hu hup
  cases hT with
  |leaf _ _ _ _=>exact .con i t ctx up h hl.head.1 hl.head.2.1
  |one _ u _ _ T h1 _=>rw[h0]at h1;cases h1
  |two _ u v _ _ T U h1 _ _=>rw[h0]at h1;cases h1
 |var b t h hi h0=>
  intro W T up i ctx hb hT hn hl hu hup
  cases hT with
  |leaf _ _ _ _=>exact .var i t ctx up h (by omega) hl.head.1 hl.head.2.1 hu hup
  |one _ u _ _ T h1 _=>rw[h0]at h1;cases h1
  |two _ u v _ _ T U h1 _ _=>rw[h0]at h1;cases h1
 |abs b t u k n h hs hk h0 hu0 ih=>
  intro W T up i ctx hb hT hn hl hu hup
  cases hT with
  |leaf _ _ _ h1=>rw[h0]at h1;cases h1
  |one _ u' _ _ T h1 hT=>
   rw[h0]at h1;cases h1
   obtain⟨e1,e2,e3⟩:=hl.head
   simp only[List.length_cons]at hn
   refine .abs i t u ctx up n h h0 e1 e2 (ih (by simp[hb]) hT (by omega) e3 ?_ (by omega))
   have:=UpC.abs (W:=W) i ctx e2 (by rw[e1];exact h) (by rw[e1];exact hup) (by rw[e1];exact hu)
   rw[e1]at this
   exact this
  |two _ u v _ _ T U h1 _ _=>rw[h0]at h1;cases h1
 |app b t u v n m h h0 hu0 hv0 ihu ihv=>
  intro W T up i ctx hb hT hn hl hu hup
  cases hT with
  |leaf _ _ _ h1=>rw[h0]at h1;cases h1
  |one _ u' _ _ T h1 hT=>rw[h0]at h1;cases h1
  |two _ u' v' _ _ T U h1 hT hU=>
   rw[h0]at h1;cases h1
   obtain⟨e1,e2,e3⟩:=hl.head
   obtain⟨e4,e5⟩:=e3.left
   have l1:=Jz hu0 hT
   have l2:=Jz hv0 hU
   rw[l1]at e1 e5 hU
   have UJ:=UpC.app (W:=W) i ctx e2 (by rw[e1];show t.kind≠3;omega) (by rw[e1];exact hup) (by rw[e1];exact hu)
   exact .app i t u v ctx up n m h h0 e1 e2 (ihu hb hT l1 e4 UJ (by omega)) (ihv hb hU l2 e5 UJ (by omega))
theorem JA{t u:x9}{ctx:List w6}(h:t.kind=3)(h0:t.args=[u]):pT ctx t=Px t.type [pT (ctx++[t.type]) u]:=by rw[jQ,if_neg (by omega),if_neg (by omega),if_pos h,h0,oB,oB]
theorem EJ{t u v:x9}{ctx:List w6}(h:t.kind=4)(h0:t.args=[u,v]):pT ctx t=EH [pT ctx u,pT ctx v]:=by rw[jQ,if_neg (by omega),if_neg (by omega),if_neg (by omega),h0,oB,oB,oB]
theorem Ow{W:List nP}{i:Nat}{t:x9}{ctx:List w6}{n:Nat}(h:Node W i t ctx n):∀j,i≤j→j<i+n→∃u ctx' m,Node W j u ctx' m∧(pT ctx t≠none→pT ctx' u≠none):=by
 induction h with
 |con i t ctx up h e hl=>intro j h1 h2;have:j=i:=by omega
                         subst this;exact⟨t,ctx,1,.con _ t ctx up h e hl,id⟩
 |var i t ctx up h hi e hl hu hup=>intro j h1 h2;have:j=i:=by omega
                                   subst this;exact⟨t,ctx,1,.var _ t ctx up h hi e hl hu hup,id⟩
 |abs i t u ctx up n h h0 e hl hu ih=>
  intro j h1 h2
  by_cases ej:j=i
  ·subst ej;exact⟨t,ctx,n+1,.abs _ t u ctx up n h h0 e hl hu,id⟩
  ·obtain⟨w,ctx',m,hw,hs⟩:=ih j (by omega) (by omega)
   refine⟨w,ctx',m,hw,fun ht=>hs fun h3=>ht ?_⟩
   rw[JA h h0,h3];rfl
 |app i t u v ctx up n m h h0 e hl hu hv ihu ihv=>
  intro j h1 h2
  by_cases ej:j=i
  ·subst ej;exact⟨t,ctx,n+m+1,.app _ t u v ctx up n m h h0 e hl hu hv,id⟩
  ·by_cases hj:j<i+1+n
   ·obtain⟨w,ctx',q,hw,hs⟩:=ihu j (by omega) (by omega)
    refine⟨w,ctx',q,hw,fun ht=>hs fun h3=>ht ?_⟩
    rw[EJ h h0,h3];rfl
   ·obtain⟨w,ctx',q,hw,hs⟩:=ihv j (by omega) (by omega)
    refine⟨w,ctx',q,hw,fun ht=>hs fun h3=>ht ?_⟩
    rw[EJ h h0,h3]
    cases pT ctx u<;>rfl
theorem CY{W:List nP}{up:Int}{ctx:List w6}(h:UpC W up ctx):∀k:Int,0≤k→k<ctx.length→ctx.length≤1000→∃p:Nat,(p<W.length∧(Am.get W p).kind=3)∧(Am.get W p).typ=Am.get ctx (ctx.length-1-k.toNat)∧lD (fun _=>N8 W) (k,up) (.ret (p:Int)):=by
 induction h with
 |top=>intro k h0 h1;simp only[List.length_nil]at h1;omega
 |abs i ctx hi hk hu h ih=>
  intro k h0 h1 h2
  simp only[List.length_append,List.length_cons,List.length_nil]at h1 h2⊢
  by_cases hk0:k=0
  ·subst hk0
   refine⟨i,⟨hi,hk⟩,?_,lD.ret ?_⟩
   ·rw[show ctx.length+(0+1)-1-Int.toNat 0=ctx.length by simp,qw]
   ·unfold N8
    refine Evt.cond (fun _=>Evt.chk (by show(0:Int)≤(i:Int)∧(i:Int)<W.length;omega) (Evt.cond (fun _=>Evt.cond (fun _=>Evt.pure rfl) (fun e=>?_)) (fun e=>?_))) (fun e=>?_)
    ·replace e:=bx e
     exact absurd trivial e
    ·simp only[Int.toNat_natCast,hk,decide_true]at e;cases e
    ·replace e:=bx e
     have:¬(0:Int)≤(i:Int):=by omega
     omega
  ·obtain⟨p,hp1,hp2,hp3⟩:=ih (k-1) (by omega) (by omega) (by omega)
   refine⟨p,hp1,?_,gA.ends (gA.one ?_) hp3⟩
   ·rw[hp2,uh (by omega)]
    congr 1
    omega
   ·unfold N8
    refine Evt.cond (fun _=>Evt.chk (by show(0:Int)≤(i:Int)∧(i:Int)<W.length;omega) (Evt.cond (fun _=>Evt.cond (fun e=>?_) (fun e=>Evt.pure ?_)) (fun e=>?_))) (fun e=>?_)
    ·replace e:=bx e
     exact absurd e hk0
    ·show Ctl.nxt (wr .i64 (k-1),(Am.get W (Int.toNat (i:Int))).up)=_
     rw[H9 (by omega) (by omega),Int.toNat_natCast]
    ·simp only[Int.toNat_natCast,hk,decide_true]at e;cases e
    ·replace e:=bx e
     have:¬(0:Int)≤(i:Int):=by omega
     omega
 |app i ctx hi hk hu h ih=>
  intro k h0 h1 h2
  obtain⟨p,hp1,hp2,hp3⟩:=ih k h0 h1 h2
  refine⟨p,hp1,hp2,gA.ends (gA.one ?_) hp3⟩
  unfold N8
  refine Evt.cond (fun _=>Evt.chk (by show(0:Int)≤(i:Int)∧(i:Int)<W.length;omega) (Evt.cond (fun e=>?_) (fun e=>Evt.pure ?_))) (fun e=>?_)
  ·replace e:=bx e
   rw[Int.toNat_natCast]at e
   exact absurd e hk
  ·show Ctl.nxt (k,(Am.get W (Int.toNat (i:Int))).up)=_
   rw[Int.toNat_natCast]
  ·replace e:=bx e
   have:¬(0:Int)≤(i:Int):=by omega
   omega
theorem JB{W:List nP}{t:x9}{ctx:List w6}{up:Int}{i:Nat}(e:Am.get W i=rowOf t [] up)(hi:i<W.length)(hx:0≤t.index∧t.index<ctx.length)(hl:ctx.length≤1000)(h:UpC W up ctx):
 Evt (fun n=>X7 n W i) (fun p=>(0≤p∧p<W.length∧(Am.get W p.toNat).kind=3)∧(Am.get W p.toNat).typ=Am.get ctx (ctx.length-1-t.index.toNat)):=by
 obtain⟨p,h1,h2,h3⟩:=CY h t.index hx.1 hx.2 hl
 unfold X7
 rw[Int.toNat_natCast,e]
 refine Evt.chk (by omega) (Evt.B5 h3.evt (fun u hu=>by cases hu) (fun r hr=>?_))
 cases hr
 exact⟨⟨by omega,by omega,by rw[Int.toNat_natCast];exact h1.2⟩,by rw[Int.toNat_natCast];exact h2⟩
end Go.Proofs.YtfogbhjeihkliaaGreatDoor
