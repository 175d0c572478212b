import Derived.Test.YtfogbhjeihkliaaGreatDoorDXLaw3
set_option linter.unusedVariables false
set_option linter.unusedSimpArgs false
namespace Go.Proofs.YtfogbhjeihkliaaGreatDoor
open Go Go.Am
abbrev tr(ts:List w8)(x:Int):List DD:=mks (Am.get ts x.toNat) 0 0
def lq(ts:List w8)(d:DD)(L:List Int)(t:Int):Prop:=0≤t∧t≤L.length∧(t=0↔ ∀x∈L,d∉tr ts x)∧(t=L.length↔ ∀x∈L,d∈tr ts x)
theorem vQ(ts:List w8)(d:DD):lq ts d [] 0:=⟨by omega,by simp,by simp,by simp⟩
theorem vR{ts:List w8}{d:DD}{L:List Int}{t:Int}{x:Int}(h:lq ts d L t)(hx:d∈tr ts x):lq ts d (L++[x]) (t+1):=by
 obtain⟨h1,h2,h3,h4⟩:=h
 refine⟨by omega,by simp;omega,⟨fun e=>by omega,fun e=>absurd hx (e x (by simp))⟩,?_⟩
 rw[List.length_append,List.length_singleton]
 constructor
 ·intro e y hy
  rcases List.mem_append.1 hy with hy|hy
  ·exact h4.1 (by omega) y hy
  ·rw[List.mem_singleton.1 hy];exact hx
 ·intro e
  have:=h4.2 fun y hy=>e y (by simp[hy])
  omega
theorem yU{ts:List w8}{d:DD}{L:List Int}{t:Int}{x:Int}(h:lq ts d L t)(hx:d∉tr ts x):lq ts d (L++[x]) t:=by
 obtain⟨h1,h2,h3,h4⟩:=h
 refine⟨by omega,by simp;omega,?_,⟨fun e=>by rw[List.length_append,List.length_singleton]at e;omega,fun e=>absurd (e x (by simp)) hx⟩⟩
 constructor
 ·intro e y hy
  rcases List.mem_append.1 hy with hy|hy
  ·exact h3.1 e y hy
  ·rw[List.mem_singleton.1 hy];exact hx
 ·intro e
  exact h3.2 fun y hy=>e y (by simp[hy])
theorem sk{g:x5}{ts:List w8}(hp:Passed g ts)(d:DD){x:Int}(h0:0≤x)(h1:x<ts.length):
 Evt (fun n=>S0 n (Am.get (Z2 ts) x.toNat) ⟨d,true⟩) (fun r=>r=true↔d∈tr ts x):=by
 have hk:x.toNat<ts.length:=by omega
 have h2:=Dp hp x.toNat (by rw[fL];exact hk)
 refine(Dh h2.1 h2.2 ⟨d,true⟩).mono fun r hr=>hr.trans ?_
 rw[vO hk]
 show(d∈lV jr _↔true=true)↔_
 rw[uE]
 simp
theorem kR{ts:List w8}{ds:List w7}{x:Int}:x∈X6 ts ds↔0≤x∧x<ts.length∧kO (tr ts x) ds:=by
 unfold X6
 rw[OD]
 constructor
 ·rintro⟨k,rfl,h1,h2⟩
  refine⟨by omega,by omega,?_⟩
  unfold tr;rw[Int.toNat_natCast];exact h2
 ·rintro⟨h0,h1,h2⟩
  exact⟨x.toNat,by omega,by omega,h2⟩
theorem EZ{g:x5}{ts:List w8}(hp:Passed g ts)(L:List Int)(hL:∀x∈L,0≤x∧x<(ts.length:Int))(hl:L.length≤200)(R:List DD)(k:Nat):
 Evt (fun n=>F2 (ρ:=Ctl (List w7×w9) (List w7) (List w7)) (R7 n L (Z2 ts) R k) L.length 0) (ExP (fun t=>lq ts (Am.get R k) L t) (fun _=>False)):=by
 refine(Evt.range (body:=fun n=>R7 n L (Z2 ts) R k) (fun j s=>lq ts (Am.get R k) (L.take j) s) (fun _=>False) (fun _=>False) (vQ _ _) (fun j s hj hs=>?_)).mono fun x hx=>?_
 ·have hx:=hL _ (get_mem hj)
  show Evt (fun n=>R7 n L (Z2 ts) R k j s) _
  unfold R7
  refine Evt.chk (by rw[fL];exact hx) (Evt.bind (sk hp _ hx.1 hx.2) fun b hb=>Evt.cond (fun e=>Evt.pure ?_) (fun e=>Evt.pure ?_))
  ·have h2:=hs.2.1
   rw[List.length_take]at h2
   have h1:=hs.1
   show lq ts (Am.get R k) (L.take (j+1)) (wr .i64 (s+1))
   rw[H9 (by omega) (by omega),Z1 hj]
   exact vR hs (hb.1 e)
  ·show lq ts (Am.get R k) (L.take (j+1)) s
   rw[Z1 hj]
   exact yU hs fun h=>by rw[hb.2 h]at e;cases e
 ·cases x with
  |nxt t=>have:=hx.elim id False.elim;rwa[List.take_length]at this
  |ret r=>exact hx
open Classical in
noncomputable def piece(ts:List w8)(L:List Int)(d:DD):List w7:=if ∀x∈L,d∉tr ts x then [⟨d,false⟩]else if ∀x∈L,d∈tr ts x then [⟨d,true⟩]else []
noncomputable def qD(ts:List w8)(L:List Int)(R:List DD):List w7:=if L=[]then []else R.flatMap (piece ts L)
theorem Kc(ts:List w8)(L:List Int)(d:DD):(piece ts L d).length≤1:=by unfold piece;split<;>(try split)<;>simp
theorem BS(ts:List w8)(L:List Int):∀R:List DD,(R.flatMap (piece ts L)).length≤R.length
 | []=>by simp
 |d::R=>by
  rw[List.flatMap_cons,List.length_append,List.length_cons]
  have:=Kc ts L d
  have:=BS ts L R
  omega
theorem Dr(ts:List w8)(L:List Int)(R:List DD)(d:DD):(R++[d]).flatMap (piece ts L)=R.flatMap (piece ts L)++piece ts L d:=by simp
theorem Ma{ts:List w8}{L:List Int}{d:DD}{c:w7}(h:c∈piece ts L d):c.what=d∧∀x∈L,(c.what∈tr ts x↔c.yes=true):=by
 unfold piece at h
 split at h
 ·rename_i h1
  rw[List.mem_singleton.1 h]
  exact⟨rfl,fun x hx=>⟨fun hm=>absurd hm (h1 x hx),fun e=>(by cases e)⟩⟩
 ·split at h
  ·rename_i h1
   rw[List.mem_singleton.1 h]
   exact⟨rfl,fun x hx=>⟨fun _=>rfl,fun _=>h1 x hx⟩⟩
  ·cases h
theorem Mb{ts:List w8}{L:List Int}{R:List DD}{c:w7}(h:c∈qD ts L R):∀x∈L,(c.what∈tr ts x↔c.yes=true):=by
 unfold qD at h
 split at h
 ·cases h
 ·obtain⟨d,_,hd⟩:=List.mem_flatMap.1 h
  exact(Ma hd).2
theorem yV(ts:List w8)(L:List Int)(R:List DD):(qD ts L R).length≤R.length:=by
 unfold qD;split
 ·simp
 ·exact BS ts L R
theorem Ay{g:x5}{ts:List w8}{f:w9}(h:Evt (fun n=>I4 n g ts) (fun r=>r=f))(hz:f.code=0→f=⟨0,0⟩∧qO g∧Passed g ts)(ds:List w7):
 Evt (fun n=>bn n g ts ds) (fun r=>(f.code≠0∧r=([],f))∨(f.code=0∧300<ds.length∧r=([],⟨2, -3⟩))∨(f.code=0∧ds.length≤300∧∃R,Divide ts R∧r=(qD ts (X6 ts ds) R,⟨0,0⟩))):=by
 unfold bn
 refine Evt.bind (BR h (fun e=>(hz e).1) ds) fun v hv=>?_
 rcases hv with⟨h1,rfl⟩|⟨h1,h2,rfl⟩|⟨h1,h2,rfl⟩
 ·exact Evt.cond (fun _=>Evt.pure (.inl ⟨h1,rfl⟩)) (fun e=>absurd (bx e) h1)
 ·exact Evt.cond (fun _=>Evt.pure (.inr (.inl ⟨h1,h2,rfl⟩))) (fun e=>by cases e)
 ·refine Evt.cond (fun e=>by cases e) (fun _=>?_)
  obtain⟨_,hg,hp⟩:=hz h1
  have hn:=hp.1
  refine Evt.bind (vP hp) fun v hv=>?_
  subst hv
  refine Evt.bind (Gm hp (by omega)) fun L hL=>?_
  have hLm:∀x∈L,0≤x∧x<(ts.length:Int):=fun x hx=>by rw[hL]at hx;have:=kR.1 hx;exact⟨this.1,this.2.1⟩
  have hLl:L.length≤200:=by rw[hL];have:=nY ts ds;omega
  rw[←hL]
  refine Evt.cond (fun e=>?_) (fun e=>?_)
  ·replace e:=bx e
   have e0:L=[]:=List.eq_nil_of_length_eq_zero (by omega)
   obtain⟨R,hR,_⟩:=qC hp
   exact Evt.pure (.inr (.inr ⟨h1,h2,R,hR.1,by unfold qD;rw[if_pos e0]⟩))
  ·replace e:=bx e
   have e0:L≠ []:=fun c=>by rw[c]at e;exact e rfl
   refine Evt.bind (Dn hg hp) fun R hR=>?_
   have hRl:=hR.len hp
   refine Evt.B5 (Evt.range (body:=fun n=>aX n L (Z2 ts) R) (fun k s=>s=(R.take k).flatMap (piece ts L)) (fun _=>False) (fun _=>False) (by simp) (fun k s hk hs=>?_)) (fun s hs=>?_) (fun _ h=>h.elim)
   ·subst hs
    unfold aX
    refine Evt.B5 (EZ hp L hLm hLl R k) (fun t ht=>?_) (fun _ h=>h.elim)
    obtain⟨t1,t2,t3,t4⟩:=(ht:lq ts (Am.get R k) L t)
    have hsn:(R.take (k+1)).flatMap (piece ts L)=(R.take k).flatMap (piece ts L)++piece ts L (Am.get R k):=by rw[Z1 hk,Dr]
    have hfl:=BS ts L (R.take (k+1))
    rw[List.length_take]at hfl
    have Wg:0<L.length:=List.length_pos_iff.2 e0
    unfold dP
    by_cases c0:t=0
    ·rw[decide_eq_true c0,decide_eq_false (by omega:¬0<t)]
     refine Evt.cond (fun _=>Evt.eE ?_) (fun e=>by cases e)
     have hpc:piece ts L (Am.get R k)=[⟨Am.get R k,false⟩]:=by unfold piece;rw[if_pos (t3.1 c0)]
     rw[←hpc, ←hsn]
     exact Evt.chk (by rw[bO];omega) (Evt.pure rfl)
    ·by_cases c1:t=L.length
     ·rw[decide_eq_true c1,decide_eq_true (by omega:0<t)]
      refine Evt.cond (fun _=>Evt.eE ?_) (fun e=>by rw[decide_eq_false c0]at e;cases e)
      have hpc:piece ts L (Am.get R k)=[⟨Am.get R k,true⟩]:=by
       unfold piece
       rw[if_neg fun c=>c0 (t3.2 c),if_pos (t4.1 c1)]
      rw[←hpc, ←hsn]
      exact Evt.chk (by rw[bO];omega) (Evt.pure rfl)
     ·rw[decide_eq_false c0,decide_eq_false c1]
      refine Evt.cond (fun e=>by cases e) (fun _=>Evt.pure ?_)
      have hpc:piece ts L (Am.get R k)=[]:=by
       unfold piece
       rw[if_neg fun c=>c0 (t3.2 c),if_neg fun c=>c1 (t4.2 c)]
      show _=_
      rw[hsn,hpc,List.append_nil]
   ·have hs:s=_:=hs.elim id False.elim
    subst hs
    rw[List.take_length]
    unfold dQ
    exact Evt.pure (.inr (.inr ⟨h1,h2,R,hR,by unfold qD;rw[if_neg e0]⟩))
theorem Mc(v:List w7)(h:v.length≤100000):Evt (fun n=>P4 (ρ:=Bool) (E4 v) n ([],0)) (ExP (fun t=>t=v) (fun _=>False)):=by
 refine Evt.loop (body:=fun _=>E4 v) (fun s=>((v.length:Int)-s.2).toNat) (fun s=>∃k:Nat,k≤v.length∧s=(v.take k,(k:Int))) _ _ ⟨0,by omega,rfl⟩ (fun s hs=>?_)
 obtain⟨k,hk,rfl⟩:=hs
 show Evt (fun _=>E4 v (v.take k,(k:Int))) _
 unfold E4
 dsimp only
 refine Evt.cond (fun e=>?_) (fun e=>Evt.pure ?_)
 ·replace e:=bx e
  have hk2:k<v.length:=by omega
  refine Evt.chk (by omega) (Evt.eE ?_)
  rw[Int.toNat_natCast, ←Z1 hk2,H9 (by omega) (by omega)]
  refine Evt.chk (by rw[List.length_take,bO];omega) (Evt.pure ⟨⟨k+1,by omega,rfl⟩,?_⟩)
  show((v.length:Int)-((k:Int)+1)).toNat<((v.length:Int)-(k:Int)).toNat
  omega
 ·replace e:=bx e
  show v.take k=v
  rw[List.take_of_length_le (by omega)]
theorem Md(base v:List w7)(f:w9)(h:base.length+v.length≤100000):Evt (fun n=>P4 (ρ:=Bool) (E5 (v,f)) n (base,0)) (ExP (fun t=>t=base++v) (fun _=>False)):=by
 refine Evt.loop (body:=fun _=>E5 (v,f)) (fun s=>((v.length:Int)-s.2).toNat) (fun s=>∃k:Nat,k≤v.length∧s=(base++v.take k,(k:Int))) _ _ ⟨0,by omega,by simp⟩ (fun s hs=>?_)
 obtain⟨k,hk,rfl⟩:=hs
 show Evt (fun _=>E5 (v,f) (base++v.take k,(k:Int))) _
 unfold E5
 dsimp only
 refine Evt.cond (fun e=>?_) (fun e=>Evt.pure ?_)
 ·replace e:=bx e
  have hk2:k<v.length:=by omega
  refine Evt.chk (by omega) (Evt.eE ?_)
  rw[Int.toNat_natCast,List.append_assoc, ←Z1 hk2,H9 (by omega) (by omega)]
  refine Evt.chk (by rw[List.length_append,List.length_take,bO];omega) (Evt.pure ⟨⟨k+1,by omega,rfl⟩,?_⟩)
  show((v.length:Int)-((k:Int)+1)).toNat<((v.length:Int)-(k:Int)).toNat
  omega
 ·replace e:=bx e
  show base++v.take k=base++v
  rw[List.take_of_length_le (by omega)]
theorem Kd{ts:List w8}{ds es:List w7}(h:∀c∈es,∀x∈X6 ts ds,(c.what∈tr ts x↔c.yes=true)):X6 ts (ds++es)=X6 ts ds:=by
 unfold X6
 refine rG fun k hk=>?_
 constructor
 ·exact fun a c hc=>a c (List.mem_append_left _ hc)
 ·intro a c hc
  rcases List.mem_append.1 hc with hc|hc
  ·exact a c hc
  ·have:=h c hc (k:Int) (kR.2 ⟨by omega,by omega,by unfold tr;rw[Int.toNat_natCast];exact a⟩)
   unfold tr at this
   rwa[Int.toNat_natCast]at this
theorem CJ{g:x5}(hB:zG g){ts:List w8}{ds:List w7}:Evt (fun n=>L5 n g ts ds) (fun b=>b=true):=by
 obtain⟨f,h1,h2,hz⟩:=pV hB ts
 unfold L5
 refine Evt.bind gK fun v1 e1=>?_
 subst e1
 refine Evt.cond (fun e=>by cases e) (fun _=>Evt.bind (Ay h1 hz ds) fun v2 hv=>?_)
 rcases hv with⟨c1,rfl⟩|⟨c1,c2,rfl⟩|⟨c1,c2,R,hR,rfl⟩
 ·rw[decide_eq_false c1]
  exact Evt.cond (fun _=>Evt.pure rfl) (fun e=>by cases e)
 ·exact Evt.cond (fun _=>Evt.pure rfl) (fun e=>by cases e)
 ·obtain⟨hf,hg,hp⟩:=hz c1
  have hn:=hp.1
  have hRl:=hR.len hp
  have hil:=yV ts (X6 ts ds) R
  have hok:∀c∈qD ts (X6 ts ds) R,∀x∈X6 ts ds,(c.what∈tr ts x↔c.yes=true):=fun c hc=>Mb hc
  obtain⟨I,hI⟩:∃I,I=qD ts (X6 ts ds) R:=⟨_,rfl⟩
  rw[←hI]at hil hok⊢
  refine Evt.cond (fun _=>Evt.pure rfl) (fun e=>?_)
  have e:decide (300<wr .i64 ((I.length:Int)+(ds.length:Int)))=false:=e
  replace e:=bx e
  rw[H9 (by omega) (by omega)]at e
  refine Evt.B5 (Mc ds (by omega)) (fun t ht=>?_) (fun _ h=>h.elim)
  have ht:t=ds:=ht
  subst ht
  unfold J7
  refine Evt.B5 (Md t I ⟨0,0⟩ (by omega)) (fun u hu=>?_) (fun _ h=>h.elim)
  have hu:u=t++I:=hu
  subst hu
  unfold J8
  refine Evt.bind (rH h1 hz t) fun v41 h41=>Evt.bind (rH h1 hz (t++I)) fun v42 h42=>?_
  have hlen:(t++I).length≤300:=by rw[List.length_append];omega
  have q1:v41=(X6 ts t,⟨0,0⟩):=by rcases h41 with⟨c,_⟩|⟨_,c,_⟩|⟨_,_,c⟩<;>first|exact c|exact absurd c1 c|omega
  have q2:v42=(X6 ts (t++I),⟨0,0⟩):=by rcases h42 with⟨c,_⟩|⟨_,c,_⟩|⟨_,_,c⟩<;>first|exact c|exact absurd c1 c|omega
  rw[Kd hok]at q2
  subst q1 q2
  refine Evt.bind (P:=fun v=>v=true) (Evt.gd (fun _=>(qB (X6 ts t) (X6 ts t) (by have:=nY ts t;omega)).mono fun r hr=>hr.2 rfl) (fun e=>by cases e)) fun v hv=>?_
  subst hv
  exact Evt.pure rfl
theorem wv:∀(m:Nat) (t:w8),SizeOf.sizeOf t≤m→∀u:w8,Evt (fun n=>I8 n t u) (fun r=>r=true↔t=u):=by
 intro m
 induction m with
 |zero=>intro s h;cases s;simp only[w8.mk.sizeOf_spec]at h;omega
 |succ m ih=>
  intro t ht u
  refine Evt.succ ?_
  have htu:t=u↔(t.rule=u.rule∧t.lex=u.lex)∧t.kids=u.kids:=by
   cases t;cases u;simp[w8.mk.injEq,and_assoc]
  show Evt (fun n=>I8 (n+1) t u) _
  simp only[I8]
  obtain⟨G,hG⟩:∃G,G=(bif decide (t.rule=u.rule)then decide (t.lex=u.lex)else false):=⟨_,rfl⟩
  have hG2:G=true↔(t.rule=u.rule∧t.lex=u.lex):=by
   rw[hG];by_cases c:t.rule=u.rule<;>simp[c]
  rw[←hG]
  refine Evt.bind (P:=fun v=>G=true→(v=true↔t.kids=u.kids)) (Evt.gd (fun _=>?_) (fun e h=>by rw[h]at e;cases e)) fun v hv=>Evt.pure ?_
  ·unfold eT
   refine Evt.cond (fun e=>Evt.pure fun _=>?_) (fun e=>?_)
   ·replace e:=bx e
    simp only[Bool.false_eq_true,false_iff]
    intro h;rw[h]at e;exact e rfl
   ·replace e:=bx e
    have hl:t.kids.length=u.kids.length:=by omega
    refine Evt.B5 (Evt.range (body:=fun n=>S5 (I8 n) u.kids t.kids) (fun k _=>∀j,j<k→Am.get t.kids j=Am.get u.kids j) (fun _=>False) (fun r=>r=false∧t.kids≠u.kids) (fun j hj=>absurd hj (Nat.not_lt_zero _)) (fun k s hk hs=>?_)) (fun s hs=>?_) (fun r hr=>?_)
    ·show Evt (fun n=>S5 (I8 n) u.kids t.kids k s) _
     unfold S5
     refine Evt.chk (by omega) (Evt.bind (ih _ (by have:=mq hk;omega) (Am.get u.kids k)) fun v hv=>Evt.cond (fun e=>Evt.pure ⟨rfl,fun h=>?_⟩) (fun e=>Evt.pure fun j hj=>?_))
     ·rw[hv.2 (by rw[h])]at e;cases e
     ·by_cases ej:j=k
      ·subst ej;exact hv.1 (by simpa using e)
      ·exact hs j (by omega)
    ·have hs:=hs.elim id False.elim
     unfold bV
     refine Evt.pure fun _=>⟨fun _=>?_,fun _=>rfl⟩
     refine List.ext_getElem hl fun j h1 h2=>?_
     have:=hs j h1
     rwa[Gk h1,Gk h2]at this
    ·obtain⟨h1,h2⟩:=(hr:r=false∧t.kids≠u.kids)
     subst h1
     exact fun _=>⟨fun h=>(by cases h),fun h=>absurd h h2⟩
  ·rw[htu, ←hG2]
   cases G with
   |true=>rw[cond_true,hv rfl];simp
   |false=>simp
noncomputable def inB(d:DD)(l:List DD):Bool:=@decide (d∈l) (Classical.propDecidable _)
theorem Ke{d:DD}{l:List DD}:inB d l=true↔d∈l:=by unfold inB;exact @decide_eq_true_iff _ (Classical.propDecidable _)
theorem RB{d:DD}{l:List DD}{b:Bool}(h:b=true↔d∈l):b=inB d l:=by
 rw[Bool.eq_iff_iff,h,Ke]
noncomputable def Cc(ts:List w8)(x:Int)(R:List DD):List w7:=R.map fun d=>⟨d,inB d (tr ts x)⟩
theorem BT(ts:List w8)(x:Int)(R:List DD):(Cc ts x R).length=R.length:=by simp[Cc]
theorem Kf{g:x5}{ts:List w8}{f:w9}(h:Evt (fun n=>I4 n g ts) (fun r=>r=f))(hz:f.code=0→f=⟨0,0⟩∧qO g∧Passed g ts)(x:Int):
 Evt (fun n=>eU n g ts x) (fun r=>(f.code≠0∧r=([],f))∨(f.code=0∧(x<0∨(ts.length:Int)≤x)∧r=([],⟨3, -3⟩))∨(f.code=0∧(0≤x∧x<ts.length)∧∃R,Divide ts R∧r=(Cc ts x R,⟨0,0⟩))):=by
 unfold eU
 refine Evt.bind h fun v hv=>?_
 subst hv
 refine Evt.cond (fun e=>Evt.pure (.inl ⟨bx e,rfl⟩)) (fun e=>?_)
 have h1:v.code=0:=by have:=bx e;omega
 obtain⟨_,hg,hp⟩:=hz h1
 have hn:=hp.1
 refine Evt.cond (fun e2=>?_) (fun e2=>?_)
 ·unfold L3
  refine Evt.pure (.inr (.inl ⟨h1,?_,rfl⟩))
  by_cases c:x<0
  ·exact .inl c
  ·rw[decide_eq_false c]at e2;exact .inr (of_decide_eq_true e2)
 ·have hx:0≤x∧x<ts.length:=by
   by_cases c:x<0
   ·rw[decide_eq_true c]at e2;cases e2
   ·rw[decide_eq_false c]at e2;have:=of_decide_eq_false e2;omega
  refine Evt.bind (vP hp) fun v hv=>?_
  subst hv
  refine Evt.bind (Dn hg hp) fun R hR=>?_
  have hRl:=hR.len hp
  refine Evt.B5 (Evt.range (body:=fun n=>bK n x (Z2 ts) R) (fun k s=>s=Cc ts x (R.take k)) (fun _=>False) (fun _=>False) (by simp[Cc]) (fun k s hk hs=>?_)) (fun s hs=>?_) (fun _ h=>h.elim)
  ·subst hs
   unfold bK
   refine Evt.chk (by rw[fL];exact hx) (Evt.bind (sk hp _ hx.1 hx.2) fun b hb=>Evt.eE ?_)
   have e:Cc ts x (R.take k)++[⟨Am.get R k,b⟩]=Cc ts x (R.take (k+1)):=by
    rw[Z1 hk]
    have:=RB hb
    simp only[Cc,List.map_append,List.map_cons,List.map_nil,this]
   rw[e]
   exact Evt.chk (by rw[BT,List.length_take,bO];omega) (Evt.pure rfl)
  ·have hs:s=_:=hs.elim id False.elim
   subst hs
   rw[List.take_length]
   unfold eV
   exact Evt.pure (.inr (.inr ⟨h1,hx,R,hR,rfl⟩))
theorem Divide.same{ts:List w8}{R:List DD}(hR:Divide ts R){a b:Nat}(ha:a<ts.length)(hb:b<ts.length)(h:∀d∈R,(d∈mks (Am.get ts a) 0 0↔d∈mks (Am.get ts b) 0 0)):∀d,d∈mks (Am.get ts a) 0 0↔d∈mks (Am.get ts b) 0 0:=by
 intro d
 by_cases c:d∈R
 ·exact h d c
 ·have key:∀i j,i<ts.length→j<ts.length→d∈mks (Am.get ts i) 0 0→d∈mks (Am.get ts j) 0 0:=fun i j hi hj hm=>Classical.byContradiction fun hn=>c ((hR.2 d).2 ⟨⟨i,hi,hm⟩,j,hj,hn⟩)
  exact⟨key a b ha hb,key b a hb ha⟩
theorem Kg{g:x5}(hg:qO g){ts:List w8}(hp:Passed g ts){R:List DD}(hR:Divide ts R){x:Int}(h0:0≤x)(h1:x<ts.length):X6 ts (Cc ts x R)=idx (fun k=>Am.get ts k=Am.get ts x.toNat) ts.length:=by
 unfold X6
 refine rG fun k hk=>?_
 have hx:x.toNat<ts.length:=by omega
 have e1:kO (mks (Am.get ts k) 0 0) (Cc ts x R)↔ ∀d∈R,(d∈mks (Am.get ts k) 0 0↔d∈mks (Am.get ts x.toNat) 0 0):=by
  unfold kO Cc
  simp only[List.mem_map]
  constructor
  ·intro h d hd
   have:=h _ ⟨d,hd,rfl⟩
   exact this.trans Ke
  ·rintro h c ⟨d,hd,rfl⟩
   exact(h d hd).trans Ke.symm
 rw[e1]
 constructor
 ·intro h
  exact Aw hg (hp.2 k hk).1 (hp.2 _ hx).1 (hR.same hk hx h)
 ·intro h d _
  rw[h]
theorem Wh{a b:DD}:(!(decide (a.from_=b.from_)&&(decide (a.to_=b.to_)&&(decide (a.level=b.level)&&(decide (a.rule=b.rule)&&(decide (a.lex=b.lex)))))))=true↔a≠b:=by
 rw[Bool.not_eq_true', ←Bool.not_eq_true,eqD]
theorem zu{g:x5}(hB:zG g){ts:List w8}{x:Int}:Evt (fun n=>Q7 n g ts x) (fun b=>b=true):=by
 obtain⟨f,h1,h2,hz⟩:=pV hB ts
 unfold Q7
 refine Evt.bind gK fun v1 e1=>?_
 subst e1
 refine Evt.cond (fun e=>by cases e) (fun _=>Evt.bind (Kf h1 hz x) fun v2 hv=>Evt.bind h2 fun v3 e3=>?_)
 subst e3
 rcases hv with⟨c1,rfl⟩|⟨c1,c2,rfl⟩|⟨c1,c2,R,hR,rfl⟩
 ·rw[decide_eq_false c1]
  refine Evt.cond (fun e=>by cases e) (fun _=>?_)
  unfold F3
  exact Evt.cond (fun _=>Evt.pure (by simp)) (fun e=>absurd (bx e) c1)
 ·rw[decide_eq_true c1,cond_true]
  refine Evt.cond (fun _=>?_) (fun e=>?_)
  ·unfold F3
   exact Evt.cond (fun _=>Evt.pure rfl) (fun e=>by cases e)
  ·rcases c2 with c|c
   ·rw[decide_eq_true c]at e;cases e
   ·by_cases c3:x<0
    ·rw[decide_eq_true c3]at e;cases e
    ·rw[decide_eq_false c3,decide_eq_true c]at e;cases e
 ·obtain⟨hf,hg,hp⟩:=hz c1
  have hn:=hp.1
  have hRl:=hR.len hp
  rw[decide_eq_true c1,cond_true,decide_eq_false (by omega:¬x<0),decide_eq_false (by omega:¬(ts.length:Int)≤x)]
  refine Evt.cond (fun e=>by cases e) (fun _=>?_)
  unfold F3
  refine Evt.cond (fun e=>absurd c1 (bx e)) (fun _=>Evt.bind (Ka h1 hz) fun v4 h4=>?_)
  rcases h4 with⟨c,_⟩|⟨_,S,hS,rfl⟩
  ·exact absurd c1 c
  ·have e:=hR.uniq hS
   subst e
   refine Evt.cond (fun e=>?_) (fun _=>?_)
   ·simp[BT]at e
   ·refine Evt.B5 (Evt.loop (body:=fun _=>G3 (Cc ts x R,⟨0,0⟩) (R,⟨0,0⟩)) (fun s=>((R.length:Int)-s).toNat) (fun s=>∃k:Nat,s=(k:Int)∧k≤R.length) (fun _=>True) (fun _=>False) ⟨0,rfl,by omega⟩ (fun s hs=>?_)) (fun t _=>?_) (fun _ h=>h.elim)
    ·obtain⟨k,rfl,hk⟩:=hs
     show Evt (fun _=>G3 (Cc ts x R,⟨0,0⟩) (R,⟨0,0⟩) (k:Int)) _
     unfold G3
     dsimp only
     rw[BT]
     refine Evt.cond (fun e=>?_) (fun e=>Evt.pure trivial)
     replace e:=bx e
     have hk2:k<R.length:=by omega
     rw[Int.toNat_natCast]
     have hw:(Am.get (Cc ts x R) k).what=Am.get R k:=by simp[Cc,Am.get,hk2]
     refine Evt.chk (by omega) (Evt.chk (by omega) (Evt.cond (fun e2=>?_) (fun e2=>Evt.pure ⟨⟨k+1,?_,by omega⟩,?_⟩)))
     ·exact absurd hw (Wh.1 e2)
     ·show wr .i64 ((k:Int)+1)=_
      rw[H9 (by omega) (by omega)];rfl
     ·show((R.length:Int)-wr .i64 ((k:Int)+1)).toNat<((R.length:Int)-(k:Int)).toNat
      rw[H9 (by omega) (by omega)];omega
    ·unfold N0
     refine Evt.cond (fun _=>Evt.pure rfl) (fun e=>?_)
     have hlen:(Cc ts x R).length≤300:=by have:=bx e;omega
     refine Evt.bind (rH h1 hz (Cc ts x R)) fun v10 h10=>?_
     have q:v10=(X6 ts (Cc ts x R),⟨0,0⟩):=by rcases h10 with⟨c,_⟩|⟨_,c,_⟩|⟨_,_,c⟩<;>first|exact c|exact absurd c1 c|omega
     rw[Kg hg hp hR c2.1 c2.2]at q
     subst q
     refine Evt.B5 (P:=ExP (fun t=>t=idx (fun k=>Am.get ts k=Am.get ts x.toNat) ts.length) (fun _=>False)) (Evt.loop (body:=fun n=>G4 n ts x) (fun s=>((ts.length:Int)-s.2).toNat) (fun s=>∃k:Nat,k≤ts.length∧s=(idx (fun k=>Am.get ts k=Am.get ts x.toNat) k,(k:Int))) _ _ ⟨0,by omega,rfl⟩ (fun s hs=>?_)) (fun t ht=>?_) (fun _ h=>h.elim)
     ·obtain⟨k,hk,rfl⟩:=hs
      show Evt (fun n=>G4 n ts x (idx (fun k=>Am.get ts k=Am.get ts x.toNat) k,(k:Int))) _
      unfold G4
      dsimp only
      refine Evt.cond (fun e=>?_) (fun e=>Evt.pure ?_)
      ·replace e:=bx e
       have hk2:k<ts.length:=by omega
       have DC:((ts.length:Int)-((k:Int)+1)).toNat<((ts.length:Int)-(k:Int)).toNat:=by omega
       refine Evt.chk (by omega) (Evt.chk (by omega) ?_)
       rw[Int.toNat_natCast,H9 (by omega) (by omega)]
       refine Evt.bind (wv _ (Am.get ts k) (Nat.le_refl _) (Am.get ts x.toNat)) fun b hb=>Evt.cond (fun e2=>Evt.eE ?_) (fun e2=>Evt.pure ⟨⟨k+1,by omega,?_⟩,DC⟩)
       ·rw[←lE (p:=fun k=>Am.get ts k=Am.get ts x.toNat) (hb.1 e2)]
        have:=sX (fun k=>Am.get ts k=Am.get ts x.toNat) (k+1)
        exact Evt.chk (by rw[bO];omega) (Evt.pure ⟨⟨k+1,by omega,rfl⟩,DC⟩)
       ·rw[pU fun h=>by rw[hb.2 h]at e2;cases e2];rfl
      ·replace e:=bx e
       obtain rfl:k=ts.length:=by omega
       rfl
     ·have ht:t=_:=ht
      subst ht
      unfold N3
      have hl:=sX (fun k=>Am.get ts k=Am.get ts x.toNat) ts.length
      refine Evt.bind (P:=fun v=>v=true) (Evt.gd (fun _=>(qB (idx (fun k=>Am.get ts k=Am.get ts x.toNat) ts.length) (idx (fun k=>Am.get ts k=Am.get ts x.toNat) ts.length) (by omega)).mono fun r hr=>hr.2 rfl) (fun e=>by cases e)) fun v hv=>?_
      subst hv
      exact Evt.pure rfl
theorem Ds{g:x5}{ts:List w8}(hp:Passed g ts)(L:List Int)(hL:∀x∈L,0≤x∧x<(ts.length:Int))(hl:L.length≤200)(R:List DD)(k:Nat):
 Evt (fun n=>F2 (ρ:=Ctl (DD×Bool×w9) (Int×Int×Int×Int×Int×Int×Bool) (Int×Int×Int×Int×Int×Int×Bool)) (K5 n L (Z2 ts) R k) L.length 0) (ExP (fun t=>lq ts (Am.get R k) L t) (fun _=>False)):=by
 refine(Evt.range (body:=fun n=>K5 n L (Z2 ts) R k) (fun j s=>lq ts (Am.get R k) (L.take j) s) (fun _=>False) (fun _=>False) (vQ _ _) (fun j s hj hs=>?_)).mono fun x hx=>?_
 ·have hx:=hL _ (get_mem hj)
  show Evt (fun n=>K5 n L (Z2 ts) R k j s) _
  unfold K5
  refine Evt.chk (by rw[fL];exact hx) (Evt.bind (sk hp _ hx.1 hx.2) fun b hb=>Evt.cond (fun e=>Evt.pure ?_) (fun e=>Evt.pure ?_))
  ·have h2:=hs.2.1
   rw[List.length_take]at h2
   have h1:=hs.1
   show lq ts (Am.get R k) (L.take (j+1)) (wr .i64 (s+1))
   rw[H9 (by omega) (by omega),Z1 hj]
   exact vR hs (hb.1 e)
  ·show lq ts (Am.get R k) (L.take (j+1)) s
   rw[Z1 hj]
   exact yU hs fun h=>by rw[hb.2 h]at e;cases e
 ·cases x with
  |nxt t=>have:=hx.elim id False.elim;rwa[List.take_length]at this
  |ret r=>exact hx
def Splits(ts:List w8)(L:List Int)(d:DD):Prop:=(∃x∈L,d∈tr ts x)∧∃x∈L,d∉tr ts x
theorem Kh{ts:List w8}{L:List Int}{d:DD}{t:Int}(h:lq ts d L t):Splits ts L d↔max t ((L.length:Int)-t)<L.length:=by
 obtain⟨h1,h2,h3,h4⟩:=h
 have e:(max t ((L.length:Int)-t)<L.length)↔(¬t=0∧¬t=L.length):=by omega
 rw[e,h3,h4]
 unfold Splits
 simp
theorem Ki{g:x5}{ts:List w8}{f:w9}(h:Evt (fun n=>I4 n g ts) (fun r=>r=f))(hz:f.code=0→f=⟨0,0⟩∧qO g∧Passed g ts)(ds:List w7):
 Evt (fun n=>aO n g ts ds) (fun r=>(f.code≠0∧r=(⟨0,0,0,0,0⟩,false,f))∨(f.code=0∧300<ds.length∧r=(⟨0,0,0,0,0⟩,false,⟨2, -3⟩))∨(f.code=0∧ds.length≤300∧r.2.2=⟨0,0⟩∧∃R,Divide ts R∧(r.2.1=true→r.1∈R∧Splits ts (X6 ts ds) r.1)∧(r.2.1=false→∀d∈R,¬Splits ts (X6 ts ds) d))):=by
 unfold aO
 refine Evt.bind (BR h (fun e=>(hz e).1) ds) fun v hv=>?_
 rcases hv with⟨h1,rfl⟩|⟨h1,h2,rfl⟩|⟨h1,h2,rfl⟩
 ·exact Evt.cond (fun _=>Evt.pure (.inl ⟨h1,rfl⟩)) (fun e=>absurd (bx e) h1)
 ·exact Evt.cond (fun _=>Evt.pure (.inr (.inl ⟨h1,h2,rfl⟩))) (fun e=>by cases e)
 ·refine Evt.cond (fun e=>by cases e) (fun _=>?_)
  obtain⟨_,hg,hp⟩:=hz h1
  have hn:=hp.1
  refine Evt.bind (vP hp) fun v hv=>?_
  subst hv
  refine Evt.bind (Gm hp (by omega)) fun L hL=>?_
  have hLm:∀x∈L,0≤x∧x<(ts.length:Int):=fun x hx=>by rw[hL]at hx;have:=kR.1 hx;exact⟨this.1,this.2.1⟩
  have hLl:L.length≤200:=by rw[hL];have:=nY ts ds;omega
  rw[←hL]
  refine Evt.bind (Dn hg hp) fun R hR=>?_
  refine Evt.B5 (Evt.range (body:=fun n=>P8 n L (Z2 ts) R) (fun k s=>(s.2.2.2.2.2.2=true→(⟨s.1,s.2.1,s.2.2.1,s.2.2.2.1,s.2.2.2.2.1⟩:DD)∈R∧Splits ts L ⟨s.1,s.2.1,s.2.2.1,s.2.2.2.1,s.2.2.2.2.1⟩)∧(s.2.2.2.2.2.2=false→∀j,j<k→¬Splits ts L (Am.get R j))) (fun _=>False) (fun _=>False) ⟨fun e=>(by cases e),fun _ j hj=>absurd hj (Nat.not_lt_zero _)⟩ (fun k s hk hs=>?_)) (fun s hs=>?_) (fun _ h=>h.elim)
  ·show Evt (fun n=>P8 n L (Z2 ts) R k s) _
   unfold P8
   refine Evt.B5 (Ds hp L hLm hLl R k) (fun t ht=>?_) (fun _ h=>h.elim)
   have ht:lq ts (Am.get R k) L t:=ht
   have hsp:=Kh ht
   obtain⟨t1,t2,_⟩:=ht
   unfold dy
   rw[H9 (by omega) (by omega)]
   refine Evt.cond (fun e=>Evt.pure ?_) (fun e=>Evt.pure ?_)
   ·have e1:max t ((L.length:Int)-t)<L.length:=by
     by_cases c:max t ((L.length:Int)-t)<L.length
     ·exact c
     ·rw[decide_eq_false c]at e;cases e
    exact⟨fun _=>⟨get_mem hk,hsp.2 e1⟩,fun e=>(by cases e)⟩
   ·refine⟨hs.1,fun e2 j hj=>?_⟩
    have e2:s.2.2.2.2.2.2=false:=e2
    by_cases ej:j=k
    ·subst ej
     intro c
     rw[decide_eq_true (hsp.1 c),cond_true,e2]at e
     cases e
    ·exact hs.2 e2 j (by omega)
  ·obtain⟨s1,s2⟩:=hs.elim id False.elim
   unfold dz
   refine Evt.pure (.inr (.inr ⟨h1,h2,rfl,R,hR,s1,fun e d hd=>?_⟩))
   obtain⟨j,hj,he⟩:=List.getElem_of_mem hd
   rw[←he, ←Gk hj]
   exact s2 e j hj
theorem MY{p q:Nat→Prop}:∀ {m:Nat},(∀k,k<m→q k→p k)→(idx q m).length≤(idx p m).length
 |0,_=>by simp[Gh]
 |m+1,h=>by
  have ih:=MY (p:=p) (q:=q) (m:=m) fun k hk=>h k (by omega)
  by_cases e:q m
  ·rw[lE e,lE (h m (by omega) e),List.length_append,List.length_append,List.length_singleton];omega
  ·by_cases e2:p m
   ·rw[pU e,lE e2,List.length_append];omega
   ·rw[pU e,pU e2];exact ih
theorem MZ{p q:Nat→Prop}{k:Nat}(hp:p k)(hq:¬q k):∀ {m:Nat},k<m→(∀k,k<m→q k→p k)→(idx q m).length<(idx p m).length
 |0,hk,_=>by omega
 |m+1,hk,h=>by
  by_cases ek:k=m
  ·subst ek
   have:=MY (p:=p) (q:=q) (m:=k) fun k hk=>h k (by omega)
   rw[pU hq,lE hp,List.length_append,List.length_singleton];omega
  ·have ih:=MZ hp hq (m:=m) (by omega) fun k hk=>h k (by omega)
   by_cases e:q m
   ·rw[lE e,lE (h m (by omega) e),List.length_append,List.length_append,List.length_singleton];omega
   ·by_cases e2:p m
    ·rw[pU e,lE e2,List.length_append];omega
    ·rw[pU e,pU e2];exact ih
def Truth(ts:List w8)(x:Int)(ds:List w7):Prop:=kO (tr ts x) ds
theorem Hl{ts:List w8}{ds:List w7}{c:w7}(h:Splits ts (X6 ts ds) c.what):(X6 ts (ds++[c])).length<(X6 ts ds).length:=by
 obtain⟨⟨a,ha,ha2⟩,b,hb,hb2⟩:=h
 have key:∃y∈X6 ts ds,¬(c.what∈tr ts y↔c.yes=true):=by
  cases hy:c.yes with
  |true=>exact⟨b,hb,fun h=>hb2 (h.2 rfl)⟩
  |false=>exact⟨a,ha,fun h=>by cases h.1 ha2⟩
 obtain⟨y,hy,hn⟩:=key
 obtain⟨y0,y1,y2⟩:=kR.1 hy
 unfold X6
 refine MZ (k:=y.toNat) y2 (fun h=>hn (h c (by simp))) (by omega) fun k _ h d hd=>h d (by simp[hd])
theorem Kj{g:x5}(hg:qO g){ts:List w8}(hp:Passed g ts){ds:List w7}{R:List DD}(hR:Divide ts R)(hns:∀d∈R,¬Splits ts (X6 ts ds) d){x:Int}(h0:0≤x)(h1:x<ts.length)(ht:Truth ts x ds):
 X6 ts ds=idx (fun k=>Am.get ts k=Am.get ts x.toNat) ts.length:=by
 have hx:x.toNat<ts.length:=by omega
 have hxl:x∈X6 ts ds:=kR.2 ⟨h0,h1,ht⟩
 unfold X6
 refine rG fun k hk=>?_
 constructor
 ·intro ha
  have hkl:(k:Int)∈X6 ts ds:=kR.2 ⟨by omega,by omega,by unfold tr;rw[Int.toNat_natCast];exact ha⟩
  refine Aw hg (hp.2 k hk).1 (hp.2 _ hx).1 (hR.same hk hx fun d hd=>?_)
  have hn:=hns d hd
  constructor
  ·intro hm
   exact Classical.byContradiction fun c=>hn ⟨⟨k,hkl,by unfold tr;rw[Int.toNat_natCast];exact hm⟩,x,hxl,c⟩
  ·intro hm
   exact Classical.byContradiction fun c=>hn ⟨⟨x,hxl,hm⟩,k,hkl,by unfold tr;rw[Int.toNat_natCast];exact c⟩
 ·intro e
  rw[e];exact ht
theorem wD{g:x5}(hB:zG g){ts:List w8}{x:Int}:Evt (fun n=>O8 n g ts x) (fun b=>b=true):=by
 obtain⟨f,h1,h2,hz⟩:=pV hB ts
 unfold O8
 refine Evt.bind gK fun v1 e1=>?_
 subst e1
 refine Evt.cond (fun e=>by cases e) (fun _=>Evt.cond (fun _=>Evt.pure rfl) (fun e=>?_))
 have hx:0≤x∧x<ts.length:=by
  by_cases c:x<0
  ·rw[decide_eq_true c]at e;cases e
  ·rw[decide_eq_false c]at e;have:=of_decide_eq_false e;omega
 by_cases c1:f.code=0
 ·obtain⟨hf,hg,hp⟩:=hz c1
  have hn:=hp.1
  refine Evt.B5 (P:=fun e=>match e with| .nxt _=>False| .ret r=>r=true) (Evt.mono (Evt.loop (body:=fun n=>D2 n ts g x) (fun s=>((ts.length:Int)-s.2).toNat) (fun s=>∃i:Nat,s.2=(i:Int)∧s.1.length=i∧Truth ts x s.1∧(X6 ts s.1).length+i≤ts.length) (fun _=>False) (fun r=>r=true) ⟨0,rfl,rfl,fun c hc=>(by cases hc),by have:=nY ts [];show(X6 ts []).length+0≤_;omega⟩ (fun s hs=>?_)) (fun y hy=>by cases y<;>exact hy)) (fun t ht=>ht.elim) (fun r hr=>hr)
  obtain⟨ds,i⟩:=s
  obtain⟨i,rfl,hi,htr,hle⟩:=hs
  have hi:ds.length=i:=hi
  have htr:Truth ts x ds:=htr
  have hle:(X6 ts ds).length+i≤ts.length:=hle
  have hxl:x∈X6 ts ds:=kR.2 ⟨hx.1,hx.2,htr⟩
  have hpos:0<(X6 ts ds).length:=List.length_pos_iff.2 fun c=>by rw[c]at hxl;cases hxl
  show Evt (fun n=>D2 n ts g x (ds,(i:Int))) _
  unfold D2
  dsimp only
  refine Evt.cond (fun _=>?_) (fun e=>by have:=bx e;omega)
  refine Evt.bind (Ki h1 hz ds) fun v90 hv=>?_
  rcases hv with⟨c,_⟩|⟨_,c,_⟩|⟨_,_,q3,R,hR,q4,q5⟩
  ·exact absurd c1 c
  ·omega
  ·rw[q3]
   refine Evt.cond (fun e=>by cases e) (fun _=>Evt.cond (fun e=>?_) (fun e=>?_))
   ·have e:v90.2.1=false:=by simpa using e
    refine Evt.bind (rH h1 hz ds) fun v91 h91=>?_
    have q:v91=(X6 ts ds,⟨0,0⟩):=by rcases h91 with⟨c,_⟩|⟨_,c,_⟩|⟨_,_,c⟩<;>first|exact c|exact absurd c1 c|omega
    rw[Kj hg hp hR (q5 e) hx.1 hx.2 htr]at q
    subst q
    rw[decide_eq_false (by omega:¬(ts.length:Int)≤(i:Int))]
    refine Evt.cond (fun e=>by cases e) (fun _=>?_)
    refine Evt.B5 (P:=ExP (fun t=>t=idx (fun k=>Am.get ts k=Am.get ts x.toNat) ts.length) (fun _=>False)) (Evt.loop (body:=fun n=>G0 n ts x) (fun s=>((ts.length:Int)-s.2).toNat) (fun s=>∃k:Nat,k≤ts.length∧s=(idx (fun k=>Am.get ts k=Am.get ts x.toNat) k,(k:Int))) _ _ ⟨0,by omega,rfl⟩ (fun s hs=>?_)) (fun t ht=>?_) (fun _ h=>h.elim)
    ·obtain⟨k,hk,rfl⟩:=hs
     show Evt (fun n=>G0 n ts x (idx (fun k=>Am.get ts k=Am.get ts x.toNat) k,(k:Int))) _
     unfold G0
     dsimp only
     refine Evt.cond (fun e=>?_) (fun e=>Evt.pure ?_)
     ·replace e:=bx e
      have hk2:k<ts.length:=by omega
      have DC:((ts.length:Int)-((k:Int)+1)).toNat<((ts.length:Int)-(k:Int)).toNat:=by omega
      refine Evt.chk (by omega) (Evt.chk (by omega) ?_)
      rw[Int.toNat_natCast,H9 (by omega) (by omega)]
      refine Evt.bind (wv _ (Am.get ts k) (Nat.le_refl _) (Am.get ts x.toNat)) fun b hb=>Evt.cond (fun e2=>Evt.eE ?_) (fun e2=>Evt.pure ⟨⟨k+1,by omega,?_⟩,DC⟩)
      ·rw[←lE (p:=fun k=>Am.get ts k=Am.get ts x.toNat) (hb.1 e2)]
       have:=sX (fun k=>Am.get ts k=Am.get ts x.toNat) (k+1)
       exact Evt.chk (by rw[bO];omega) (Evt.pure ⟨⟨k+1,by omega,rfl⟩,DC⟩)
      ·rw[pU fun h=>by rw[hb.2 h]at e2;cases e2];rfl
     ·replace e:=bx e
      obtain rfl:k=ts.length:=by omega
      rfl
    ·have ht:t=_:=ht
     subst ht
     unfold L6
     have hl:=sX (fun k=>Am.get ts k=Am.get ts x.toNat) ts.length
     refine Evt.bind ((qB (idx (fun k=>Am.get ts k=Am.get ts x.toNat) ts.length) (idx (fun k=>Am.get ts k=Am.get ts x.toNat) ts.length) (by omega)).mono fun r hr=>hr.2 rfl) fun v hv=>?_
     subst hv
     exact Evt.pure rfl
   ·have e:v90.2.1=true:=by simpa using e
    obtain⟨_,hsp⟩:=q4 e
    have hxk:x.toNat<ts.length:=by omega
    refine Evt.chk hx (Evt.bind (sj (hp.2 _ hxk).1 (hp.2 _ hxk).2 v90.1) fun b hb=>Evt.eE ?_)
    have hdr:=Hl (c:=⟨v90.1,b⟩) hsp
    rw[H9 (by omega) (by omega)]
    refine Evt.chk (by rw[List.length_append,List.length_singleton,bO];omega) (Evt.pure ⟨⟨i+1,rfl,?_,fun c hc=>?_,?_⟩,?_⟩)
    ·show(ds++[_]).length=_
     rw[List.length_append,List.length_singleton,hi]
    ·rcases List.mem_append.1 hc with hc|hc
     ·exact htr c hc
     ·rw[List.mem_singleton.1 hc];exact hb.symm
    ·show(X6 ts (ds++[_])).length+(i+1)≤_
     omega
    ·show((ts.length:Int)-((i:Int)+1)).toNat<((ts.length:Int)-(i:Int)).toNat
     omega
 ·refine Evt.B5 (P:=fun e=>match e with| .nxt _=>False| .ret r=>r=true) (Evt.mono (Evt.loop (body:=fun n=>D2 n ts g x) (fun _=>0) (fun s=>s=([],0)) (fun _=>False) (fun r=>r=true) rfl (fun s hs=>?_)) (fun y hy=>by cases y<;>exact hy)) (fun t ht=>ht.elim) (fun r hr=>hr)
  subst hs
  show Evt (fun n=>D2 n ts g x ([],0)) _
  unfold D2
  dsimp only
  refine Evt.cond (fun _=>?_) (fun e=>by have:=bx e;omega)
  refine Evt.bind (Ki h1 hz []) fun v90 hv=>?_
  rcases hv with⟨_,rfl⟩|⟨c,_⟩|⟨c,_⟩
  ·rw[decide_eq_false c1]
   exact Evt.cond (fun _=>Evt.pure rfl) (fun e=>by cases e)
  ·exact absurd c c1
  ·exact absurd c c1
noncomputable def zf(ts:List w8)(L:List Int)(d:DD):Int:=((L.filter fun x=>inB d (tr ts x)).length:Int)
theorem BU{ts:List w8}{L:List Int}{d:DD}{x:Int}(h:d∈tr ts x):zf ts (L++[x]) d=zf ts L d+1:=by
 unfold zf
 rw[List.filter_append,List.filter_cons_of_pos (p:=fun x=>inB d (tr ts x)) (Ke.2 h),List.length_append]
 simp
theorem Fa{ts:List w8}{L:List Int}{d:DD}{x:Int}(h:d∉tr ts x):zf ts (L++[x]) d=zf ts L d:=by
 unfold zf
 rw[List.filter_append,List.filter_cons_of_neg (p:=fun x=>inB d (tr ts x)) (fun e=>h (Ke.1 e)),List.filter_nil,List.append_nil]
theorem Fe(ts:List w8)(L:List Int)(d:DD):0≤zf ts L d∧zf ts L d≤L.length:=by
 unfold zf
 have:=List.length_filter_le (fun x=>inB d (tr ts x)) L
 omega
theorem Fg(ts:List w8)(d:DD):∀L:List Int,lq ts d L (zf ts L d):=by
 have key:∀(L:List Int) (k:Nat),k≤L.length→lq ts d (L.take k) (zf ts (L.take k) d):=by
  intro L k
  induction k with
  |zero=>intro _;exact vQ ts d
  |succ k ih=>
   intro hk
   rw[Z1 (by omega:k<L.length)]
   by_cases c:d∈tr ts (Am.get L k)
   ·rw[BU c];exact vR (ih (by omega)) c
   ·rw[Fa c];exact yU (ih (by omega)) c
 intro L
 have:=key L L.length (Nat.le_refl _)
 rwa[List.take_length]at this
theorem BW{g:x5}{ts:List w8}(hp:Passed g ts)(L:List Int)(hL:∀x∈L,0≤x∧x<(ts.length:Int))(hl:L.length≤200)(R:List DD)(k:Nat):
 Evt (fun n=>F2 (ρ:=Ctl (DD×Bool×w9) (Int×Int×Int×Int×Int×Int×Bool) (Int×Int×Int×Int×Int×Int×Bool)) (K5 n L (Z2 ts) R k) L.length 0) (ExP (fun t=>t=zf ts L (Am.get R k)) (fun _=>False)):=by
 refine(Evt.range (body:=fun n=>K5 n L (Z2 ts) R k) (fun j s=>s=zf ts (L.take j) (Am.get R k)) (fun _=>False) (fun _=>False) rfl (fun j s hj hs=>?_)).mono fun x hx=>?_
 ·have hx:=hL _ (get_mem hj)
  subst hs
  show Evt (fun n=>K5 n L (Z2 ts) R k j _) _
  unfold K5
  have hle:=Fe ts (L.take j) (Am.get R k)
  rw[List.length_take]at hle
  refine Evt.chk (by rw[fL];exact hx) (Evt.bind (sk hp _ hx.1 hx.2) fun b hb=>Evt.cond (fun e=>Evt.pure ?_) (fun e=>Evt.pure ?_))
  ·show wr .i64 (_+1)=_
   rw[H9 (by omega) (by omega),Z1 hj,BU (hb.1 e)]
  ·show _=zf ts (L.take (j+1)) _
   rw[Z1 hj,Fa fun h=>by rw[hb.2 h]at e;cases e]
 ·cases x with
  |nxt t=>have:=hx.elim id False.elim;rwa[List.take_length]at this
  |ret r=>exact hx
theorem Kk{g:x5}{ts:List w8}(hp:Passed g ts)(L:List Int)(hL:∀x∈L,0≤x∧x<(ts.length:Int))(hl:L.length≤200)(d:DD):
 Evt (fun n=>bL n ts L d) (fun r=>r=zf ts L d):=by
 unfold bL
 refine Evt.B5 (Evt.loop (body:=fun n=>S6 n L ts d) (fun s=>((L.length:Int)-s.2).toNat) (fun s=>∃k:Nat,k≤L.length∧s=(zf ts (L.take k) d,(k:Int))) (fun t=>t=zf ts L d) (fun _=>False) ⟨0,by omega,rfl⟩ (fun s hs=>?_)) (fun t ht=>by unfold bW;exact Evt.pure ht) (fun _ h=>h.elim)
 obtain⟨k,hk,rfl⟩:=hs
 show Evt (fun n=>S6 n L ts d (zf ts (L.take k) d,(k:Int))) _
 unfold S6
 dsimp only
 have hle:=Fe ts (L.take k) d
 rw[List.length_take]at hle
 refine Evt.cond (fun e=>?_) (fun e=>Evt.pure ?_)
 ·replace e:=bx e
  have hk2:k<L.length:=by omega
  obtain⟨x0,x1⟩:=hL _ (get_mem hk2)
  have hx:(Am.get L k).toNat<ts.length:=by omega
  have DC:((L.length:Int)-((k:Int)+1)).toNat<((L.length:Int)-(k:Int)).toNat:=by omega
  rw[Int.toNat_natCast,H9 (by omega) (by omega),H9 (by omega) (by omega)]
  refine Evt.chk (by omega) (Evt.chk ⟨x0,x1⟩ (Evt.bind (sj (hp.2 _ hx).1 (hp.2 _ hx).2 d) fun b hb=>Evt.cond (fun e2=>Evt.pure ⟨⟨k+1,by omega,?_⟩,DC⟩) (fun e2=>Evt.pure ⟨⟨k+1,by omega,?_⟩,DC⟩)))
  ·rw[Z1 hk2,BU (hb.1 e2)];rfl
  ·rw[Z1 hk2,Fa fun h=>by rw[hb.2 h]at e2;cases e2];rfl
 ·replace e:=bx e
  show zf ts (L.take k) d=_
  rw[List.take_of_length_le (by omega)]
noncomputable def worst(ts:List w8)(L:List Int)(d:DD):Int:=max (zf ts L d) ((L.length:Int)-zf ts L d)
noncomputable def zH(ts:List w8)(L:List Int)(s:DD×Int×Bool)(d:DD):DD×Int×Bool:=
 bif (bif decide (worst ts L d<L.length)then(bif !s.2.2 then true else decide (worst ts L d<s.2.1))else false)then(d,worst ts L d,true)else s
noncomputable def gD(ts:List w8)(L:List Int)(R:List DD):DD×Int×Bool:=R.foldl (zH ts L) (⟨0,0,0,0,0⟩,0,false)
theorem Az(ts:List w8)(L:List Int)(R:List DD)(d:DD):gD ts L (R++[d])=zH ts L (gD ts L R) d:=by simp[gD]
def OJ(s:DD×Int×Bool):Int×Int×Int×Int×Int×Int×Bool:=(s.1.from_,s.1.to_,s.1.level,s.1.rule,s.1.lex,s.2.1,s.2.2)
theorem Me{g:x5}{ts:List w8}{f:w9}(h:Evt (fun n=>I4 n g ts) (fun r=>r=f))(hz:f.code=0→f=⟨0,0⟩∧qO g∧Passed g ts)(ds:List w7):
 Evt (fun n=>aO n g ts ds) (fun r=>(f.code≠0∧r=(⟨0,0,0,0,0⟩,false,f))∨(f.code=0∧300<ds.length∧r=(⟨0,0,0,0,0⟩,false,⟨2, -3⟩))∨(f.code=0∧ds.length≤300∧∃R,Divide ts R∧r=((gD ts (X6 ts ds) R).1,(gD ts (X6 ts ds) R).2.2,⟨0,0⟩))):=by
 unfold aO
 refine Evt.bind (BR h (fun e=>(hz e).1) ds) fun v hv=>?_
 rcases hv with⟨h1,rfl⟩|⟨h1,h2,rfl⟩|⟨h1,h2,rfl⟩
 ·exact Evt.cond (fun _=>Evt.pure (.inl ⟨h1,rfl⟩)) (fun e=>absurd (bx e) h1)
 ·exact Evt.cond (fun _=>Evt.pure (.inr (.inl ⟨h1,h2,rfl⟩))) (fun e=>by cases e)
 ·refine Evt.cond (fun e=>by cases e) (fun _=>?_)
  obtain⟨_,hg,hp⟩:=hz h1
  have hn:=hp.1
  refine Evt.bind (vP hp) fun v hv=>?_
  subst hv
  refine Evt.bind (Gm hp (by omega)) fun L hL=>?_
  have hLm:∀x∈L,0≤x∧x<(ts.length:Int):=fun x hx=>by rw[hL]at hx;have:=kR.1 hx;exact⟨this.1,this.2.1⟩
  have hLl:L.length≤200:=by rw[hL];have:=nY ts ds;omega
  rw[←hL]
  refine Evt.bind (Dn hg hp) fun R hR=>?_
  refine Evt.B5 (Evt.range (body:=fun n=>P8 n L (Z2 ts) R) (fun k s=>s=OJ (gD ts L (R.take k))) (fun _=>False) (fun _=>False) rfl (fun k s hk hs=>?_)) (fun s hs=>?_) (fun _ h=>h.elim)
  ·subst hs
   show Evt (fun n=>P8 n L (Z2 ts) R k _) _
   unfold P8
   refine Evt.B5 (BW hp L hLm hLl R k) (fun t ht=>?_) (fun _ h=>h.elim)
   have ht:t=zf ts L (Am.get R k):=ht
   have hle:=Fe ts L (Am.get R k)
   rw[←ht]at hle
   have hw:max t (wr .i64 ((L.length:Int)-t))=worst ts L (Am.get R k):=by rw[H9 (by omega) (by omega),ht];rfl
   unfold dy
   rw[hw]
   have hn2:gD ts L (R.take (k+1))=zH ts L (gD ts L (R.take k)) (Am.get R k):=by rw[Z1 hk,Az]
   refine Evt.cond (fun e=>Evt.pure ?_) (fun e=>Evt.pure ?_)
   ·show _=OJ (gD ts L (R.take (k+1)))
    rw[hn2]
    unfold zH
    have e:(bif decide (worst ts L (Am.get R k)<L.length)then(bif !(gD ts L (R.take k)).2.2 then true else decide (worst ts L (Am.get R k)<(gD ts L (R.take k)).2.1))else false)=true:=e
    rw[e];rfl
   ·show _=OJ (gD ts L (R.take (k+1)))
    rw[hn2]
    unfold zH
    have e:(bif decide (worst ts L (Am.get R k)<L.length)then(bif !(gD ts L (R.take k)).2.2 then true else decide (worst ts L (Am.get R k)<(gD ts L (R.take k)).2.1))else false)=false:=e
    rw[e];rfl
  ·have hs:s=_:=hs.elim id False.elim
   subst hs
   rw[List.take_length]
   unfold dz
   exact Evt.pure (.inr (.inr ⟨h1,h2,R,hR,rfl⟩))
theorem Ho(ts:List w8)(L:List Int)(R:List DD)(d:DD):qD ts L (R++[d])=qD ts L R++(if L=[]then []else piece ts L d):=by
 unfold qD
 split
 ·simp
 ·exact Dr ts L R d
abbrev Wi:=Int×Int×Int×Int×Int×List w7×Int×Bool×Int
def Hq(s:DD×Int×Bool)(l:List w7)(i:Int):Wi:=(s.1.from_,s.1.to_,s.1.level,s.1.rule,s.1.lex,l,s.2.1,s.2.2,i)
theorem Wj{a b:w7}:(!(decide (a.what.from_=b.what.from_)&&(decide (a.what.to_=b.what.to_)&&(decide (a.what.level=b.what.level)&&(decide (a.what.rule=b.what.rule)&&(decide (a.what.lex=b.what.lex)&&(decide (a.yes=b.yes))))))))=true→a≠b:=by
 intro h e;subst e;simp at h
theorem Hr{g:x5}{ts:List w8}(hp:Passed g ts)(L:List Int)(hL:∀x∈L,0≤x∧x<(ts.length:Int))(hl:L.length≤200)(R:List DD)(hR:R.length≤40000):
 Evt (fun n=>P4 (ρ:=Bool) (D3 n R ts L) n (0,0,0,0,0,[],0,false,0)) (ExP (fun t=>t=((gD ts L R).1.from_,(gD ts L R).1.to_,(gD ts L R).1.level,(gD ts L R).1.rule,(gD ts L R).1.lex,qD ts L R,(gD ts L R).2.2)) (fun _=>False)):=by
 refine Evt.loop (body:=fun n=>D3 n R ts L) (fun s=>((R.length:Int)-s.2.2.2.2.2.2.2.2).toNat) (fun s=>∃k:Nat,k≤R.length∧s=Hq (gD ts L (R.take k)) (qD ts L (R.take k)) (k:Int)) _ _ ⟨0,by omega,by simp[Hq,gD,qD]⟩ (fun s hs=>?_)
 obtain⟨k,hk,rfl⟩:=hs
 obtain⟨s,hs⟩:∃s,s=gD ts L (R.take k):=⟨_,rfl⟩
 obtain⟨I,hI⟩:∃I,I=qD ts L (R.take k):=⟨_,rfl⟩
 have hIl:I.length≤40000:=by rw[hI];have:=yV ts L (R.take k);rw[List.length_take]at this;omega
 rw[←hs, ←hI]
 show Evt (fun n=>D3 n R ts L (Hq s I (k:Int))) _
 unfold D3
 unfold Hq
 dsimp only
 refine Evt.cond (fun e=>?_) (fun e=>Evt.pure ?_)
 ·replace e:=bx e
  have hk2:k<R.length:=by omega
  have DC:((R.length:Int)-((k:Int)+1)).toNat<((R.length:Int)-(k:Int)).toNat:=by omega
  rw[Int.toNat_natCast]
  refine Evt.chk (by omega) (Evt.bind (Kk hp L hL hl (Am.get R k)) fun t ht=>?_)
  obtain⟨c1,c2,c3,c4⟩:=Fg ts (Am.get R k) L
  rw[←ht]at c1 c2 c3 c4
  have hw:worst ts L (Am.get R k)=max t ((L.length:Int)-t):=by rw[ht];rfl
  have hs2:gD ts L (R.take (k+1))=zH ts L s (Am.get R k):=by rw[Z1 hk2,Az, ←hs]
  have hI2:qD ts L (R.take (k+1))=I++(if L=[]then []else piece ts L (Am.get R k)):=by rw[Z1 hk2,Ho, ←hI]
  have hk1:wr .i64 ((k:Int)+1)=((k+1:Nat):Int):=by rw[H9 (by omega) (by omega)];omega
  by_cases ce:t=0∨t=L.length
  ·have hns:zH ts L s (Am.get R k)=s:=by
    unfold zH
    rw[hw,decide_eq_false (by omega)];rfl
   have hb:(bif decide (t=0)then true else decide (t=(L.length:Int)))=true:=by
    rcases ce with c|c
    ·rw[decide_eq_true c];rfl
    ·by_cases c0:t=0
     ·rw[decide_eq_true c0];rfl
     ·rw[decide_eq_false c0,decide_eq_true c];rfl
   have hj4:∀J,D4 t L (s.1.from_,s.1.to_,s.1.level,s.1.rule,s.1.lex,I,s.2.1,s.2.2,(k:Int)) R J=some (.nxt (Hq s J ((k+1:Nat):Int))):=fun J=>by
    unfold D4
    rw[hb,cond_true,hk1];rfl
   rw[hb]
   by_cases cL:L=[]
   ·have h0:decide ((0:Int)<(L.length:Int))=false:=by rw[cL];rfl
    rw[h0]
    refine Evt.cond (fun e=>by cases e) (fun _=>?_)
    rw[hj4]
    refine Evt.pure ⟨⟨k+1,by omega,?_⟩,DC⟩
    rw[hs2,hns,hI2,if_pos cL,List.append_nil];rfl
   ·have hLp:0<L.length:=List.length_pos_iff.2 cL
    rw[decide_eq_true (by omega:(0:Int)<(L.length:Int))]
    refine Evt.cond (fun _=>Evt.eE (Evt.chk (by rw[List.length_append,List.length_singleton,bO];omega) ?_)) (fun e=>by cases e)
    rw[hj4]
    refine Evt.pure ⟨⟨k+1,by omega,?_⟩,DC⟩
    rw[hs2,hns,hI2,if_neg cL]
    have hpc:piece ts L (Am.get R k)=[⟨Am.get R k,decide (0<t)⟩]:=by
     unfold piece
     by_cases c0:t=0
     ·rw[if_pos (c3.1 c0),decide_eq_false (by omega)]
     ·have c5:t=L.length:=by rcases ce with c|c;exact absurd c c0;exact c
      rw[if_neg fun c=>c0 (c3.2 c),if_pos (c4.1 c5),decide_eq_true (by omega)]
    rw[hpc];rfl
  ·have n0:¬t=0:=fun c=>ce (.inl c)
   have n1:¬t=L.length:=fun c=>ce (.inr c)
   have hb:(bif decide (t=0)then true else decide (t=(L.length:Int)))=false:=by
    rw[decide_eq_false n0,decide_eq_false n1];rfl
   have hpc:(if L=[]then []else piece ts L (Am.get R k))=[]:=by
    unfold piece
    split
    ·rfl
    ·rw[if_neg fun c=>n0 (c3.2 c),if_neg fun c=>n1 (c4.2 c)]
   have hI3:qD ts L (R.take (k+1))=I:=by rw[hI2,hpc,List.append_nil]
   have hj5:∀m,m=worst ts L (Am.get R k)→E1 (s.1.from_,s.1.to_,s.1.level,s.1.rule,s.1.lex,I,s.2.1,s.2.2,(k:Int)) R I m=some (.nxt (Hq (zH ts L s (Am.get R k)) I ((k+1:Nat):Int))):=fun m hm=>by
    unfold E1
    dsimp only
    rw[hk1,Int.toNat_natCast,hm]
    unfold zH
    rw[decide_eq_true (by rw[hw];omega:worst ts L (Am.get R k)<(L.length:Int)),cond_true]
    cases hc:(bif !s.2.2 then true else decide (worst ts L (Am.get R k)<s.2.1))<;>rfl
   rw[hb]
   refine Evt.cond (fun e=>by cases hd:decide ((0:Int)<(L.length:Int))<;>rw[hd]at e<;>cases e) (fun _=>?_)
   unfold D4
   rw[hb,cond_false,H9 (by omega) (by omega)]
   by_cases c5:t<(L.length:Int)-t
   ·rw[decide_eq_true c5,cond_true,hj5 _ (by rw[hw];omega)]
    exact Evt.pure ⟨⟨k+1,by omega,by rw[hs2,hI3];rfl⟩,DC⟩
   ·rw[decide_eq_false c5,cond_false,hj5 _ (by rw[hw];omega)]
    exact Evt.pure ⟨⟨k+1,by omega,by rw[hs2,hI3];rfl⟩,DC⟩
 ·replace e:=bx e
  obtain rfl:k=R.length:=by omega
  rw[List.take_length]at hs hI
  show _=_
  rw[hs,hI]
theorem zw{g:x5}(hB:zG g){ts:List w8}{ds:List w7}:Evt (fun n=>I5 n g ts ds) (fun b=>b=true):=by
 obtain⟨f,h1,h2,hz⟩:=pV hB ts
 unfold I5
 refine Evt.bind gK fun v1 e1=>?_
 subst e1
 refine Evt.cond (fun e=>by cases e) (fun _=>Evt.bind (Ay h1 hz ds) fun v2 hv=>Evt.bind (Me h1 hz ds) fun v3 hv3=>Evt.bind h2 fun v4 e4=>?_)
 subst e4
 rcases hv with⟨c1,rfl⟩|⟨c1,c2,rfl⟩|⟨c1,c2,R,hR,rfl⟩
 ·have e3:v3=(⟨0,0,0,0,0⟩,false,v4):=by rcases hv3 with⟨_,c⟩|⟨c,_⟩|⟨c,_⟩<;>first|exact c|exact absurd c c1
  subst e3
  rw[decide_eq_false c1,cond_false]
  refine Evt.cond (fun e=>by cases e) (fun _=>?_)
  unfold D5
  exact Evt.cond (fun _=>Evt.pure (by simp)) (fun e=>absurd (bx e) c1)
 ·have e3:v3=(⟨0,0,0,0,0⟩,false,⟨2, -3⟩):=by rcases hv3 with⟨c,_⟩|⟨_,_,c⟩|⟨_,c,_⟩<;>first|exact c|exact absurd c1 c|omega
  subst e3
  rw[decide_eq_true c1,cond_true,decide_eq_true (by omega:(300:Int)<(ds.length:Int))]
  refine Evt.cond (fun _=>?_) (fun e=>by cases e)
  unfold D5
  exact Evt.cond (fun _=>Evt.pure rfl) (fun e=>by cases e)
 ·obtain⟨hf,hg,hp⟩:=hz c1
  have hn:=hp.1
  have hRl:=hR.len hp
  obtain⟨q,hq,e3⟩:∃q,Divide ts q∧v3=((gD ts (X6 ts ds) q).1,(gD ts (X6 ts ds) q).2.2,⟨0,0⟩):=by rcases hv3 with⟨c,_⟩|⟨_,c,_⟩|⟨_,_,c⟩<;>first|exact c|exact absurd c1 c|omega
  have eq:=hR.uniq hq
  subst eq e3
  rw[decide_eq_true c1,cond_true,decide_eq_false (by omega:¬(300:Int)<(ds.length:Int))]
  refine Evt.cond (fun e=>by cases e) (fun _=>?_)
  unfold D5
  refine Evt.cond (fun e=>absurd c1 (bx e)) (fun _=>Evt.bind (qC hp) fun S hS=>?_)
  have eS:=hR.uniq hS.1
  subst eS
  refine Evt.bind (JL hp (by omega)) fun L hL=>?_
  have hL:L=X6 ts ds:=hL
  subst hL
  have hil:=yV ts (X6 ts ds) R
  refine Evt.B5 (Hr hp (X6 ts ds) (fun x hx=>by have:=kR.1 hx;exact⟨this.1,this.2.1⟩) (by have:=nY ts ds;omega) R hRl) (fun t ht=>?_) (fun _ h=>h.elim)
  have ht:t=_:=ht
  subst ht
  obtain⟨I,hI⟩:∃I,I=qD ts (X6 ts ds) R:=⟨_,rfl⟩
  rw[←hI]at hil⊢
  unfold G6
  dsimp only
  refine Evt.cond (fun e=>?_) (fun _=>?_)
  ·simp at e
  ·refine Evt.B5 (Evt.loop (body:=fun _=>E3 (I,⟨0,0⟩) ((gD ts (X6 ts ds) R).1.from_,(gD ts (X6 ts ds) R).1.to_,(gD ts (X6 ts ds) R).1.level,(gD ts (X6 ts ds) R).1.rule,(gD ts (X6 ts ds) R).1.lex,I,(gD ts (X6 ts ds) R).2.2)) (fun s=>((I.length:Int)-s).toNat) (fun s=>∃k:Nat,s=(k:Int)∧k≤I.length) (fun _=>True) (fun _=>False) ⟨0,rfl,by omega⟩ (fun s hs=>?_)) (fun t _=>Evt.pure rfl) (fun _ h=>h.elim)
   obtain⟨k,rfl,hk⟩:=hs
   show Evt (fun _=>E3 (I,⟨0,0⟩) ((gD ts (X6 ts ds) R).1.from_,(gD ts (X6 ts ds) R).1.to_,(gD ts (X6 ts ds) R).1.level,(gD ts (X6 ts ds) R).1.rule,(gD ts (X6 ts ds) R).1.lex,I,(gD ts (X6 ts ds) R).2.2) (k:Int)) _
   unfold E3
   dsimp only
   refine Evt.cond (fun e=>?_) (fun e=>Evt.pure trivial)
   replace e:=bx e
   refine Evt.chk (by omega) (Evt.chk (by omega) (Evt.cond (fun e2=>absurd rfl (Wj e2)) (fun e2=>Evt.pure ⟨⟨k+1,?_,by omega⟩,?_⟩)))
   ·show wr .i64 ((k:Int)+1)=_
    rw[H9 (by omega) (by omega)];rfl
   ·show((I.length:Int)-wr .i64 ((k:Int)+1)).toNat<((I.length:Int)-(k:Int)).toNat
    rw[H9 (by omega) (by omega)];omega
end Go.Proofs.YtfogbhjeihkliaaGreatDoor
