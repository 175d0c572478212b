import Derived.Test.YtahjhbkhcaphgaaGreatDoorFTLaw3
set_option linter.unusedVariables false
set_option linter.unusedSimpArgs false
namespace Go.Proofs.YtahjhbkhcaphgaaGreatDoor
open Go Go.Am
theorem lf{T:Bs}{p q k kk:Nat}{e a b x y:Int}(f:u6)(h1:p≤q)(h2:q≤T.length)(h3:kk≤201)(ha:a≠0):
 FmR T p e k (f,(q:Int),(if x=0 then(a,b)else(x,y)).1,(if x=0 then(a,b)else(x,y)).2,(kk:Int)):=by
 refine⟨q,kk,rfl,h1,h2,rfl,h3,fun h=>?_⟩
 simp only at h
 split at h
 ·exact absurd h ha
 ·exact absurd h (by assumption)
theorem qu:(assoc ([97,108,108]:Bs) (y6 [115,111,109,101] (9:Int) (y6 [97,108,108] 8 []))).getD default=8:=by decide
theorem oR:(assoc ([115,111,109,101]:Bs) (y6 [115,111,109,101] (9:Int) (y6 [97,108,108] 8 []))).getD default=9:=by decide
theorem tI{T:Bs}(hT:T.length≤4000){self:Nat→Int→Bs→Int→Int→Int→Int→Option (u6×Int×Int×Int×Int)}{d p k q:Nat}(hd:d≤1000)(e i:Int)(hk0:k≤199)(v7:Bs×Int×Int×Int)(j:Bool)
 (ha:v7.2.1=(q:Int)) (hpq:p≤q) (hq:q≤T.length) (hv:v7.2.2.1=0→e=0∧v7.1=seg T p q) (hj:j=true→v7.1=[97,108,108]∨v7.1=[115,111,109,101])
 (ih:∀(p:Nat) (e i:Int) (k:Nat),p≤T.length→k≤201→(e=0→k≤200)→Evt (fun n=>self n ((d+1:Nat):Int) T (p:Int) e i (k:Int)) (FmR T p e k)):
 Evt (fun n=>E9 (self n) n T v7 (k:Int) (d:Int) j) (FmR T p e k):=by
 unfold E9
 rw[show wr .i64 ((k:Int)+1)=((k+1:Nat):Int)from kg 1 (by omega),show wr .i64 ((d:Int)+1)=((d+1:Nat):Int)from kg 1 (by omega),ha]
 refine Evt.cond (fun h=>?_) (fun h=>?_)
 ·obtain⟨r10,Ng,q1,a1,a2,a3,a4,_⟩:=dU hT hq 32 v7.2.2.1 v7.2.2.2 ((k+1:Nat):Int)
  rw[Ng]
  refine Evt.bind (P:=fun v=>v=r10) (Evt.pure rfl) fun v10 hv=>?_
  subst hv
  refine Evt.aB (Evt.aB ?_)
  rw[a1]
  refine Evt.bind (ld hT a3 _ _ _) fun v16 ⟨q2,b1,b2,b3,b4⟩=>?_
  rw[b1]
  obtain⟨r17,Nh,q3,c1,c2,c3,c4,_⟩:=dU hT b3 32 v16.2.2.1 v16.2.2.2 ((k+1:Nat):Int)
  rw[Nh]
  refine Evt.bind (P:=fun v=>v=r17) (Evt.pure rfl) fun v17 hv=>?_
  subst hv
  rw[c1]
  refine Evt.bind (ih q3 v17.2.2.1 v17.2.2.2 (k+1) c3 (by omega) (fun _=>by omega)) fun v18 ⟨q4,k1,d1,d2,d3,d4,d5,d6⟩=>Evt.pure ?_
  refine⟨q4,k1,d1,by omega,d3,d4,d5,fun h0=>?_⟩
  obtain⟨g1,g2,g3⟩:=d6 h0
  obtain⟨g4,rfl,g5,g6,_⟩:=c4 g1
  obtain⟨g7,g8,g9,_⟩:=b4 g4
  obtain⟨g10,rfl,g11,g12,_⟩:=a4 g7
  obtain⟨g13,g14⟩:=hv g10
  refine⟨g13,g2,?_⟩
  have e1:seg T q (q+1)=[32]:=Y8 g11 32 g12
  have e2:seg T q2 (q2+1)=[32]:=Y8 g5 32 g6
  have e3:seg T p q4=v7.1++[32]++v16.1++[32]++seg T (q2+1) q4:=by
   have h:seg T p q++seg T q (q+1)++seg T (q+1) q2++seg T q2 (q2+1)++seg T (q2+1) q4=seg T p q4:=by
    rw[T8 T hpq (by omega),T8 T (by omega) (by omega),T8 T (by omega) (by omega),T8 T (by omega) (by omega)]
   rw[←h,e1,e2, ←g14, ←g9]
  rw[e3]
  rcases hj h with hh|hh
  ·rw[hh,qu]
   exact(IG g3).trans (by simp)
  ·rw[hh,oR]
   exact(II g3).trans (by simp)
 ·rw[eP]
  exact Evt.pure (lf _ hpq hq (by omega) (by decide))
theorem CZ{T:Bs}(hT:T.length≤4000):∀(m d:Nat),41≤d+m→d≤41→∀(p:Nat) (e i:Int) (k:Nat),p≤T.length→k≤201→(e=0→k≤200)→
 Evt (fun n=>y9 n (d:Int) T (p:Int) e i (k:Int)) (FmR T p e k):=by
 intro m
 induction m with
 |zero=>
  intro d hd hd2 p e i k hp hk hk0
  refine Evt.succ ?_
  simp only[y9]
  refine Evt.cond (fun h=>Evt.pure ⟨p,k,rfl,Nat.le_refl _,hp,rfl,hk,fun h0=>absurd h0 (by simpa using h)⟩) (fun h=>?_)
  replace h:=bx h
  subst h
  rw[T9]
  refine Evt.bind (P:=fun v=>v=pk T p) (Evt.pure rfl) fun v1 hv=>?_
  rw[eP]
  refine Evt.cond (fun h=>Evt.pure (lf _ (Nat.le_refl _) hp hk (by decide))) (fun h=>?_)
  rw[show wr .i64 ((k:Int)+1)=((k+1:Nat):Int)from kg 1 (by omega)]
  refine Evt.cond (fun h=>?_) (fun h=>by replace h:=bx h;omega)
  rw[eP]
  exact Evt.pure (lf _ (Nat.le_refl _) hp (by have:=hk0 rfl;omega) (by decide))
 |succ m ihm=>
  intro d hd hd2 p e i k hp hk hk0
  refine Evt.succ ?_
  simp only[y9]
  refine Evt.cond (fun h=>Evt.pure ⟨p,k,rfl,Nat.le_refl _,hp,rfl,hk,fun h0=>absurd h0 (by simpa using h)⟩) (fun h=>?_)
  replace h:=bx h
  subst h
  rw[T9]
  refine Evt.bind (P:=fun v=>v=pk T p) (Evt.pure rfl) fun v1 hv=>?_
  subst hv
  rw[eP]
  refine Evt.cond (fun h=>Evt.pure (lf _ (Nat.le_refl _) hp hk (by decide))) (fun hc=>?_)
  rw[show wr .i64 ((k:Int)+1)=((k+1:Nat):Int)from kg 1 (by omega)]
  have hk2:=hk0 rfl
  refine Evt.cond (fun h=>?_) (fun h=>?_)
  ·rw[eP]
   exact Evt.pure (lf _ (Nat.le_refl _) hp (by omega) (by decide))
  replace h:=bx h
  have ih:∀(p:Nat) (e i:Int) (k:Nat),p≤T.length→k≤201→(e=0→k≤200)→Evt (fun n=>y9 n ((d+1:Nat):Int) T (p:Int) e i (k:Int)) (FmR T p e k):=fun p e i k a b c=>ihm (d+1) (by omega) (by omega) p e i k a b c
  have wd:wr .i64 ((d:Int)+1)=((d+1:Nat):Int):=kg 1 (by omega)
  have wp:wr .i64 ((p:Int)+1)=((p+1:Nat):Int):=kg 1 (by omega)
  refine Evt.cond (fun h45=>?_) (fun h45=>?_)
  ·replace h45:=bx h45
   obtain⟨g1,g2⟩:=tH h45 (by decide)
   rw[wd,wp]
   refine Evt.bind (ih (p+1) 0 i (k+1) (by omega) (by omega) (fun _=>by omega)) fun v4 ⟨q,k1,a1,a2,a3,a4,a5,a6⟩=>Evt.pure ⟨q,k1,a1,by omega,a3,a4,a5,fun h0=>?_⟩
   obtain⟨_,b2,b3⟩:=a6 h0
   refine⟨rfl,b2,(IE b3).trans ?_⟩
   rw[←T8 T (show p≤p+1 by omega) a2,Y8 g1 45 g2]
  refine Evt.cond (fun h40=>?_) (fun h40=>?_)
  ·replace h40:=bx h40
   obtain⟨g1,g2⟩:=tH h40 (by decide)
   refine Evt.bind (P:=FmR T p 0 (k+1)) (CY (self:=y9) hT (by omega) (by omega) 0 i (by omega) (fun _=>by omega) g2 ih) fun v6 ⟨q,k1,a1,a2,a3,a4,a5,a6⟩=>Evt.pure ⟨q,k1,a1,a2,a3,a4,a5,a6⟩
  refine Evt.bind (ld hT hp 0 i _) fun v7 ⟨q,a1,a2,a3,a4⟩=>?_
  rw[a1]
  simp only[T9]
  refine Evt.bind (P:=fun v=>v=pk T q) (Evt.pure rfl) fun v8 hv=>?_
  subst hv
  refine Evt.cond (fun h8=>?_) (fun h8=>?_)
  ·replace h8:=bx h8
   obtain⟨g1,g2⟩:=tH h8 (by decide)
   rw[show wr .i64 ((q:Int)+1)=((q+1:Nat):Int)from kg 1 (by omega)]
   refine Evt.bind (AU hT (show q+1≤T.length by omega) _ _ _) fun v9 ⟨q2,b1,b2,b3,b4⟩=>Evt.pure ⟨q2,k+1,b1,by omega,b3,rfl,by omega,fun h0=>?_⟩
   obtain⟨c1,c2⟩:=b4 h0
   obtain⟨_,c3,c4,_⟩:=a4 c1
   refine⟨rfl,by omega,(IB _ _).trans (congrArg some ?_)⟩
   have e1:seg T q (q+1)=[40]:=Y8 g1 40 g2
   rw[List.append_assoc, ←c2, ←e1,c4,T8 T (by omega) (by omega),T8 T (by omega) (by omega)]
  refine Evt.cond (fun ht=>?_) (fun ht=>?_)
  ·replace ht:=bx ht
   refine Evt.pure ⟨q,k+1,rfl,a2,a3,rfl,by omega,fun h0=>⟨rfl,by omega,?_⟩⟩
   obtain⟨_,c3,c4,_⟩:=a4 h0
   refine Iz.trans ?_
   rw[←c4,ht]
  have hv7:v7.2.2.1=0→(0:Int)=0∧v7.1=seg T p q:=fun h=>⟨rfl,(a4 h).2.2.1⟩
  refine Evt.cond (fun ha=>?_) (fun ha=>?_)
  ·exact tI (self:=y9) hT (by omega) 0 i (by omega) v7 _ a1 a2 a3 hv7 (fun h=>.inl (by simpa using h)) ih
  ·exact tI (self:=y9) hT (by omega) 0 i (by omega) v7 _ a1 a2 a3 hv7 (fun h=>.inr (by simpa using h)) ih
theorem AV(T:Bs):Evt (fun n=>U7 n T) (fun r=>(r.2.code=0→T.length≤4000∧L8 r.1=some T)∧(r.2.code≠0→r.1= .mk 0 [] [] [])):=by
 unfold U7
 refine Evt.cond (fun h=>Evt.pure ⟨fun h=>by simp at h,fun _=>rfl⟩) (fun h=>?_)
 replace h:=bx h
 have hT:T.length≤4000:=by omega
 refine Evt.bind (CZ hT 40 1 (by omega) (by omega) 0 0 0 0 (Nat.zero_le _) (by omega) (fun _=>by omega)) fun v1 ⟨q,k,a1,a2,a3,a4,a5,a6⟩=>?_
 refine Evt.cond (fun h1=>?_) (fun h1=>?_)
 ·replace h1:=bx h1
  rw[eP]
  refine Evt.bind (P:=fun v=>v=(if v1.2.2.1=0 then((11:Int),v1.2.1)else(v1.2.2.1,v1.2.2.2.1))) (Evt.pure rfl) fun v2 hv=>?_
  rw[if_pos h1.1]at hv
  subst hv
  unfold S9
  exact Evt.cond (fun _=>Evt.pure ⟨fun h=>by simp at h,fun _=>rfl⟩) (fun h=>by simp at h)
 ·unfold S9
  refine Evt.cond (fun h2=>Evt.pure ⟨fun h=>absurd h (by simpa using h2),fun _=>rfl⟩) (fun h2=>Evt.pure ⟨fun _=>⟨hT,?_⟩,fun h=>absurd rfl h⟩)
  replace h2:=bx h2
  obtain⟨_,_,b3⟩:=a6 h2
  have hq:q=T.length:=by
   replace h1:=bx h1
   have:=h1 h2
   omega
  rw[b3,hq]
  unfold seg
  simp
theorem iB{T l:Bs}{p:Nat}{c:UInt8}(h:T.drop p=c::l):p<T.length∧B3 T (p:Int)=(c.toNat:Int)∧T.drop (p+1)=l∧pk T p=(c.toNat:Int):=by
 have h1:p<T.length:=by
  rcases Nat.lt_or_ge p T.length with hh|hh
  ·exact hh
  ·rw[List.drop_eq_nil_of_le hh]at h;cases h
 have h2:=List.drop_eq_getElem_cons h1
 rw[h]at h2
 obtain⟨e1,e2⟩:=List.cons.inj h2
 have h3:B3 T (p:Int)=(c.toNat:Int):=by
  unfold B3
  rw[Int.toNat_natCast,List.getD_eq_getElem?_getD,List.getElem?_eq_getElem h1,e1]
  rfl
 exact⟨h1,h3,e2.symm,by unfold pk;rw[if_pos h1,h3]⟩
theorem eR{T a b:Bs}{p:Nat}(h:T.drop p=a++b)(hp:p≤T.length):T.drop (p+a.length)=b∧p+a.length≤T.length:=by
 have h1:T.drop (p+a.length)=b:=by rw[←List.drop_drop,h];simp
 have h2:=congrArg List.length h
 rw[List.length_drop,List.length_append]at h2
 exact⟨h1,by omega⟩
theorem iX{T l:Bs}(hT:T.length≤4000){p:Nat}{c:UInt8}(h:T.drop p=c::l)(i k:Int):y8 (c.toNat:Int) T (p:Int) 0 i k=some (true,((p+1:Nat):Int),0,i):=by
 obtain⟨h1,h2,_⟩:=iB h
 obtain⟨r,hr,_,_,_,_,_,h3⟩:=dU hT (Nat.le_of_lt h1) (c.toNat:Int) 0 i k
 rw[hr,h3 rfl h1 h2]
def Stp(r:Bs):Prop:=∀c l,r=c::l→¬OkC (c.toNat:Int)
theorem Fm:Stp []:=fun _ _ h=>by cases h
theorem AW{c:UInt8}{l:Bs}(h:¬OkC (c.toNat:Int)):Stp (c::l):=fun c' l' e=>by
 obtain⟨rfl,_⟩:=List.cons.inj e
 exact h
theorem Fo{T a b:Bs}{p:Nat}(h:T.drop p=a++b):seg T p (p+a.length)=a:=by
 unfold seg
 rw[h,show p+a.length-p=a.length by omega]
 simp
theorem bV{T nm rest:Bs}(hT:T.length≤4000){p:Nat}(hp:p≤T.length)(h:T.drop p=nm++rest)(hn:A8 nm)(hs:Stp rest)(i k:Int):
 Evt (fun n=>C1 n T (p:Int) 0 i k) (fun r=>r=(nm,((p+nm.length:Nat):Int),0,i)):=by
 have hsg:=Fo h
 obtain⟨h1,h2⟩:=eR h hp
 have hn1:=hn.1
 have hn2:=hn.2.1
 refine(AO hT hp i k).mono fun r ⟨q,a1,a2,a3,a4,a5,a6,a7,a8⟩=>?_
 have hq:q=p+nm.length:=by
  rcases Nat.lt_trichotomy q (p+nm.length)with hh|hh|hh
  ·refine absurd ⟨by omega,by omega,?_⟩ a8
   exact A8.pre (r:=p+nm.length) (by rw[hsg];exact hn) (by omega) (by omega) h2
  ·exact hh
  ·exfalso
   obtain⟨b1,_⟩:=a6 (by omega)
   rw[a4]at b1
   have b2:=b1.2.2.2 nm.length (by rw[oP a2];omega)
   rw[AL (by omega)]at b2
   cases hr:rest with
   |nil=>
    rw[hr]at h1
    have:=congrArg List.length h1
    simp at this
    omega
   |cons c l=>
    rw[hr]at h1
    rw[(iB h1).2.1]at b2
    exact hs c l hr b2
 subst hq
 obtain⟨b1,b2⟩:=a6 (by omega)
 obtain⟨r1,r2,r3⟩:=r
 simp only at a4 a5 b2
 rw[a4,a5,b2,hsg]
theorem lU{nm:Bs}(h:A8 nm):∃c l,nm=c::l∧97≤c.toNat∧c.toNat≤122:=by
 obtain⟨h1,_,h3,_⟩:=h
 cases nm with
 |nil=>simp at h1
 |cons c l=>
  refine⟨c,l,rfl,?_⟩
  unfold B3 at h3
  simp at h3
  omega
theorem AX{T rest:Bs}{ws:List Bs}(hT:T.length≤4000){p:Nat}(hp:p≤T.length)(h:T.drop p=Lib.join ws [44]++41::rest)(hl:ws.length≤3)(hn:∀x∈ws,A8 x)(i k:Int):
 Evt (fun n=>K2 n T (p:Int) 0 i k) (fun r=>r=(ws,((p+(Lib.join ws [44]).length+1:Nat):Int),0,i)):=by
 unfold K2
 rw[T9]
 refine Evt.bind (P:=fun v=>v=pk T p) (Evt.pure rfl) fun v hv=>?_
 subst hv
 cases hws:ws with
 |nil=>
  subst hws
  have h':T.drop p=41::rest:=h
  refine Evt.cond (fun _=>Evt.pure ?_) (fun e=>?_)
  ·rw[show wr .i64 ((p:Int)+1)=((p+1:Nat):Int)from kg 1 (by have:=(iB h').1;omega)]
   rfl
  ·rw[(iB h').2.2.2]at e
   simp at e
 |cons w tl=>
  rw[←hws]
  obtain⟨c,l,hc,c1,c2⟩:=lU (hn w (by rw[hws];simp))
  have hjw:Lib.join ws [44]=w++Lib.joinTail [44] tl:=by rw[hws,Lib.join_cons]
  have hd:T.drop p=c::(l++Lib.joinTail [44] tl++41::rest):=by rw[h,hjw,hc];simp
  refine Evt.cond (fun e=>?_) (fun _=>?_)
  ·rw[(iB hd).2.2.2]at e
   replace e:=bx e
   omega
  refine Evt.B2 (Evt.loop (fun s=>3-s.2.2.2.length) (fun s=>∃q j:Nat,s=((q:Int),0,i,ws.take j)∧j<ws.length∧q≤T.length∧T.drop q=Lib.join (ws.drop j) [44]++41::rest∧q+(Lib.join (ws.drop j) [44]).length=p+(Lib.join ws [44]).length)
   (fun s=>s=(((p+(Lib.join ws [44]).length+1:Nat):Int),0,i,ws)) (fun _=>False) ⟨p,0,by simp,by rw[hws];simp,hp,by simpa using h,by simp⟩ (fun s hs=>?_)) (fun t ht=>?_) (fun r hr=>hr.elim)
  ·obtain⟨q,j,rfl,hj,hq,hdr,hlen⟩:=hs
   unfold N8
   refine Evt.cond (fun _=>?_) (fun e=>by simp at e)
   have KX:ws.drop j=ws[j]::ws.drop (j+1):=List.drop_eq_getElem_cons hj
   have hnm:=hn ws[j] (List.getElem_mem hj)
   have htk:ws.take j++[ws[j]]=ws.take (j+1):=(List.take_succ_eq_append_getElem hj).symm
   rw[KX,Lib.join_cons]at hdr hlen
   rw[List.append_assoc]at hdr
   rw[List.length_append]at hlen
   by_cases Ni:j+1=ws.length
   ·have htl:ws.drop (j+1)=[]:=List.drop_eq_nil_of_le (by omega)
    rw[htl]at hdr hlen
    have hd2:T.drop q=ws[j]++41::rest:=hdr
    refine Evt.bind (bV hT hq hd2 hnm (AW (by unfold OkC;decide)) i k) fun v11 hv11=>Evt.aB ?_
    subst hv11
    obtain⟨g1,g2⟩:=eR hd2 hq
    simp only[htk]
    have hl2:(ws.take (j+1)).length=j+1:=by rw[List.length_take];omega
    refine Evt.chk (by rw[hl2,eL];omega) ?_
    simp only[T9]
    have htake:=iX hT g1 i k
    refine Evt.bind (P:=fun v=>v=(41:Int)∨v=default) (Evt.gd (fun _=>Evt.pure (.inl (iB g1).2.2.2)) (fun _=>.inr rfl)) fun v hv=>?_
    refine Evt.cond (fun e=>?_) (fun _=>?_)
    ·replace e:=bx e
     rcases hv with rfl|rfl
     ·exact absurd e.2 (by decide)
     ·exact absurd e.2 (by decide)
    ·have IL:y8 41 T ((q+ws[j].length:Nat):Int) 0 i k=some (true,((q+ws[j].length+1:Nat):Int),0,i):=htake
     simp only[IL]
     refine Evt.pure ?_
     have e0:Lib.joinTail [44] ([]:List Bs)=[]:=rfl
     rw[e0]at hlen
     simp only[List.length_nil,Nat.add_zero]at hlen
     show(((q+ws[j].length+1:Nat):Int),(0:Int),i,ws.take (j+1))=_
     rw[hlen,List.take_of_length_le (by omega)]
   ·have IQ:ws.drop (j+1)=ws[j+1]::ws.drop (j+2):=List.drop_eq_getElem_cons (by omega)
    have ejt:Lib.joinTail [44] (ws.drop (j+1))=44::Lib.join (ws.drop (j+1)) [44]:=by
     rw[IQ,Lib.join_cons]
     rfl
    rw[ejt]at hdr hlen
    have hd2:T.drop q=ws[j]++44::(Lib.join (ws.drop (j+1)) [44]++41::rest):=hdr
    refine Evt.bind (bV hT hq hd2 hnm (AW (by unfold OkC;decide)) i k) fun v11 hv11=>Evt.aB ?_
    subst hv11
    obtain⟨g1,g2⟩:=eR hd2 hq
    obtain⟨g3,g4,g5,g6⟩:=iB g1
    simp only[htk]
    have hl2:(ws.take (j+1)).length=j+1:=by rw[List.length_take];omega
    refine Evt.chk (by rw[hl2,eL];omega) ?_
    simp only[T9]
    refine Evt.bind (P:=fun v=>v=(44:Int)) (Evt.gd (fun _=>Evt.pure g6) (fun e=>?_)) fun v hv=>?_
    ·replace e:=bx e
     omega
    subst hv
    refine Evt.cond (fun _=>Evt.pure ?_) (fun e=>?_)
    ·rw[show wr .i64 (((q+ws[j].length:Nat):Int)+1)=((q+ws[j].length+1:Nat):Int)from kg 1 (by omega)]
     refine⟨⟨q+ws[j].length+1,j+1,rfl,by omega,by omega,g5,?_⟩,?_⟩
     ·simp only[List.length_cons]at hlen
      omega
     ·simp only[hl2,List.length_take]
      omega
    ·simp[hl2]at e
     omega
  ·subst ht
   unfold N9
   exact Evt.pure rfl
theorem wA:A8 [116,114,117,101]:=⟨by decide,by decide,by decide,fun k hk=>by
 unfold OkC
 rcases k with _| _| _| _|k
 ·decide
 ·decide
 ·decide
 ·decide
 ·(simp at hk;omega)⟩
theorem AY:A8 [97,108,108]:=⟨by decide,by decide,by decide,fun k hk=>by
 unfold OkC
 rcases k with _| _| _|k
 ·decide
 ·decide
 ·decide
 ·(simp at hk;omega)⟩
theorem wB:A8 [115,111,109,101]:=⟨by decide,by decide,by decide,fun k hk=>by
 unfold OkC
 rcases k with _| _| _| _|k
 ·decide
 ·decide
 ·decide
 ·decide
 ·(simp at hk;omega)⟩
theorem xL(l:Bs):Stp (32::l):=AW (by unfold OkC;decide)
theorem IU(l:Bs):Stp (40::l):=AW (by unfold OkC;decide)
theorem IV(l:Bs):Stp (41::l):=AW (by unfold OkC;decide)
def IW(t:Bs):Prop:=(∃c l,t=c::l∧¬(97≤c.toNat∧c.toNat≤122))∨(∃nm l,t=nm++40::l∧A8 nm)∨t=[116,114,117,101]∨
 ∃nm c l,(nm=[97,108,108]∨nm=[115,111,109,101])∧t=nm++32::c::l∧c.toNat≠61
theorem Fp{T:Bs}(hT:T.length≤4000){self:Nat→Int→Bs→Int→Int→Int→Int→Option (u6×Int×Int×Int×Int)}{P:u6×Int×Int×Int×Int→Prop}{d p k:Nat}{i:Int}{t l:Bs}{c:UInt8}
 (h:T.drop p=40::(t++32::c::l)) (hc:c.toNat≠61) (ht:IW t) (hj:Evt (fun n=>B8 (self n) (d:Int) T (p:Int) (k:Int) (0,i)) P):
 Evt (fun n=>J1 (self n) n (d:Int) T (p:Int) 0 i (k:Int)) P:=by
 obtain⟨h1,h2,h3,_⟩:=iB h
 unfold J1
 rw[show wr .i64 ((p:Int)+1)=((p+1:Nat):Int)from kg 1 (by omega),T9]
 refine Evt.bind (P:=fun v=>v=pk T (p+1)) (Evt.pure rfl) fun v hv=>?_
 subst hv
 have word:∀(nm:Bs) (c':UInt8) (l':Bs),A8 nm→T.drop (p+1)=nm++32::c'::l'→c'.toNat≠61→(nm=[116,114,117,101]∨nm=[97,108,108]∨nm=[115,111,109,101])→
  Evt (fun n=>(C1 n T ((p+1:Nat):Int) 0 i (k:Int)).bind fun v2=>(D7 T v2.2.1 v2.2.2.1 v2.2.2.2 (k:Int)).bind fun v3=>
   bif (decide (v3=32))then
    chk (cg (decide ((wr .i64 (v2.2.1+1))<(↑T.length:Int))) (0≤(wr .i64 (v2.2.1+1)))∧cg (decide ((wr .i64 (v2.2.1+1))<(↑T.length:Int))) ((wr .i64 (v2.2.1+1))<(↑T.length:Int))) <|
    bif (bif (decide ((wr .i64 (v2.2.1+1))<(↑T.length:Int)))then(decide ((B3 T (wr .i64 (v2.2.1+1)))=61))else false)then
     (y8 32 T (wr .i64 (v2.2.1+2)) v2.2.2.1 v2.2.2.2 (k:Int)).bind fun v7=>
     (C1 n T v7.2.1 v7.2.2.1 v7.2.2.2 (k:Int)).bind fun v8=>
     (y8 41 T v8.2.1 v8.2.2.1 v8.2.2.2 (k:Int)).bind fun v9=>
     some ((u6.mk 3 [] [v2.1,v8.1] []),v9.2.1,v9.2.2.1,v9.2.2.2,(k:Int))
    else
     bif (bif (bif (!decide (v2.1=[116,114,117,101]))then(!decide (v2.1=[97,108,108]))else false)then(!decide (v2.1=[115,111,109,101]))else false)then
      (C4 11 (wr .i64 (v2.2.1+1)) T v2.2.1 v2.2.2.1 v2.2.2.2 (k:Int)).bind fun v11=>
      some ((u6.mk 0 [] [] []),v2.2.1,v11.1,v11.2,(k:Int))
     else
      B8 (self n) (d:Int) T (p:Int) (k:Int) (v2.2.2.1,v2.2.2.2)
   else
    B8 (self n) (d:Int) T (p:Int) (k:Int) (v2.2.2.1,v2.2.2.2)) P:=fun nm c' l' hn hd hc' hnm=>by
  refine Evt.bind (bV hT (by omega) hd hn (xL _) i k) fun v2 hv2=>?_
  subst hv2
  obtain⟨g1,g2⟩:=eR hd (by omega)
  obtain⟨g3,g4,g5,g6⟩:=iB g1
  obtain⟨g7,g8,_⟩:=iB g5
  simp only[T9]
  refine Evt.bind (P:=fun v=>v=pk T (p+1+nm.length)) (Evt.pure rfl) fun v3 hv3=>?_
  subst hv3
  rw[g6]
  refine Evt.cond (fun _=>?_) (fun e=>by simp at e)
  rw[show wr .i64 (((p+1+nm.length:Nat):Int)+1)=((p+1+nm.length+1:Nat):Int)from kg 1 (by omega)]
  refine Evt.chk ⟨aR fun _=>by omega,aR fun _=>by omega⟩ ?_
  refine Evt.cond (fun e=>?_) (fun _=>?_)
  ·replace e:=bx e
   rw[g8]at e
   omega
  ·refine Evt.cond (fun e=>?_) (fun _=>hj)
   rcases hnm with rfl|rfl|rfl<;>simp at e
 rcases ht with⟨c0,l0,rfl,hc0⟩|⟨nm,l0,rfl,hnm⟩|rfl|⟨nm,c0,l0,hnm,rfl,hc0⟩
 ·refine Evt.cond (fun e=>?_) (fun _=>hj)
  rw[List.cons_append]at h3
  rw[(iB h3).2.2.2]at e
  replace e:=bx e
  omega
 ·obtain⟨c1,l1,rfl,c2,c3⟩:=lU hnm
  refine Evt.cond (fun _=>?_) (fun _=>hj)
  have hd:T.drop (p+1)=(c1::l1)++40::(l0++32::c::l):=by rw[h3];simp
  refine Evt.bind (bV hT (by omega) hd hnm (IU _) i k) fun v2 hv2=>?_
  subst hv2
  obtain⟨g1,g2⟩:=eR hd (by omega)
  obtain⟨g3,g4,g5,g6⟩:=iB g1
  simp only[T9]
  refine Evt.bind (P:=fun v=>v=pk T (p+1+(c1::l1).length)) (Evt.pure rfl) fun v3 hv3=>?_
  subst hv3
  rw[g6]
  exact Evt.cond (fun e=>by simp at e) (fun _=>hj)
 ·refine Evt.cond (fun _=>?_) (fun _=>hj)
  exact word [116,114,117,101] c l wA h3 hc (.inl rfl)
 ·refine Evt.cond (fun _=>?_) (fun _=>hj)
  refine word nm c0 (l0++32::c::l) ?_ (by rw[h3];simp) hc0 (.inr hnm)
  rcases hnm with rfl|rfl
  ·exact AY
  ·exact wB
theorem Fq{k:Int}(hk:k=5∨k=6∨k=7):∃c:UInt8,sgn k=[32,c,32]∧c.toNat≠61∧kOf (c.toNat:Int)=k:=by
 rcases hk with rfl|rfl|rfl
 ·exact⟨38,rfl,by decide,by decide⟩
 ·exact⟨124,rfl,by decide,by decide⟩
 ·exact⟨62,rfl,by decide,by decide⟩
def Stq(r:Bs):Prop:=Stp r∧∀l,r≠40::l
theorem KY(l:Bs):Stq (32::l):=⟨xL l,fun l' h=>by cases h⟩
theorem KZ(l:Bs):Stq (41::l):=⟨IV l,fun l' h=>by cases h⟩
theorem Ft:Stq []:=⟨Fm,fun l' h=>by cases h⟩
def At(T:Bs)(self:Nat→Int→Bs→Int→Int→Int→Int→Option (u6×Int×Int×Int×Int))(d:Nat)(f:u6)(t:Bs):Prop:=
 ∀(p k:Nat) (i:Int) (rest:Bs),T.drop p=t++rest→p≤T.length→Stq rest→k+ndF f≤200→Evt (fun n=>self n (d:Int) T (p:Int) 0 i (k:Int)) (fun r=>r=(f,((p+t.length:Nat):Int),0,i,((k+ndF f:Nat):Int)))
theorem Da{T:Bs}(hT:T.length≤4000){self:Nat→Int→Bs→Int→Int→Int→Int→Option (u6×Int×Int×Int×Int)}{x y:u6}{tx ty rest:Bs}{d p k:Nat}{i kk:Int}(hkk:kk=5∨kk=6∨kk=7)(hd:d≤1000)
 (h:T.drop p=[40]++tx++sgn kk++ty++[41]++rest) (hx:At T self (d+1) x tx) (hy:At T self (d+1) y ty) (hk:k+ndF x+ndF y≤200):
 Evt (fun n=>B8 (self n) (d:Int) T (p:Int) (k:Int) (0,i)) (fun r=>r=(.mk kk [] [] [x,y],((p+([40]++tx++sgn kk++ty++[41]).length:Nat):Int),0,i,((k+ndF x+ndF y:Nat):Int))):=by
 obtain⟨c,hs,hc1,hc2⟩:=Fq hkk
 have h0:T.drop p=40::(tx++32::c::32::(ty++41::rest)):=by rw[h,hs];simp
 obtain⟨a1,_,a3,_⟩:=iB h0
 obtain⟨b1,b2⟩:=eR a3 (by omega)
 obtain⟨c1,_,c3,_⟩:=iB b1
 obtain⟨d1,_,d3,d4⟩:=iB c3
 obtain⟨e1,_,e3,_⟩:=iB d3
 obtain⟨f1,f2⟩:=eR e3 (by omega)
 obtain⟨g1,_⟩:=iB f1
 have t1:y8 32 T ((p+1+tx.length:Nat):Int) 0 i ((k+ndF x:Nat):Int)=some (true,((p+1+tx.length+1:Nat):Int),0,i):=iX hT b1 i _
 have t2:y8 32 T ((p+1+tx.length+1+1:Nat):Int) 0 i ((k+ndF x:Nat):Int)=some (true,((p+1+tx.length+1+1+1:Nat):Int),0,i):=iX hT d3 i _
 have t3:y8 41 T ((p+1+tx.length+1+1+1+ty.length:Nat):Int) 0 i ((k+ndF x+ndF y:Nat):Int)=some (true,((p+1+tx.length+1+1+1+ty.length+1:Nat):Int),0,i):=iX hT f1 i _
 unfold B8
 rw[show wr .i64 ((d:Int)+1)=((d+1:Nat):Int)from kg 1 (by omega),show wr .i64 ((p:Int)+1)=((p+1:Nat):Int)from kg 1 (by omega)]
 refine Evt.bind (hx (p+1) k i _ a3 (by omega) (KY _) (by omega)) fun v12 hv=>?_
 subst hv
 simp only[t1]
 refine Evt.bind (P:=fun v=>v=(true,((p+1+tx.length+1:Nat):Int),(0:Int),i)) (Evt.pure rfl) fun v13 hv=>?_
 subst hv
 refine Evt.aB (Evt.aB (Evt.aB ?_))
 simp only[T9]
 refine Evt.bind (P:=fun v=>v=pk T (p+1+tx.length+1)) (Evt.pure rfl) fun v21 hv=>?_
 subst hv
 rw[d4]
 refine Evt.cond (fun e=>?_) (fun _=>?_)
 ·replace e:=bx e
  have:kOf (c.toNat:Int)=0:=e
  omega
 rw[show wr .i64 (((p+1+tx.length+1:Nat):Int)+1)=((p+1+tx.length+1+1:Nat):Int)from kg 1 (by omega)]
 simp only[t2]
 refine Evt.bind (P:=fun v=>v=(true,((p+1+tx.length+1+1+1:Nat):Int),(0:Int),i)) (Evt.pure rfl) fun v23 hv=>?_
 subst hv
 refine Evt.bind (hy (p+1+tx.length+1+1+1) (k+ndF x) i _ e3 (by omega) (KZ _) (by omega)) fun v24 hv=>?_
 subst hv
 simp only[t3]
 refine Evt.pure ?_
 have ek:(assoc (c.toNat:Int) (y6 62 7 (y6 124 6 (y6 38 5 [])))).getD default=kk:=hc2
 have el:p+([40]++tx++sgn kk++ty++[41]).length=p+1+tx.length+1+1+1+ty.length+1:=by rw[hs];simp;omega
 rw[ek,el]
theorem mK(k:Int)(n:Bs)(w:List Bs)(s:List u6):ndF (.mk k n w s)=1+aD s:=by rw[ndF]
theorem Fu(k:Int)(n:Bs)(w:List Bs)(s:List u6):dpF (.mk k n w s)=1+qj s:=by rw[dpF]
theorem nr{f:u6}(h:WfF f):f= .mk 1 [] [] []∨(∃n ws,f= .mk 2 n ws []∧ws.length≤3∧A8 n∧∀x∈ws,A8 x)∨(∃a b,f= .mk 3 [] [a,b] []∧A8 a∧A8 b)∨(∃x,f= .mk 4 [] [] [x]∧WfF x)∨
 (∃k x y,(k=5∨k=6∨k=7)∧f= .mk k [] [] [x,y]∧WfF x∧WfF y)∨∃k n x,(k=8∨k=9)∧f= .mk k n [] [x]∧A8 n∧WfF x:=by
 obtain⟨k,n,ws,s⟩:=f
 obtain⟨h1,h2⟩:=(dL _).1 h
 obtain⟨a1,a2,a3,a4,a5⟩:=dS h1
 have hsub:=M4.1 h2
 have a0:0≤arF k:=by
  have:(s.length:Int)=arF k:=a1
  omega
 simp only[u6.jR,u6.jS,u6.qX,u6.qY]at a1 a2 a3 a4 a5 hsub
 by_cases k1:k=1
 ·subst k1
  have e1:arF 1=0:=by decide
  rw[e1]at a1
  obtain rfl:s=[]:=List.eq_nil_of_length_eq_zero (by omega)
  obtain rfl:ws=[]:=List.eq_nil_of_length_eq_zero a2
  rw[a4 (by unfold QK;decide)]
  exact .inl rfl
 by_cases k2:k=2
 ·subst k2
  have e1:arF 2=0:=by decide
  rw[e1]at a1
  obtain rfl:s=[]:=List.eq_nil_of_length_eq_zero (by omega)
  exact .inr (.inl ⟨n,ws,rfl,a2,a3 (.inl rfl),a5⟩)
 by_cases k3:k=3
 ·subst k3
  have e1:arF 3=0:=by decide
  rw[e1]at a1
  obtain rfl:s=[]:=List.eq_nil_of_length_eq_zero (by omega)
  have hw:ws.length=2:=a2
  match ws,hw with
  | [a,b],_=>
    rw[a4 (by unfold QK;decide)]
    exact .inr (.inr (.inl ⟨a,b,rfl,a5 a (by simp),a5 b (by simp)⟩))
 by_cases k4:k=4
 ·subst k4
  have e1:arF 4=1:=by decide
  rw[e1]at a1
  obtain rfl:ws=[]:=List.eq_nil_of_length_eq_zero a2
  have hs:s.length=1:=by omega
  match s,hs with
  | [x],_=>
    rw[a4 (by unfold QK;decide)]
    exact .inr (.inr (.inr (.inl ⟨x,rfl,hsub x (by simp)⟩)))
 by_cases k5:k=5∨k=6∨k=7
 ·have e1:arF k=2:=by rcases k5 with rfl|rfl|rfl<;>decide
  rw[e1]at a1
  have hw:ws.length=0:=by rcases k5 with rfl|rfl|rfl<;>exact a2
  obtain rfl:ws=[]:=List.eq_nil_of_length_eq_zero hw
  have hs:s.length=2:=by omega
  match s,hs with
  | [x,y],_=>
    rw[a4 (by unfold QK;rcases k5 with rfl|rfl|rfl<;>decide)]
    exact .inr (.inr (.inr (.inr (.inl ⟨k,x,y,k5,rfl,hsub x (by simp),hsub y (by simp)⟩))))
 by_cases k8:k=8∨k=9
 ·have e1:arF k=1:=by rcases k8 with rfl|rfl<;>decide
  rw[e1]at a1
  have hw:ws.length=0:=by rcases k8 with rfl|rfl<;>exact a2
  obtain rfl:ws=[]:=List.eq_nil_of_length_eq_zero hw
  have hs:s.length=1:=by omega
  match s,hs with
  | [x],_=>exact .inr (.inr (.inr (.inr (.inr ⟨k,n,x,k8,rfl,a3 (.inr k8),hsub x (by simp)⟩))))
 ·exfalso
  unfold arF at a0
  rw[if_neg (by omega),if_neg (by omega),if_neg (by omega)]at a0
  omega
theorem rF:∀(m:Nat) (f:u6),SizeOf.sizeOf f≤m→WfF f→∃t,L8 f=some t:=by
 intro m
 induction m with
 |zero=>intro f h;cases f;simp only[u6.mk.sizeOf_spec]at h;omega
 |succ m ih=>
  intro f hf hw
  rcases nr hw with rfl|⟨n,ws,rfl,_⟩|⟨a,b,rfl,_⟩|⟨x,rfl,hx⟩|⟨k,x,y,hk,rfl,hx,hy⟩|⟨k,n,x,hk,rfl,hn,hx⟩
  ·exact⟨_,Iz⟩
  ·exact⟨_,IB n ws⟩
  ·exact⟨_,IC a b⟩
  ·obtain⟨t,ht⟩:=ih x (by simp at hf;omega) hx
   exact⟨_,IE ht⟩
  ·obtain⟨t,ht⟩:=ih x (by simp at hf;omega) hx
   obtain⟨u,hu⟩:=ih y (by simp at hf;omega) hy
   exact⟨_,IJ hk ht hu⟩
  ·obtain⟨t,ht⟩:=ih x (by simp at hf;omega) hx
   rcases hk with rfl|rfl
   ·exact⟨_,IG ht⟩
   ·exact⟨_,II ht⟩
theorem Fv{f:u6}{t:Bs}(hw:WfF f)(ht:L8 f=some t):IW t:=by
 have tt:∀x,WfF x→∃u,L8 x=some u:=fun x hx=>rF _ x (Nat.le_refl _) hx
 rcases nr hw with rfl|⟨n,ws,rfl,_,hn,_⟩|⟨a,b,rfl,_⟩|⟨x,rfl,hx⟩|⟨k,x,y,hk,rfl,hx,hy⟩|⟨k,n,x,hk,rfl,hn,hx⟩
 ·obtain rfl:=Option.some.inj (ht.symm.trans Iz)
  exact .inr (.inr (.inl rfl))
 ·obtain rfl:=Option.some.inj (ht.symm.trans (IB n ws))
  exact .inr (.inl ⟨n,_,by simp;rfl,hn⟩)
 ·obtain rfl:=Option.some.inj (ht.symm.trans (IC a b))
  exact .inl ⟨40,_,rfl,by decide⟩
 ·obtain⟨u,hu⟩:=tt x hx
  obtain rfl:=Option.some.inj (ht.symm.trans (IE hu))
  exact .inl ⟨45,_,rfl,by decide⟩
 ·obtain⟨u,hu⟩:=tt x hx
  obtain⟨v,hv⟩:=tt y hy
  obtain rfl:=Option.some.inj (ht.symm.trans (IJ hk hu hv))
  exact .inl ⟨40,_,rfl,by decide⟩
 ·obtain⟨u,hu⟩:=tt x hx
  obtain⟨c,l,rfl,h1,h2⟩:=lU hn
  rcases hk with rfl|rfl
  ·obtain rfl:=Option.some.inj (ht.symm.trans (IG hu))
   exact .inr (.inr (.inr ⟨[97,108,108],c,_,.inl rfl,rfl,by omega⟩))
  ·obtain rfl:=Option.some.inj (ht.symm.trans (II hu))
   exact .inr (.inr (.inr ⟨[115,111,109,101],c,_,.inr rfl,rfl,by omega⟩))
theorem wC{T:Bs}(hT:T.length≤4000){self:Nat→Int→Bs→Int→Int→Int→Int→Option (u6×Int×Int×Int×Int)}{d p k:Nat}{i kk:Int}{nm n t rest:Bs}{x:u6}(hd:d≤1000)(hp:p≤T.length)
 (h:T.drop p=nm++32::(n++32::(t++rest))) (hnm:(assoc nm (y6 [115,111,109,101] (9:Int) (y6 [97,108,108] 8 []))).getD default=kk) (hn:A8 n) (hx:At T self (d+1) x t) (hk:k+1+ndF x≤200) (hs:Stq rest):
 Evt (fun n=>E9 (self n) n T (nm,((p+nm.length:Nat):Int),0,i) (k:Int) (d:Int) true) (fun r=>r=(.mk kk n [] [x],((p+nm.length+1+n.length+1+t.length:Nat):Int),0,i,((k+1+ndF x:Nat):Int))):=by
 obtain⟨a1,a2⟩:=eR h hp
 obtain⟨b1,_,b3,_⟩:=iB a1
 obtain⟨c1,c2⟩:=eR b3 (by omega)
 obtain⟨d1,_,d3,_⟩:=iB c1
 have t1:y8 32 T ((p+nm.length:Nat):Int) 0 i ((k+1:Nat):Int)=some (true,((p+nm.length+1:Nat):Int),0,i):=iX hT a1 i _
 have t2:y8 32 T ((p+nm.length+1+n.length:Nat):Int) 0 i ((k+1:Nat):Int)=some (true,((p+nm.length+1+n.length+1:Nat):Int),0,i):=iX hT c1 i _
 unfold E9
 rw[show wr .i64 ((k:Int)+1)=((k+1:Nat):Int)from kg 1 (by omega),show wr .i64 ((d:Int)+1)=((d+1:Nat):Int)from kg 1 (by omega)]
 refine Evt.cond (fun _=>?_) (fun e=>by cases e)
 simp only[t1]
 refine Evt.bind (P:=fun v=>v=(true,((p+nm.length+1:Nat):Int),(0:Int),i)) (Evt.pure rfl) fun v10 hv=>?_
 subst hv
 refine Evt.aB (Evt.aB ?_)
 refine Evt.bind (bV hT (by omega) b3 hn (xL _) i _) fun v16 hv=>?_
 subst hv
 simp only[t2]
 refine Evt.bind (P:=fun v=>v=(true,((p+nm.length+1+n.length+1:Nat):Int),(0:Int),i)) (Evt.pure rfl) fun v17 hv=>?_
 subst hv
 refine Evt.bind (hx _ (k+1) i rest d3 (by omega) hs (by omega)) fun v18 hv=>Evt.pure ?_
 subst hv
 show(u6.mk ((assoc nm (y6 [115,111,109,101] (9:Int) (y6 [97,108,108] 8 []))).getD default) n [] [x],_,_,_,_)=_
 rw[hnm]
theorem Fw{T:Bs}(hT:T.length≤4000):∀(m:Nat) (f:u6),SizeOf.sizeOf f≤m→WfF f→∀(d:Nat) (t:Bs),d+dpF f≤41→L8 f=some t→At T y9 d f t:=by
 intro m
 induction m with
 |zero=>intro f h;cases f;simp only[u6.mk.sizeOf_spec]at h;omega
 |succ m ih=>
  intro f hf hw d t hd ht p k i rest hdr hp hs hk
  have hnd:1≤ndF f:=by rw[sU];omega
  have hdp:1≤dpF f:=by rw[Ii];omega
  have tt:∀x,WfF x→∃u,L8 x=some u:=fun x hx=>rF _ x (Nat.le_refl _) hx
  have start:∀(c:UInt8) (l:Bs),T.drop p=c::l→(c=45∨c=40∨(97≤c.toNat∧c.toNat≤122))→∀(P:u6×Int×Int×Int×Int→Prop) (body:Nat→Option (u6×Int×Int×Int×Int)),Evt body P→
   Evt (fun n=>(bif (!(bif (bif (decide ((c.toNat:Int)=45))then true else(decide ((c.toNat:Int)=40)))then true else(bif (decide (97≤(c.toNat:Int)))then(decide ((c.toNat:Int)≤122))else false)))then
    (C4 11 (p:Int) T (p:Int) 0 i (k:Int)).bind fun v2=>some ((u6.mk 0 [] [] []),(p:Int),v2.1,v2.2,(k:Int))
   else bif (bif (decide (200<(wr .i64 ((k:Int)+1))))then true else(decide (40<(d:Int))))then
    (C4 1 (p:Int) T (p:Int) 0 i (wr .i64 ((k:Int)+1))).bind fun v3=>some ((u6.mk 0 [] [] []),(p:Int),v3.1,v3.2,(wr .i64 ((k:Int)+1)))
   else body n)) P:=fun c l h hc P body hb=>by
   refine Evt.cond (fun e=>?_) (fun _=>Evt.cond (fun e=>?_) (fun _=>hb))
   ·exfalso
    replace e:=bx e
    rcases hc with rfl|rfl|hc
    ·simp at e
    ·simp at e
    ·omega
   ·exfalso
    rw[show wr .i64 ((k:Int)+1)=((k+1:Nat):Int)from kg 1 (by omega)]at e
    replace e:=bx e
    omega
  refine Evt.succ ?_
  simp only[y9]
  refine Evt.cond (fun e=>by simp at e) (fun _=>?_)
  rw[T9]
  refine Evt.bind (P:=fun v=>v=pk T p) (Evt.pure rfl) fun v1 hv=>?_
  subst hv
  have wd:wr .i64 ((d:Int)+1)=((d+1:Nat):Int):=kg 1 (by omega)
  have wk:wr .i64 ((k:Int)+1)=((k+1:Nat):Int):=kg 1 (by omega)
  rcases nr hw with rfl|⟨n,ws,rfl,hws,hn,hwn⟩|⟨a,b,rfl,ha,hb⟩|⟨x,rfl,hx⟩|⟨kk,x,y,hkk,rfl,hx,hy⟩|⟨kk,n,x,hkk,rfl,hn,hx⟩
  ·obtain rfl:=Option.some.inj (ht.symm.trans Iz)
   rw[(iB (show T.drop p=116::([114,117,101]++rest)from hdr)).2.2.2]
   refine start 116 _ hdr (.inr (.inr (by decide))) _ _ ?_
   refine Evt.cond (fun e=>by simp at e) (fun _=>Evt.cond (fun e=>by simp at e) (fun _=>?_))
   refine Evt.bind (bV hT hp hdr wA hs.1 i _) fun v7 hv=>?_
   subst hv
   obtain⟨g1,_⟩:=eR hdr hp
   simp only[T9]
   refine Evt.bind (P:=fun v=>v=pk T (p+([116,114,117,101]:Bs).length)) (Evt.pure rfl) fun v8 hv=>?_
   subst hv
   refine Evt.cond (fun e=>?_) (fun _=>Evt.cond (fun _=>Evt.pure ?_) (fun e=>by simp at e))
   ·exfalso
    replace e:=bx e
    obtain⟨e1,e2⟩:=tH e (by decide)
    cases rest with
    |nil=>
     have:=congrArg List.length g1
     rw[List.length_drop]at this
     simp only[List.length_nil]at this
     omega
    |cons c l=>
     have e3:(c.toNat:Int)=40:=(iB g1).2.2.2.symm.trans e
     have e4:c=40:=UInt8.toNat_inj.1 (show c.toNat=40 by omega)
     subst e4
     exact hs.2 l rfl
   ·rw[wk,mK];rfl
  ·obtain rfl:=Option.some.inj (ht.symm.trans (IB n ws))
   obtain⟨c,l,hc,c1,c2⟩:=lU hn
   have hd1:T.drop p=n++40::(Lib.join ws [44]++41::rest):=by rw[hdr];simp
   have hd2:T.drop p=c::(l++40::(Lib.join ws [44]++41::rest)):=by rw[hd1,hc];rfl
   rw[(iB hd2).2.2.2]
   refine start c _ hd2 (.inr (.inr ⟨c1,c2⟩)) _ _ ?_
   refine Evt.cond (fun e=>by replace e:=bx e;omega) (fun _=>Evt.cond (fun e=>by replace e:=bx e;omega) (fun _=>?_))
   refine Evt.bind (bV hT hp hd1 hn (IU _) i _) fun v7 hv=>?_
   subst hv
   obtain⟨g1,g2⟩:=eR hd1 hp
   obtain⟨g3,_,g5,g6⟩:=iB g1
   simp only[T9]
   refine Evt.bind (P:=fun v=>v=pk T (p+n.length)) (Evt.pure rfl) fun v8 hv=>?_
   subst hv
   rw[g6]
   refine Evt.cond (fun _=>?_) (fun e=>by simp at e)
   rw[show wr .i64 (((p+n.length:Nat):Int)+1)=((p+n.length+1:Nat):Int)from kg 1 (by omega)]
   refine Evt.bind (AX hT (by omega) g5 hws hwn i _) fun v9 hv=>Evt.pure ?_
   subst hv
   rw[wk,mK]
   have:p+n.length+1+(Lib.join ws [44]).length+1=p+(n++[40]++Lib.join ws [44]++[41]).length:=by simp;omega
   rw[this]
   rfl
  ·obtain rfl:=Option.some.inj (ht.symm.trans (IC a b))
   have hd1:T.drop p=40::(a++32::61::32::(b++41::rest)):=by rw[hdr];simp
   rw[(iB hd1).2.2.2]
   refine start 40 _ hd1 (.inr (.inl rfl)) _ _ ?_
   refine Evt.cond (fun e=>by simp at e) (fun _=>Evt.cond (fun _=>?_) (fun e=>by simp at e))
   rw[wk]
   refine Evt.bind (P:=fun r=>r=(.mk 3 [] [a,b] [],((p+([40]++a++[32,61,32]++b++[41]).length:Nat):Int),0,i,((k+1:Nat):Int))) ?_ fun v6 hv=>Evt.pure ?_
   ·obtain⟨a1,_,a3,_⟩:=iB hd1
    obtain⟨b1,b2⟩:=eR a3 (by omega)
    obtain⟨c1,c2,c3,c4⟩:=iB b1
    obtain⟨d1,d2,d3,_⟩:=iB c3
    obtain⟨e1,_,e3,_⟩:=iB d3
    obtain⟨f1,f2⟩:=eR e3 (by omega)
    obtain⟨g1,_⟩:=iB f1
    have t1:y8 32 T ((p+1+a.length+2:Nat):Int) 0 i ((k+1:Nat):Int)=some (true,((p+1+a.length+2+1:Nat):Int),0,i):=iX hT d3 i _
    have t2:y8 41 T ((p+1+a.length+2+1+b.length:Nat):Int) 0 i ((k+1:Nat):Int)=some (true,((p+1+a.length+2+1+b.length+1:Nat):Int),0,i):=iX hT f1 i _
    unfold J1
    rw[show wr .i64 ((p:Int)+1)=((p+1:Nat):Int)from kg 1 (by omega),T9]
    refine Evt.bind (P:=fun v=>v=pk T (p+1)) (Evt.pure rfl) fun v hv=>?_
    subst hv
    obtain⟨h0,hl0,rfl,h1,h2⟩:=lU ha
    refine Evt.cond (fun _=>?_) (fun e=>?_)
    ·refine Evt.bind (bV hT (by omega) a3 ha (xL _) i _) fun v2 hv2=>?_
     subst hv2
     simp only[T9]
     refine Evt.bind (P:=fun v=>v=pk T (p+1+(h0::hl0).length)) (Evt.pure rfl) fun v3 hv3=>?_
     subst hv3
     rw[c4]
     refine Evt.cond (fun _=>?_) (fun e=>by simp at e)
     rw[show wr .i64 (((p+1+(h0::hl0).length:Nat):Int)+1)=((p+1+(h0::hl0).length+1:Nat):Int)from kg 1 (by omega),show wr .i64 (((p+1+(h0::hl0).length:Nat):Int)+2)=((p+1+(h0::hl0).length+2:Nat):Int)from kg 2 (by omega)]
     refine Evt.chk ⟨aR fun _=>by omega,aR fun _=>by omega⟩ ?_
     refine Evt.cond (fun _=>?_) (fun e=>?_)
     ·simp only[t1]
      refine Evt.bind (P:=fun v=>v=(true,((p+1+(h0::hl0).length+2+1:Nat):Int),(0:Int),i)) (Evt.pure rfl) fun v7 hv=>?_
      subst hv
      refine Evt.bind (bV hT (by omega) e3 hb (IV _) i _) fun v8 hv=>?_
      subst hv
      have t2':y8 41 T ((p+1+(h0::hl0).length+1+1+1+b.length:Nat):Int) 0 i ((k+1:Nat):Int)=some (true,((p+1+(h0::hl0).length+2+1+b.length+1:Nat):Int),0,i):=t2
      simp only[t2,t2']
      refine Evt.pure ?_
      have:p+1+(h0::hl0).length+2+1+b.length+1=p+([40]++(h0::hl0)++[32,61,32]++b++[41]).length:=by simp;omega
      rw[this]
     ·exfalso
      rw[d2]at e
      simp at e d1
      omega
    ·exfalso
     rw[(iB (show T.drop (p+1)=h0::(hl0++32::61::32::(b++41::rest))from a3)).2.2.2]at e
     have e':decide (97≤(h0.toNat:Int))=true:=decide_eq_true (by omega)
     have e'':decide ((h0.toNat:Int)≤122)=true:=decide_eq_true (by omega)
     rw[e',e'']at e
     cases e
   ·subst hv
    rw[mK]
    rfl
  ·obtain⟨u,hu⟩:=tt x hx
   obtain rfl:=Option.some.inj (ht.symm.trans (IE hu))
   have hd1:T.drop p=45::(u++rest):=hdr
   rw[(iB hd1).2.2.2]
   refine start 45 _ hd1 (.inl rfl) _ _ ?_
   refine Evt.cond (fun _=>?_) (fun e=>by simp at e)
   rw[mK,aD,aD]at hk⊢
   rw[Fu,qj,qj]at hd
   have g1:=iB hd1
   rw[wk,wd,show wr .i64 ((p:Int)+1)=((p+1:Nat):Int)from kg 1 (by omega)]
   refine Evt.bind (ih x (by simp at hf;omega) hx (d+1) u (by omega) hu (p+1) (k+1) i rest g1.2.2.1 (by omega) hs (by omega)) fun v4 hv=>Evt.pure ?_
   subst hv
   have e1:p+1+u.length=p+(([45]:Bs)++u).length:=by simp;omega
   have e2:k+1+ndF x=k+(1+(ndF x+0)):=by omega
   rw[e1,e2]
  ·obtain⟨u,hu⟩:=tt x hx
   obtain⟨v,hv⟩:=tt y hy
   obtain rfl:=Option.some.inj (ht.symm.trans (IJ hkk hu hv))
   obtain⟨c,hsg,hc1,_⟩:=Fq hkk
   have hd1:T.drop p=40::(u++32::c::32::(v++41::rest)):=by rw[hdr,hsg];simp
   rw[(iB hd1).2.2.2]
   refine start 40 _ hd1 (.inr (.inl rfl)) _ _ ?_
   refine Evt.cond (fun e=>by simp at e) (fun _=>Evt.cond (fun _=>?_) (fun e=>by simp at e))
   rw[wk]
   rw[mK,aD,aD,aD]at hk⊢
   rw[Fu,qj,qj,qj]at hd
   have hxx:=ih x (by simp at hf;omega) hx (d+1) u (by omega) hu
   have hyy:=ih y (by simp at hf;omega) hy (d+1) v (by omega) hv
   refine Evt.bind (Fp (self:=y9) hT hd1 hc1 (Fv hx hu) (Da (self:=y9) (rest:=rest) hT hkk (by omega) hdr hxx hyy (by omega))) fun v6 hv6=>Evt.pure ?_
   subst hv6
   have e2:k+1+ndF x+ndF y=k+(1+(ndF x+(ndF y+0))):=by omega
   rw[e2]
  ·obtain⟨u,hu⟩:=tt x hx
   rw[mK,aD,aD]at hk⊢
   rw[Fu,qj,qj]at hd
   have hxx:=ih x (by simp at hf;omega) hx (d+1) u (by omega) hu
   have e2:k+1+ndF x=k+(1+(ndF x+0)):=by omega
   rcases hkk with rfl|rfl
   ·obtain rfl:=Option.some.inj (ht.symm.trans (IG hu))
    have hd1:T.drop p=[97,108,108]++32::(n++32::(u++rest)):=by rw[hdr];simp
    rw[(iB (show T.drop p=97::([108,108]++32::(n++32::(u++rest)))from hd1)).2.2.2]
    refine start 97 _ hd1 (.inr (.inr (by decide))) _ _ ?_
    refine Evt.cond (fun e=>by simp at e) (fun _=>Evt.cond (fun e=>by simp at e) (fun _=>?_))
    refine Evt.bind (bV hT hp hd1 AY (xL _) i _) fun v7 hv=>?_
    subst hv
    obtain⟨g1,g2⟩:=eR hd1 hp
    simp only[T9]
    refine Evt.bind (P:=fun v=>v=pk T (p+([97,108,108]:Bs).length)) (Evt.pure rfl) fun v8 hv=>?_
    subst hv
    rw[(iB g1).2.2.2]
    refine Evt.cond (fun e=>by simp at e) (fun _=>Evt.cond (fun e=>by simp at e) (fun _=>Evt.cond (fun _=>?_) (fun e=>by simp at e)))
    refine(wC (self:=y9) hT (by omega) hp hd1 qu hn hxx (by omega) hs).mono fun r hr=>?_
    have e1:p+([97,108,108]:Bs).length+1+n.length+1+u.length=p+(([97,108,108,32]:Bs)++n++[32]++u).length:=by simp;omega
    rw[hr,e1,e2]
   ·obtain rfl:=Option.some.inj (ht.symm.trans (II hu))
    have hd1:T.drop p=[115,111,109,101]++32::(n++32::(u++rest)):=by rw[hdr];simp
    rw[(iB (show T.drop p=115::([111,109,101]++32::(n++32::(u++rest)))from hd1)).2.2.2]
    refine start 115 _ hd1 (.inr (.inr (by decide))) _ _ ?_
    refine Evt.cond (fun e=>by simp at e) (fun _=>Evt.cond (fun e=>by simp at e) (fun _=>?_))
    refine Evt.bind (bV hT hp hd1 wB (xL _) i _) fun v7 hv=>?_
    subst hv
    obtain⟨g1,g2⟩:=eR hd1 hp
    simp only[T9]
    refine Evt.bind (P:=fun v=>v=pk T (p+([115,111,109,101]:Bs).length)) (Evt.pure rfl) fun v8 hv=>?_
    subst hv
    rw[(iB g1).2.2.2]
    refine Evt.cond (fun e=>by simp at e) (fun _=>Evt.cond (fun e=>by simp at e) (fun _=>Evt.cond (fun e=>by simp at e) (fun _=>?_)))
    refine(wC (self:=y9) hT (by omega) hp hd1 oR hn hxx (by omega) hs).mono fun r hr=>?_
    have e1:p+([115,111,109,101]:Bs).length+1+n.length+1+u.length=p+(([115,111,109,101,32]:Bs)++n++[32]++u).length:=by simp;omega
    rw[hr,e1,e2]
theorem uW:∀(s sub:Bs) (i:Nat),Lib.index s sub=(i:Int)→s=s.take i++sub++s.drop (i+sub.length)
 | [],sub,i,h=>by
   unfold Lib.index at h
   split at h
   ·have:sub=[]:=by simpa using(by assumption:sub.isEmpty=true)
    subst this
    simp
   ·omega
 |b::l,sub,i,h=>by
  unfold Lib.index at h
  split at h
  ·obtain rfl:i=0:=by omega
   obtain⟨t,ht⟩:=List.isPrefixOf_iff_prefix.1 (by assumption:sub.isPrefixOf (b::l)=true)
   rw[←ht]
   simp
  ·split at h
   ·omega
   ·rename_i hm
    have g1:=Lib.index_ge l sub
    have g2:Lib.index l sub≠ -1:=by simpa using hm
    obtain⟨j,rfl⟩:∃j,i=j+1:=⟨i-1,by omega⟩
    have ih:=uW l sub j (by omega)
    rw[show j+1+sub.length=(j+sub.length)+1 by omega,List.take_succ_cons,List.drop_succ_cons,List.cons_append,List.cons_append, ←ih]
theorem AZ(c:UInt8)(sub r:Bs):∀h:Bs,c∉h→Lib.index (h++(c::sub)++r) (c::sub)=(h.length:Int)
 | [],_=>by
   unfold Lib.index
   simp
 |b::h,hc=>by
  have ih:=AZ c sub r h (fun x=>hc (List.mem_cons_of_mem _ x))
  have hb:¬c=b:=fun e=>hc (by rw[e];simp)
  rw[List.cons_append,List.cons_append]
  unfold Lib.index
  have e1:(c::sub).isPrefixOf (b::(h++(c::sub)++r))=false:=by simp[List.isPrefixOf,hb]
  rw[e1,ih]
  have e2:((h.length:Int)== -1)=false:=by rw[beq_eq_false_iff_ne];omega
  simp[e2]
theorem DM(c:UInt8):∀h:Bs,c∉h→Lib.index h [c]= -1
 | [],_=>rfl
 |b::h,hc=>by
  have ih:=DM c h (fun x=>hc (List.mem_cons_of_mem _ x))
  have hb:¬c=b:=fun e=>hc (by rw[e];simp)
  unfold Lib.index
  have e1: [c].isPrefixOf (b::h)=false:=by simp[List.isPrefixOf,hb]
  rw[e1,ih]
  rfl
theorem Ba(sep:Bs)(v k:Nat)(s:Bs):Lib.splitK sep v k s≠ []:=by
 cases k with
 |zero=>simp[Lib.splitK]
 |succ k=>unfold Lib.splitK;split<;>simp
theorem bK(x sep:Bs){l:List Bs}(h:l≠ []):Lib.join (x::l) sep=x++sep++Lib.join l sep:=by
 cases l with
 |nil=>exact absurd rfl h
 |cons y l=>
  rw[Lib.join_cons,Lib.join_cons]
  unfold Lib.joinTail
  simp
theorem oS(sep:Bs):∀(k:Nat) (s:Bs),Lib.join (Lib.splitK sep 0 k s) sep=s
 |0,s=>Lib.join_one s sep
 |k+1,s=>by
  unfold Lib.splitK
  split
  ·exact Lib.join_one s sep
  ·rename_i h
   have h1:=Lib.index_ge s sep
   have h2:Lib.index s sep≠ -1:=by simpa using h
   rw[bK _ _ (Ba _ _ _ _),oS sep k,Nat.add_zero]
   exact(uW s sep _ (by omega)).symm
theorem lV(s sep:Bs):Lib.join (Lib.split s sep) sep=s:=oS sep _ s
theorem lW(c:UInt8):∀ws:List Bs,ws≠ []→(∀x∈ws,c∉x)→Lib.split (Lib.join ws [c]) [c]=ws
 | [],h,_=>absurd rfl h
 | [w],_,hn=>by
   have h0:=DM c w (hn w (by simp))
   rw[Lib.join_one]
   unfold Lib.split
   rw[Lib.count_miss h0]
   rfl
 |w::y::l,_,hn=>by
  have ih:=lW c (y::l) (by simp) (fun x hx=>hn x (List.mem_cons_of_mem _ hx))
  have e:Lib.join (w::y::l) [c]=w++[c]++Lib.join (y::l) [c]:=bK _ _ (by simp)
  have hi:Lib.index (w++[c]++Lib.join (y::l) [c]) [c]=(w.length:Int):=AZ c [] _ w (hn w (by simp))
  have hdr:(w++[c]++Lib.join (y::l) [c]).drop (w.length+ [c].length)=Lib.join (y::l) [c]:=by
   rw[show w.length+ [c].length=(w++[c]).length by simp,List.drop_left]
  have htk:(w++[c]++Lib.join (y::l) [c]).take (w.length+0)=w:=by simp
  rw[e]
  unfold Lib.split
  rw[Lib.count_hit (by simp) hi,hdr,Nat.add_comm,Lib.splitK,hi,if_neg (by simp)]
  rw[Int.toNat_natCast,htk,hdr]
  unfold Lib.split at ih
  rw[ih]
theorem IX{h r:Bs}(hh:(93:UInt8)∉h):Lib.cut (h++[93,32]++r) [93,32]=(h,r,true):=by
 have hi:Lib.index (h++[93,32]++r) [93,32]=(h.length:Int):=AZ 93 [32] r h hh
 unfold Lib.cut
 rw[hi,if_pos (by omega),Int.toNat_natCast]
 rw[show h.length+ [(93:UInt8),32].length=(h++[93,32]).length by simp,List.drop_left,List.append_assoc,List.take_left]
theorem IY{T:Bs}(h:(Lib.cut T [93,32]).2.2=true):T=(Lib.cut T [93,32]).1++[93,32]++(Lib.cut T [93,32]).2.1:=by
 unfold Lib.cut at h⊢
 split
 ·rename_i h0
  exact uW T [93,32] _ (by omega)
 ·rename_i h0
  rw[if_neg h0]at h
  cases h
theorem jX(sep:Bs):∀(l:List Bs),∀x∈l,x.length≤(Lib.join l sep).length
 | [],x,h=>by cases h
 | [y],x,h=>by
   rw[Lib.join_one]
   obtain rfl:x=y:=by simpa using h
   exact Nat.le_refl _
 |y::z::l,x,h=>by
  rw[bK _ _ (by simp)]
  simp only[List.length_append]
  rcases List.mem_cons.1 h with rfl|h
  ·omega
  ·have:=jX sep (z::l) x h
   omega
theorem oT(c:UInt8):∀(l:List Bs),l.length≤(Lib.join l [c]).length+1
 | []=>by simp
 | [y]=>by simp
 |y::z::l=>by
  rw[bK _ _ (by simp)]
  have:=oT c (z::l)
  simp only[List.length_append,List.length_cons,List.length_nil]at*
  omega
theorem join_le(c:UInt8)(m:Nat):∀(l:List Bs),(∀x∈l,x.length≤m)→(Lib.join l [c]).length≤(m+1)*l.length
 | [],_=>by simp[Lib.join_nil]
 | [y],h=>by
   rw[Lib.join_one]
   have:=h y (by simp)
   simp
   omega
 |y::z::l,h=>by
  rw[bK _ _ (by simp)]
  have h1:=join_le c m (z::l) (fun x hx=>h x (List.mem_cons_of_mem _ hx))
  have h2:=h y (by simp)
  simp only[List.length_append,List.length_cons,List.length_nil,Nat.mul_succ]at*
  omega
def ZS:w8:=w8.mk (u6.mk 0 [] [] []) [] [] []
def sp(x:Bs):List Bs:=if x=[]then []else Lib.split x [32]
theorem lX(x:Bs):Lib.join (sp x) [32]=x:=by
 unfold sp
 split
 ·rename_i h;rw[h];rfl
 ·exact lV x [32]
theorem uX{ws:List Bs}(h:∀x∈ws,A8 x):sp (Lib.join ws [32])=ws:=by
 unfold sp
 cases ws with
 |nil=>rfl
 |cons w l=>
  obtain⟨c,t,hc,_,_⟩:=lU (h w (by simp))
  rw[if_neg (by rw[Lib.join_cons,hc];simp)]
  refine lW 32 (w::l) (by simp) (fun x hx h32=>?_)
  obtain⟨i,hi,he⟩:=List.getElem_of_mem h32
  have:=(h x hx).2.2.2 i hi
  unfold OkC B3 at this
  rw[Int.toNat_natCast,List.getD_eq_getElem?_getD,List.getElem?_eq_getElem hi,he]at this
  simp at this
theorem qv(a b:Int):C2 a b=some (x6.mk a b):=rfl
theorem IZ(L:List Bs){i:Nat}(hi:i<L.length):Am.get L i=L[i]:=by
 unfold Am.get
 rw[List.getD_eq_getElem?_getD,List.getElem?_eq_getElem hi]
 rfl
theorem La(c:List (List Bs))(k:Nat)(n0:Nat)(hn:(get [(get c 0),(get c 1),(get c 2)] k).length=n0):
 Evt (fun _=>G2 (X9 c k) n0 ()) (ExP (fun _=>∀x∈get [(get c 0),(get c 1),(get c 2)] k,A8 x) (fun r=>r= .ret (ZS,x6.mk 11 0)∧∃x∈get [(get c 0),(get c 1),(get c 2)] k,¬A8 x)):=by
 refine(Evt.range (I:=fun j _=>∀i,i<j→A8 (get (get [(get c 0),(get c 1),(get c 2)] k) i)) (B:=fun _=>False) (R:=fun r=>r= .ret (ZS,x6.mk 11 0)∧∃x∈get [(get c 0),(get c 1),(get c 2)] k,¬A8 x) (fun i hi=>absurd hi (Nat.not_lt_zero _)) (fun j u hj hi=>?_)).mono fun r hr=>?_
 ·unfold X9
  refine Evt.bind (eM _) fun v hv=>?_
  refine Evt.cond (fun e=>?_) (fun e=>Evt.pure fun i hij=>?_)
  ·rw[qv]
   refine Evt.pure ⟨rfl,_,get_mem (show j<(get [(get c 0),(get c 1),(get c 2)] k).length by omega),fun h=>?_⟩
   rw[hv,jl h]at e
   cases e
  ·by_cases Nj:i=j
   ·subst Nj
    refine(Z6 hv).1 ?_
    simpa using e
   ·exact hi i (by omega)
 ·cases r with
  |ret x=>exact hr
  |nxt t=>
   rcases hr with hr|hr
   ·intro x hx
    obtain⟨i,hi,rfl⟩:=List.getElem_of_mem hx
    have:=hr i (by omega)
    rw[IZ _ hi]at this
    exact this
   ·exact hr.elim
theorem Lb{v4:List Bs}(hv:v4.length=3)(hl:∀x∈v4,x.length≤4000){k:Nat}(hk:k<3)(s:List Bs×List Bs×List Bs):
 Evt (fun _=>S1 v4 k s) (zC (fun t=>(∀x∈sp (get v4 k),A8 x)∧(get v4 k=[]→t=s)∧(get v4 k≠ []→t=(get ([s.1,s.2.1,s.2.2].set k (sp (get v4 k))) 0,get ([s.1,s.2.1,s.2.2].set k (sp (get v4 k))) 1,get ([s.1,s.2.1,s.2.2].set k (sp (get v4 k))) 2)))
  (fun _=>False) (fun r=>r=(ZS,x6.mk 11 0)∧∃x∈sp (get v4 k),¬A8 x)):=by
 unfold S1
 refine Evt.cond (fun e=>Evt.pure ?_) (fun e=>?_)
 ·have e':get v4 k=[]:=by simpa using e
  refine⟨fun x hx=>?_,fun _=>rfl,fun h=>absurd e' h⟩
  unfold sp at hx
  rw[if_pos e']at hx
  cases hx
 ·have e':get v4 k≠ []:=by simpa using e
  have hsp:sp (get v4 k)=Lib.split (get v4 k) [32]:=by unfold sp;rw[if_neg e']
  have hlen:=hl _ (get_mem (show k<v4.length by omega))
  refine Evt.bind (P:=fun v=>v=sp (get v4 k)) ?_ fun v16 hv16=>?_
  ·unfold qw
   exact Evt.chk ⟨by omega,by simp⟩ (Evt.pure hsp.symm)
  subst hv16
  refine Evt.chk (by omega) (Evt.aB ?_)
  have hg:get [(get ([s.1,s.2.1,s.2.2].set k (sp (get v4 k))) 0),(get ([s.1,s.2.1,s.2.2].set k (sp (get v4 k))) 1),(get ([s.1,s.2.1,s.2.2].set k (sp (get v4 k))) 2)] k=sp (get v4 k):=by
   match k,hk with
   |0,_=>rfl
   |1,_=>rfl
   |2,_=>rfl
  have hb:=La ([s.1,s.2.1,s.2.2].set k (sp (get v4 k))) k _ rfl
  refine Evt.B2 hb (fun t ht=>?_) (fun r hr=>?_)
  ·unfold aI
   have ht':∀x∈get [(get ([s.1,s.2.1,s.2.2].set k (sp (get v4 k))) 0),(get ([s.1,s.2.1,s.2.2].set k (sp (get v4 k))) 1),(get ([s.1,s.2.1,s.2.2].set k (sp (get v4 k))) 2)] k,A8 x:=ht
   rw[hg]at ht'
   exact Evt.pure ⟨ht',fun h=>absurd h e',fun _=>rfl⟩
  ·obtain⟨rfl,x,hx,hn⟩:=hr
   rw[hg]at hx
   exact⟨rfl,x,hx,hn⟩
theorem Db{x0 x1 x2:Bs}(hl:∀x∈ [x0,x1,x2],x.length≤4000):
 Evt (fun _=>G2 (S1 [x0,x1,x2]) [x0,x1,x2].length ([],[],[])) (ExP (fun t=>t=(sp x0,sp x1,sp x2)∧∀x∈sp x0++sp x1++sp x2,A8 x) (fun r=>r=(ZS,x6.mk 11 0)∧∃x∈sp x0++sp x1++sp x2,¬A8 x)):=by
 refine(Evt.range (I:=fun k t=>t=(if 0<k then sp x0 else [],if 1<k then sp x1 else [],if 2<k then sp x2 else [])∧(0<k→∀x∈sp x0,A8 x)∧(1<k→∀x∈sp x1,A8 x)∧(2<k→∀x∈sp x2,A8 x)) (B:=fun _=>False)
  (R:=fun r=>r=(ZS,x6.mk 11 0)∧∃x∈sp x0++sp x1++sp x2,¬A8 x) ⟨rfl,fun h=>absurd h (by decide),fun h=>absurd h (by decide),fun h=>absurd h (by decide)⟩ (fun k s hk hi=>?_)).mono fun r hr=>?_
 ·have hk3:k<3:=hk
  obtain⟨rfl,h0,h1,h2⟩:=hi
  refine(Lb (v4:=[x0,x1,x2]) rfl hl hk3 _).mono fun c hc=>?_
  cases c with
  |brk t=>exact hc
  |ret x=>
   obtain⟨e,x,hx,hn⟩:=hc
   refine⟨e,x,?_,hn⟩
   match k,hk3,hx with
   |0,_,hx=>exact List.mem_append_left _ (List.mem_append_left _ hx)
   |1,_,hx=>exact List.mem_append_left _ (List.mem_append_right _ hx)
   |2,_,hx=>exact List.mem_append_right _ hx
  |nxt t=>
   obtain⟨a1,a2,a3⟩:=hc
   match k,hk3,a1,a2,a3,h0,h1,h2 with
   |0,_,a1,a2,a3,h0,h1,h2=>
    refine⟨?_,fun _=>a1,fun h=>absurd h (by decide),fun h=>absurd h (by decide)⟩
    by_cases e:x0=[]
    ·rw[a2 e,e];rfl
    ·rw[a3 e];rfl
   |1,_,a1,a2,a3,h0,h1,h2=>
    refine⟨?_,fun _=>h0 (by decide),fun _=>a1,fun h=>absurd h (by decide)⟩
    by_cases e:x1=[]
    ·rw[a2 e,e];rfl
    ·rw[a3 e];rfl
   |2,_,a1,a2,a3,h0,h1,h2=>
    refine⟨?_,fun _=>h0 (by decide),fun _=>h1 (by decide),fun _=>a1⟩
    by_cases e:x2=[]
    ·rw[a2 e,e];rfl
    ·rw[a3 e];rfl
 ·cases r with
  |ret x=>exact hr
  |nxt t=>
   rcases hr with⟨rfl,h0,h1,h2⟩|hr
   ·refine⟨rfl,fun x hx=>?_⟩
    rcases List.mem_append.1 hx with hx|hx
    ·rcases List.mem_append.1 hx with hx|hx
     ·exact h0 (by simp) x hx
     ·exact h1 (by simp) x hx
    ·exact h2 (by simp) x hx
   ·exact hr.elim
def hdS(s:w8):Bs:=[91]++Lib.join s.words [32]++[124]++Lib.join s.B1 [32]++[124]++Lib.join s.parts [32]
def txS(s:w8)(t:Bs):Bs:=hdS s++[93,32]++t
theorem Nk{l:List Bs}(h:l.length=3):∃a b c,l=[a,b,c]:=by
 match l,h with
 | [a,b,c],_=>exact⟨a,b,c,rfl⟩
theorem tJ(T:Bs)(P:u6×x6→Prop)(hP:Evt (fun n=>U7 n (Lib.cut T [93,32]).2.1) P):Evt (fun n=>V0 n T) (fun r=>
 (4000<T.length∧r=(ZS,⟨1,0⟩))∨(T.length≤4000∧
  ((¬((Lib.cut T [93,32]).2.2=true∧∃g,(Lib.cut T [93,32]).1=91::g∧(Lib.split g [124]).length=3)∧r=(ZS,⟨11,0⟩))∨
   ((Lib.cut T [93,32]).2.2=true∧∃g x0 x1 x2,(Lib.cut T [93,32]).1=91::g∧Lib.split g [124]=[x0,x1,x2]∧
    (((∃x∈sp x0++sp x1++sp x2,¬A8 x)∧r=(ZS,⟨11,0⟩))∨
     (∀x∈sp x0++sp x1++sp x2,A8 x)∧∃p,P p∧((p.2.code≠0∧r.2.code=p.2.code∧r.1=ZS)∨
      (p.2.code=0∧∃v,xI ⟨p.1,sp x0,sp x1,sp x2⟩ v∧((v.code≠0∧r=(ZS,v))∨(v.code=0∧r=(⟨p.1,sp x0,sp x1,sp x2⟩,⟨0,0⟩)))))))))):=by
 unfold V0
 refine Evt.cond (fun e=>?_) (fun e=>?_)
 ·rw[qv]
  replace e:=bx e
  exact Evt.pure (.inl ⟨by omega,rfl⟩)
 replace e:=bx e
 have hT:T.length≤4000:=by omega
 obtain⟨h,rest,ok,Fx⟩:∃h rest ok,Lib.cut T [93,32]=(h,rest,ok):=⟨_,_,_,rfl⟩
 have hP':Evt (fun n=>U7 n rest) P:=by
  have:=hP
  rw[Fx]at this
  exact this
 have hh:h.length≤4000:=by
  have:h=(Lib.cut T [93,32]).1:=by rw[Fx]
  rw[this]
  unfold Lib.cut
  split
  ·simp only[List.length_take];omega
  ·exact hT
 refine Evt.bind (P:=fun v=>v=(h,rest,ok)) ?_ fun v2 hv=>?_
 ·unfold Lc
  exact Evt.chk (by omega) (Evt.pure Fx)
 subst hv
 rw[Fx]
 have hpT:∀g:Bs,B5 (91::g) [91]=some true:=fun g=>by
  unfold B5
  have h1:((1:Nat):Int)≤((g.length+1:Nat):Int):=by omega
  simp[Am.chk,cg]
  omega
 have hpF:∀x:Bs,(¬ ∃g,x=91::g)→B5 x [91]=some false:=fun x hx=>by
  unfold B5
  cases x with
  |nil=>simp[Am.chk,cg]
  |cons c l=>
   have hc:¬c=91:=fun e=>hx ⟨l,by rw[e]⟩
   simp[Am.chk,cg,hc]
 by_cases hg:∃g,h=91::g
 ·obtain⟨g,rfl⟩:=hg
  have e1:L9 (91::g) [91]=some g:=by
   unfold L9 E4
   rw[hpT]
   simp[Am.chk]
  have e2:O7 (91::g) [91]=some true:=by
   unfold O7
   rw[hpT]
   simp
  have hgl:g.length≤4000:=by simp at hh;omega
  have hsl:Lib.join (Lib.split g [124]) [124]=g:=lV g [124]
  rw[e1]
  refine Evt.bind (P:=fun v=>v=g) (Evt.pure rfl) fun v3 hv=>?_
  subst hv
  refine Evt.bind (P:=fun v=>v=Lib.split v3 [124]) ?_ fun v4 hv=>?_
  ·unfold qw
   exact Evt.chk ⟨by omega,by simp⟩ (Evt.pure rfl)
  subst hv
  rw[e2]
  refine Evt.bind (P:=fun v=>ok=true→v=true) (Evt.gd (fun _=>Evt.pure fun _=>rfl) (fun e ho=>by rw[ho]at e;cases e)) fun v5 hv5=>?_
  refine Evt.cond (fun e=>?_) (fun e=>?_)
  ·rw[qv]
   refine Evt.pure (.inr ⟨hT,.inl ⟨fun⟨a,g',b,c⟩=>?_,rfl⟩⟩)
   replace a:ok=true:=a
   obtain rfl:v3=g':=(List.cons.inj b).2
   rw[a,hv5 a,c]at e
   simp at e
  ·have hok:ok=true:=by
    cases ok with
    |true=>rfl
    |false=>simp at e
   have h3:(Lib.split v3 [124]).length=3:=by
    rw[hok,hv5 hok]at e
    simp at e
    omega
   obtain⟨x0,x1,x2,hx⟩:=Nk h3
   rw[hx]at hsl⊢
   have hl:∀x∈ [x0,x1,x2],x.length≤4000:=fun x hx=>by
    have:=jX [124] _ x hx
    rw[hsl]at this
    omega
   have wM:∀x:Bs,x.length≤4000→(sp x).length≤4001∧∀y∈sp x,y.length≤4000:=fun x hx=>by
    have:=lX x
    refine⟨?_,fun y hy=>?_⟩
    ·have:=oT 32 (sp x)
     rw[lX]at this
     omega
    ·have:=jX [32] _ y hy
     rw[lX]at this
     omega
   refine Evt.B2 (Db hl) (fun t ht=>?_) (fun r hr=>?_)
   ·obtain⟨rfl,hnm⟩:=ht
    unfold aJ
    refine Evt.bind hP' fun p hp=>?_
    refine Evt.cond (fun e3=>?_) (fun e3=>?_)
    ·rw[qv]
     exact Evt.pure (.inr ⟨hT,.inr ⟨hok,v3,x0,x1,x2,rfl,hx,.inr ⟨hnm,p,hp,.inl ⟨by simpa using e3,rfl,rfl⟩⟩⟩⟩)
    ·have hsb:SB ⟨p.1,sp x0,sp x1,sp x2⟩:=Fl ⟨by have:=(wM x0 (hl x0 (by simp))).1;show(sp x0).length≤_;omega,fun y hy=>by have:=(wM x0 (hl x0 (by simp))).2 y hy;omega⟩
      ⟨by have:=(wM x1 (hl x1 (by simp))).1;show(sp x1).length≤_;omega,fun y hy=>by have:=(wM x1 (hl x1 (by simp))).2 y hy;omega⟩
      ⟨by have:=(wM x2 (hl x2 (by simp))).1;show(sp x2).length≤_;omega,fun y hy=>by have:=(wM x2 (hl x2 (by simp))).2 y hy;omega⟩
     refine Evt.bind (oN hsb) fun v27 hv27=>?_
     refine Evt.cond (fun e4=>Evt.pure ?_) (fun e4=>Evt.pure ?_)
     ·exact .inr ⟨hT,.inr ⟨hok,v3,x0,x1,x2,rfl,hx,.inr ⟨hnm,p,hp,.inr ⟨by simpa using e3,v27,hv27,.inl ⟨by simpa using e4,rfl⟩⟩⟩⟩⟩
     ·exact .inr ⟨hT,.inr ⟨hok,v3,x0,x1,x2,rfl,hx,.inr ⟨hnm,p,hp,.inr ⟨by simpa using e3,v27,hv27,.inr ⟨by simpa using e4,rfl⟩⟩⟩⟩⟩
   ·exact .inr ⟨hT,.inr ⟨hok,v3,x0,x1,x2,rfl,hx,.inl ⟨hr.2,hr.1⟩⟩⟩
 ·have e1:L9 h [91]=some h:=by
   unfold L9 E4
   rw[hpF h hg]
   simp
  have e2:O7 h [91]=some false:=by
   unfold O7
   rw[hpF h hg]
   simp
  rw[e1]
  refine Evt.bind (P:=fun v=>v=h) (Evt.pure rfl) fun v3 hv=>?_
  refine Evt.bind (P:=fun _=>True) ?_ fun v4 _=>?_
  ·subst hv
   unfold qw
   exact Evt.chk ⟨by omega,by simp⟩ (Evt.pure trivial)
  rw[e2]
  refine Evt.bind (P:=fun v=>ok=true→v=false) (Evt.gd (fun _=>Evt.pure fun _=>rfl) (fun e ho=>by rw[ho]at e;cases e)) fun v5 hv5=>?_
  refine Evt.cond (fun e=>?_) (fun e=>?_)
  ·rw[qv]
   exact Evt.pure (.inr ⟨hT,.inl ⟨fun⟨_,g',b,_⟩=>hg ⟨g',b⟩,rfl⟩⟩)
  ·exfalso
   cases ok with
   |false=>simp at e
   |true=>rw[hv5 rfl]at e;simp at e
theorem Bb{x:Bs}(h:A8 x){c:UInt8}(hc:¬OkC (c.toNat:Int)):c∉x:=fun hm=>by
 obtain⟨i,hi,he⟩:=List.getElem_of_mem hm
 have:=h.2.2.2 i hi
 unfold B3 at this
 rw[Int.toNat_natCast,List.getD_eq_getElem?_getD,List.getElem?_eq_getElem hi,he]at this
 exact hc this
theorem rG{c d:UInt8}(hcd:c≠d):∀ws:List Bs,(∀x∈ws,c∉x)→c∉Lib.join ws [d]
 | [],_=>by simp[Lib.join_nil]
 | [y],h=>by rw[Lib.join_one];exact h y (by simp)
 |y::z::l,h=>by
  rw[bK _ _ (by simp)]
  have h1:=rG hcd (z::l) (fun x hx=>h x (List.mem_cons_of_mem _ hx))
  have h2:=h y (by simp)
  simp only[List.mem_append,List.mem_singleton,not_or]
  exact⟨⟨h2,hcd⟩,h1⟩
theorem Ja:∀(m:Nat) (f:u6),SizeOf.sizeOf f≤m→WfF f→∀t,L8 f=some t→t.length≤130*ndF f:=by
 intro m
 induction m with
 |zero=>intro f h;cases f;simp only[u6.mk.sizeOf_spec]at h;omega
 |succ m ih=>
  intro f hf hw t ht
  have tt:∀x,WfF x→∃u,L8 x=some u:=fun x hx=>rF _ x (Nat.le_refl _) hx
  rcases nr hw with rfl|⟨n,ws,rfl,hws,hn,hwn⟩|⟨a,b,rfl,ha,hb⟩|⟨x,rfl,hx⟩|⟨k,x,y,hk,rfl,hx,hy⟩|⟨k,n,x,hk,rfl,hn,hx⟩
  ·obtain rfl:=Option.some.inj (ht.symm.trans Iz)
   rw[mK]
   simp
   omega
  ·obtain rfl:=Option.some.inj (ht.symm.trans (IB n ws))
   have h1:=join_le 44 30 ws (fun x hx=>(hwn x hx).2.1)
   have h2:=hn.2.1
   rw[mK]
   simp only[List.length_append,List.length_cons,List.length_nil]
   omega
  ·obtain rfl:=Option.some.inj (ht.symm.trans (IC a b))
   have h1:=ha.2.1
   have h2:=hb.2.1
   rw[mK]
   simp only[List.length_append,List.length_cons,List.length_nil]
   omega
  ·obtain⟨u,hu⟩:=tt x hx
   obtain rfl:=Option.some.inj (ht.symm.trans (IE hu))
   have h1:=ih x (by simp at hf;omega) hx u hu
   rw[mK,aD,aD]
   simp only[List.length_append,List.length_cons,List.length_nil]
   omega
  ·obtain⟨u,hu⟩:=tt x hx
   obtain⟨v,hv⟩:=tt y hy
   obtain rfl:=Option.some.inj (ht.symm.trans (IJ hk hu hv))
   have h1:=ih x (by simp at hf;omega) hx u hu
   have h2:=ih y (by simp at hf;omega) hy v hv
   obtain⟨c,hs,_⟩:=Fq hk
   rw[mK,aD,aD,aD,hs]
   simp only[List.length_append,List.length_cons,List.length_nil]
   omega
  ·obtain⟨u,hu⟩:=tt x hx
   have h1:=ih x (by simp at hf;omega) hx u hu
   have h2:=hn.2.1
   rw[mK,aD,aD]
   rcases hk with rfl|rfl
   ·obtain rfl:=Option.some.inj (ht.symm.trans (IG hu))
    simp only[List.length_append,List.length_cons,List.length_nil]
    omega
   ·obtain rfl:=Option.some.inj (ht.symm.trans (II hu))
    simp only[List.length_append,List.length_cons,List.length_nil]
    omega
theorem nu{s:w8}(h:OkS s):(s.words.length≤300∧s.B1.length≤300∧s.parts.length≤300)∧(∀x∈s.words,A8 x)∧(∀x∈s.B1,A8 x)∧∀x∈s.parts,A8 x:=by
 have g:=h.good
 have h1:=g.len
 have hn:=g.name
 unfold vns at h1 hn
 simp only[List.length_append]at h1
 refine⟨⟨by omega,by omega,by omega⟩,fun x hx=>hn x (by simp[hx]),fun x hx=>hn x (by simp[hx]),fun x hx=>hn x (by simp[hx])⟩
theorem Ld{s:w8}(h:OkS s):SB s:=by
 obtain⟨⟨a,b,c⟩,d,e,f⟩:=nu h
 exact Fl ⟨by omega,fun x hx=>by have:=(d x hx).2.1;omega⟩ ⟨by omega,fun x hx=>by have:=(e x hx).2.1;omega⟩ ⟨by omega,fun x hx=>by have:=(f x hx).2.1;omega⟩
theorem wD{s:w8}(hb:SB s):Evt (fun n=>V1 n s) (fun r=>∃v,xI s v∧((v.code≠0∧r=([],v))∨(v.code=0∧OkS s∧∃t,L8 s.form=some t∧((4000<(txS s t).length∧r=([],⟨1,0⟩))∨((txS s t).length≤4000∧r=(txS s t,⟨0,0⟩)))))):=by
 unfold V1
 refine Evt.bind (oN hb) fun v hv=>?_
 refine Evt.cond (fun e=>Evt.pure ⟨v,hv,.inl ⟨by simpa using e,rfl⟩⟩) (fun e=>?_)
 have h0:v.code=0:=by simpa using e
 obtain⟨hok,_⟩:=hv.code h0
 obtain⟨⟨n1,n2,n3⟩,o1,o2,o3⟩:=nu hok
 have Fy:=hok.good.form
 obtain⟨t,ht⟩:=rF _ s.form (Nat.le_refl _) Fy.1
 have htl:=Ja _ s.form (Nat.le_refl _) Fy.1 t ht
 have hnd:=Fy.2.1
 have j1:=join_le 32 30 s.words (fun x hx=>(o1 x hx).2.1)
 have j2:=join_le 32 30 s.B1 (fun x hx=>(o2 x hx).2.1)
 have j3:=join_le 32 30 s.parts (fun x hx=>(o3 x hx).2.1)
 have js:∀l:List Bs,(Lib.join l [32]).length≤31*l.length→l.length≤300→xM l [32]=some (Lib.join l [32]):=fun l h1 h2=>by
  unfold xM Am.chk
  rw[if_pos (by rw[eL];omega)]
 have jt:gW s.form=some t:=by
  unfold gW
  rw[ht]
  show chk (t.length≤top) (some t)=_
  unfold Am.chk
  rw[if_pos (by rw[eL];omega)]
 rw[js _ j1 n1,js _ j2 n2,js _ j3 n3,jt]
 refine Evt.bind (P:=fun x=>x=Lib.join s.words [32]) (Evt.pure rfl) fun v2 hv2=>?_
 subst hv2
 refine Evt.chk (by unfold P8;simp;omega) (Evt.chk (by unfold P8 bX;simp;omega) ?_)
 refine Evt.bind (P:=fun x=>x=Lib.join s.B1 [32]) (Evt.pure rfl) fun v5 hv5=>?_
 subst hv5
 refine Evt.chk (by unfold P8 bX;simp;omega) (Evt.chk (by unfold P8 bX;simp;omega) ?_)
 refine Evt.bind (P:=fun x=>x=Lib.join s.parts [32]) (Evt.pure rfl) fun v8 hv8=>?_
 subst hv8
 refine Evt.chk (by unfold P8 bX;simp;omega) (Evt.chk (by unfold P8 bX;simp;omega) ?_)
 refine Evt.bind (P:=fun x=>x=t) (Evt.pure rfl) fun v11 hv11=>?_
 subst hv11
 refine Evt.chk (by unfold P8 bX;simp;omega) ?_
 refine Evt.cond (fun e2=>?_) (fun e2=>Evt.pure ?_)
 ·rw[qv]
  refine Evt.pure ⟨v,hv,.inr ⟨h0,hok,v11,ht,.inl ⟨?_,rfl⟩⟩⟩
  have:(4000:Int)<((txS s v11).length:Int):=of_decide_eq_true e2
  omega
 ·refine⟨v,hv,.inr ⟨h0,hok,v11,ht,.inr ⟨?_,rfl⟩⟩⟩
  have:¬(4000:Int)<((txS s v11).length:Int):=of_decide_eq_false e2
  omega
theorem xO{f:u6}(h:OkF f){t:Bs}(ht:L8 f=some t)(hl:t.length≤4000):Evt (fun n=>U7 n t) (fun r=>r=(f,⟨0,0⟩)):=by
 unfold U7
 refine Evt.cond (fun e=>by replace e:=bx e;omega) (fun _=>?_)
 have:=Fw hl _ f (Nat.le_refl _) h.1 1 t (by have:=h.2.2;omega) ht 0 0 0 [] (by simp) (Nat.zero_le _) Ft (by have:=h.2.1;omega)
 refine Evt.bind this fun v1 hv=>?_
 subst hv
 refine Evt.cond (fun e=>by simp at e) (fun _=>?_)
 unfold S9
 exact Evt.cond (fun e=>by simp at e) (fun _=>Evt.pure rfl)
theorem wE(s:w8):hdS s=91::Lib.join [Lib.join s.words [32],Lib.join s.B1 [32],Lib.join s.parts [32]] [124]:=by
 unfold hdS
 rw[bK _ _ (by simp),bK _ _ (by simp),Lib.join_one]
 simp
theorem xP{s:w8}(h:OkS s){t:Bs}(ht:L8 s.form=some t)(hl:(txS s t).length≤4000):Evt (fun n=>V0 n (txS s t)) (fun r=>r=(s,⟨0,0⟩)):=by
 obtain⟨_,o1,o2,o3⟩:=nu h
 have n93:∀l:List Bs,(∀x∈l,A8 x)→(93:UInt8)∉Lib.join l [32]:=fun l hl=>rG (by decide) l fun x hx=>Bb (hl x hx) (by unfold OkC;decide)
 have n124:∀l:List Bs,(∀x∈l,A8 x)→(124:UInt8)∉Lib.join l [32]:=fun l hl=>rG (by decide) l fun x hx=>Bb (hl x hx) (by unfold OkC;decide)
 have hno:(93:UInt8)∉hdS s:=by
  rw[wE]
  have hj:(93:UInt8)∉Lib.join [Lib.join s.words [32],Lib.join s.B1 [32],Lib.join s.parts [32]] [124]:=rG (by decide) _ fun x hx=>by
   simp only[List.mem_cons,List.not_mem_nil,or_false]at hx
   rcases hx with rfl|rfl|rfl
   ·exact n93 _ o1
   ·exact n93 _ o2
   ·exact n93 _ o3
  intro hm
  rcases List.mem_cons.1 hm with hm|hm
  ·exact absurd hm (by decide)
  ·exact hj hm
 have Fx:Lib.cut (txS s t) [93,32]=(hdS s,t,true):=IX hno
 have hsp:Lib.split (Lib.join [Lib.join s.words [32],Lib.join s.B1 [32],Lib.join s.parts [32]] [124]) [124]=[Lib.join s.words [32],Lib.join s.B1 [32],Lib.join s.parts [32]]:=by
  refine lW 124 _ (by simp) fun x hx=>?_
  simp only[List.mem_cons,List.not_mem_nil,or_false]at hx
  rcases hx with rfl|rfl|rfl
  ·exact n124 _ o1
  ·exact n124 _ o2
  ·exact n124 _ o3
 have htl:t.length≤4000:=by
  unfold txS at hl
  simp only[List.length_append]at hl
  omega
 refine(tJ (txS s t) (fun p=>p=(s.form,⟨0,0⟩)) (by rw[Fx];exact xO h.good.form ht htl)).mono fun r hr=>?_
 rw[Fx]at hr
 rcases hr with⟨h1,_⟩|⟨_,hr⟩
 ·omega
 rcases hr with⟨h1,_⟩|⟨_,g,x0,x1,x2,h1,h2,hr⟩
 ·exact absurd ⟨rfl,_,wE s,by rw[hsp];rfl⟩ h1
 rw[wE]at h1
 obtain rfl:=(List.cons.inj h1).2
 rw[hsp]at h2
 simp only[List.cons.injEq,and_true]at h2
 obtain⟨rfl,rfl,rfl⟩:=h2
 rw[uX o1,uX o2,uX o3]at hr
 rcases hr with⟨⟨x,hx,hn⟩,_⟩|⟨_,p,rfl,hr⟩
 ·refine absurd ?_ hn
  rcases List.mem_append.1 hx with hx|hx
  ·rcases List.mem_append.1 hx with hx|hx
   ·exact o1 x hx
   ·exact o2 x hx
  ·exact o3 x hx
 rcases hr with⟨h3,_⟩|⟨_,v,hv,hr⟩
 ·exact absurd rfl h3
 have hv':xI s v:=hv
 have hv0:=hv'.ok h
 rcases hr with⟨h3,_⟩|⟨_,hr⟩
 ·rw[hv0]at h3
  exact absurd rfl h3
 ·exact hr
theorem Jb{s:w8}{t:Bs}{x0 x1 x2 g:Bs}(hg:Lib.split g [124]=[x0,x1,x2])(h0:s.words=sp x0)(h1:s.B1=sp x1)(h2:s.parts=sp x2):txS s t=(91::g)++[93,32]++t:=by
 have e:=lV g [124]
 rw[hg]at e
 unfold txS
 rw[wE,h0,h1,h2,lX,lX,lX,e]
theorem Bc:Evt (fun n=>J2 n ZS.form) (fun b=>b=true):=by
 unfold J2
 refine Evt.bind (P:=fun v=>v=true) (kZ _ _ (Nat.le_refl _) ?_) fun v hv=>Evt.pure hv
 show SmF (.mk 0 [] [] [])
 rw[SmF]
 exact⟨by decide,by decide,by rw[qp];trivial⟩
theorem rH(T:Bs):Evt (fun n=>B6 n T ()) (fun b=>b=true):=by
 unfold B6
 have zero:∀r:w8×x6,r.1=ZS→r.2.code≠0→Evt (fun n=>bif (!decide (r.2.code=0))then
  (J2 n r.1.form).bind fun v10=>some (bif (bif (bif v10 then(decide ((↑r.1.words.length:Int)=0))else false)then(decide ((↑r.1.B1.length:Int)=0))else false)then(decide ((↑r.1.parts.length:Int)=0))else false)
  else
   (V1 n r.1).bind fun v11=>some (bif (decide (v11.2.code=0))then(decide (v11.1=T))else false)) (fun b=>b=true):=fun r h1 h2=>by
  refine Evt.cond (fun _=>?_) (fun e=>by simp[h2]at e)
  rw[h1]
  refine Evt.bind Bc fun v hv=>Evt.pure ?_
  subst hv
  rfl
 refine Evt.bind (tJ T _ (AV _)) fun r hr=>?_
 rcases hr with⟨_,rfl⟩|⟨hT,⟨_,rfl⟩|⟨hok,g,x0,x1,x2,h1,h2,⟨_,rfl⟩|⟨hnm,p,hp,⟨h3,h4,h5⟩|⟨h3,v,hv,⟨h4,rfl⟩|⟨h4,rfl⟩⟩⟩⟩⟩
 ·exact zero _ rfl (by decide)
 ·exact zero _ rfl (by decide)
 ·exact zero _ rfl (by decide)
 ·exact zero _ h5 (by rw[h4];exact h3)
 ·exact zero _ rfl h4
 ·refine Evt.cond (fun e=>by simp at e) (fun _=>?_)
  obtain⟨hS,_⟩:=hv.code h4
  refine Evt.bind (wD (Ld hS)) fun r ⟨v',hv',hr⟩=>Evt.pure ?_
  obtain⟨_,htx⟩:=hp.1 h3
  have hT2:=IY hok
  have Nl:txS ⟨p.1,sp x0,sp x1,sp x2⟩ (Lib.cut T [93,32]).2.1=T:=by
   rw[Jb h2 rfl rfl rfl, ←h1]
   exact hT2.symm
  have hv0:=hv'.ok hS
  rcases hr with⟨h6,_⟩|⟨_,_,t,ht,hr⟩
  ·rw[hv0]at h6
   exact absurd rfl h6
  ·obtain rfl:(Lib.cut T [93,32]).2.1=t:=Option.some.inj (htx.symm.trans ht)
   rw[Nl]at hr
   rcases hr with⟨h7,_⟩|⟨_,rfl⟩
   ·omega
   ·simp
theorem oE{s:w8}(hb:SB s)(T:Bs):Evt (fun n=>J7 n s T) (fun b=>b=true):=by
 unfold J7
 refine Evt.bind jW fun v hv=>?_
 subst hv
 refine Evt.cond (fun e=>by cases e) (fun _=>?_)
 refine Evt.bind (wD hb) fun r ⟨v,hv,hr⟩=>Evt.bind (pG hb) fun v3 hv3=>?_
 obtain rfl:=hv.uniq hv3
 rcases hr with⟨h0,rfl⟩|⟨h0,hok,t,ht,hr⟩
 ·refine Evt.cond (fun _=>?_) (fun e=>by simp[h0]at e)
  refine Evt.cond (fun e=>by simp at e) (fun _=>rH T)
 ·refine Evt.cond (fun e=>by simp[h0]at e) (fun _=>?_)
  rcases hr with⟨_,rfl⟩|⟨hl,rfl⟩
  ·refine Evt.cond (fun e=>by simp at e) (fun _=>?_)
   exact Evt.cond (fun e=>by simp at e) (fun _=>rH T)
  ·refine Evt.cond (fun _=>?_) (fun e=>by simp at e)
   obtain⟨⟨n1,n2,n3⟩,_⟩:=nu hok
   refine Evt.bind (xP hok ht hl) fun v4 hv4=>?_
   subst hv4
   refine Evt.bind (P:=fun b=>b=true) (Evt.gd (fun _=>kZ _ _ (Nat.le_refl _) (WfF.sm _ hok.good.form.1)) (fun e=>by simp at e)) fun v5 hv5=>?_
   subst hv5
   refine Evt.bind (P:=fun b=>b=true) (Evt.gd (fun _=>cT (show s.words.length≤8000000 by omega)) (fun e=>by simp at e)) fun v6 hv6=>?_
   subst hv6
   refine Evt.bind (P:=fun b=>b=true) (Evt.gd (fun _=>cT (show s.B1.length≤8000000 by omega)) (fun e=>by simp at e)) fun v7 hv7=>?_
   subst hv7
   refine Evt.bind (P:=fun b=>b=true) (Evt.gd (fun _=>cT (show s.parts.length≤8000000 by omega)) (fun e=>by simp at e)) fun v8 hv8=>?_
   subst hv8
   exact Evt.cond (fun e=>by simp at e) (fun _=>rH T)
end Go.Proofs.YtahjhbkhcaphgaaGreatDoor
#print axioms Go.Proofs.YtahjhbkhcaphgaaGreatDoor.oE
