import Derived.Test.YtonfgoanbllceaaGreatDoorABase
set_option linter.unusedVariables false
set_option linter.unusedSimpArgs false
set_option maxHeartbeats 2000000
set_option maxRecDepth 100000
namespace Go.Proofs.YtonfgoanbllceaaGreatDoor
open Go Go.Am
abbrev kW:=C1
def uc(self:w6→Int→Nat→Option (List kW))(t:w6)(at_:Nat)(k:Nat)(s:List Int×List kW):Option (Ctl (List kW) (List Int×List kW) (List Int×List kW)):=
 (self (Am.get t.args k) (at_:Int) (at_+1+s.2.length)).bind fun v=>
 some (.nxt (s.1++[((at_+1+s.2.length:Nat):Int)],s.2++v))
def tZ:Nat→w6→Int→Nat→Option (List kW)
 |0,_,_,_=>none
 |n+1,t,up,at_=>
  chk ((at_+1)*104≤top) <|
  C2 (D1 (uc (tZ n) t at_) t.args.length ([],[])) fun s=>some (⟨t.kind,t.name,t.type,t.index,s.1,up⟩::s.2)
def Sy(r:kW)(kc:D):List D:=[.int .i64 r.kind,.str r.name,.str r.typ.base,.sl false 2 40 (rows u0.cells r.typ.args),.int .i64 r.index,kc,.int .i64 r.up]
def CT(base:Nat)(N:St)(ks:List Int)(kc:D):Prop:=(kc= .B3∧ks=[])∨∃j g,kc= .ref false (base+j) g 0 ks.length∧N[j]? =some (some (.arr g 1 8 (rows N3 ks)))
inductive Rep(base:Nat)(N:St):List (List D)→List kW→Prop
 |nil:Rep base N [] []
 |cons (r:kW) (kc:D) (E:List (List D)) (T:List kW) (h:CT base N r.kids kc) (t:Rep base N E T):Rep base N (Sy r kc::E) (r::T)
theorem Rep.len{base:Nat}{N:St}{E:List (List D)}{T:List kW}(h:Rep base N E T):E.length=T.length:=by
 induction h with
 |nil=>rfl
 |cons r kc E T _ _ ih=>simp[ih]
theorem CT.app{base:Nat}{N M:St}{ks:List Int}{kc:D}(h:CT base N ks kc):CT base (N++M) ks kc:=by
 rcases h with h|⟨j,g,h1,h2⟩
 ·exact .inl h
 ·exact .inr ⟨j,g,h1,by rw[List.getElem?_append_left (List.getElem?_eq_some_iff.1 h2).1];exact h2⟩
theorem CT.shift{base:Nat}{A N:St}{ks:List Int}{kc:D}(h:CT (base+A.length) N ks kc):CT base (A++N) ks kc:=by
 rcases h with h|⟨j,g,h1,h2⟩
 ·exact .inl h
 ·exact .inr ⟨A.length+j,g,by rw[h1,Nat.add_assoc],by rw[List.getElem?_append_right (by omega),Nat.add_sub_cancel_left];exact h2⟩
theorem Rep.app{base:Nat}{N M:St}{E:List (List D)}{T:List kW}(h:Rep base N E T):Rep base (N++M) E T:=by
 induction h with
 |nil=>exact .nil
 |cons r kc E T h _ ih=>exact .cons r kc E T h.app ih
theorem Rep.shift{base:Nat}{A N:St}{E:List (List D)}{T:List kW}(h:Rep (base+A.length) N E T):Rep base (A++N) E T:=by
 induction h with
 |nil=>exact .nil
 |cons r kc E T h _ ih=>exact .cons r kc E T h.shift ih
theorem Rep.Tq{base:Nat}{N:St}{E F:List (List D)}{T U:List kW}(h:Rep base N E T)(k:Rep base N F U):Rep base N (E++F) (T++U):=by
 induction h with
 |nil=>exact k
 |cons r kc E T h _ ih=>exact .cons r kc (E++F) (T++U) h ih
theorem Rep.base{b b':Nat}{E:List (List D)}{T:List kW}(h:Rep b [] E T):Rep b' [] E T:=by
 induction h with
 |nil=>exact .nil
 |cons r kc E T h _ ih=>
  refine .cons r kc E T ?_ ih
  rcases h with h|⟨j,g,_,h2⟩
  ·exact .inl h
  ·simp at h2
def rO(o len:Nat)(es:List (List D))(st:St)(T:List kW)(d:D)(st':St):Prop:=
 ∃g E N,d= .ref false o g 0 (len+T.length)∧st'=Z4 st [(o,.arr g 7 104 (es++E))]++N∧Rep st.length N E T
theorem zy{st L M:St}{o:Nat}{x y:Ob}(ho:o<st.length):Z4 (Z4 st [(o,x)]++L) [(o,y)]++M=Z4 st [(o,y)]++(L++M):=by
 simp only[Z4]
 rw[List.set_append_left _ _ (by simpa using ho),List.set_set,List.append_assoc]
theorem NJ:∀(n:Nat) (t:w6) (up:Int) (at_:Nat) (T:List kW) (h:tZ n t up at_=some T),∀(st:St) (o g:Nat) (es:List (List D)) (hes:es.length=at_) (hlo:Am.look st o=some (.arr g 7 104 es)),
 Am.Spec Tryz.prog gl 126 [.agg [.int .i64 t.kind,.str t.name,.int .i64 t.index,.str t.type.base,.sl false 2 40 (rows u0.cells t.type.args),.sl false 6 96 (rows w6.cells t.args)],.int .i64 up,.ref false o g 0 at_] st (rO o at_ es st T):=by
 intro n
 induction n with
 |zero=>intro t up at_ T h;cases h
 |succ n ih=>
 intro t up at_ T h st o g es hes hlo
 unfold tZ at h
 obtain⟨hat,h⟩:=pe h
 have ho:=cE hlo
 have UH:at_+1≤top:=by omega
 have hed:es.take at_=es:=by rw[←hes,List.take_length]
 have fx:=fa (idf ho) (fa hat (fa UH (fa hes hed)))
 refine fb 53 [.tmp 6] [0,1,2,3,6,7,8,25,26,27,28] Tryz.func126 fun hsc=>?_
 refine lZ (s':=Z4 st [(o,.arr g 7 104 es)]) (N6 (by simp[hlo])) ?_
 refine rn ?_
 refine Pg (t:=25) rfl fun hl=>?_
 simp only[zV]at hl
 have hl2:t.args.length≤9223372036854775807:=by unfold top at hl;omega
 obtain⟨lt,hlt⟩:∃x,x=Ob.arr 0 7 104 [[D.int IntKind.i64 t.kind,D.str t.name,D.str t.type.base,D.sl false 2 40 (rows u0.cells t.type.args),D.int IntKind.i64 t.index,D.B3,D.int IntKind.i64 up]]:=⟨_,rfl⟩
 simp only[←hlt]
 refine mN (fr':=[(2,.ref false o (g+1) 0 (at_+1)),(3,.ptr st.length 0 0 0),(7,.int .i64 (↑at_:Int)),(26,.int .i64 (↑t.args.length:Int)),(27,.int .i64 0)]) ⟨rfl,rfl,rfl,rfl,rfl,trivial⟩ ?_
 obtain⟨rw0,hrw⟩:∃f:D→List D,f=fun kc=>[D.int .i64 t.kind,.str t.name,.str t.type.base,.sl false 2 40 (rows u0.cells t.type.args),.int .i64 t.index,kc,.int .i64 up]:=⟨_,rfl⟩
 refine nq (n:=t.args.length) (body:=uc (tZ n) t at_) (s0:=([],[])) (kk:=fun s=>some (⟨t.kind,t.name,t.type,t.index,s.1,up⟩::s.2)) (e:=T)
  (fun k s F S=>∃g' kc E Z N,F=[(2,.ref false o g' 0 (at_+1+s.2.length)),(3,.ptr st.length 0 0 0),(7,.int .i64 (↑at_:Int)),(26,.int .i64 (↑t.args.length:Int)),(27,.int .i64 (↑k:Int))]∧
   S=Z4 st [(o,.arr g' 7 104 (es++rw0 kc::E))]++(some (Ob.arr 0 6 0 [[D.int IntKind.i64 t.kind,D.str t.name,D.int IntKind.i64 t.index,D.str t.type.base,D.sl false 2 40 (rows u0.cells t.type.args),D.sl false 6 96 (rows w6.cells t.args)]])::some lt::Z)∧Rep (st.length+3) N E s.2∧s.1.length=k∧
   ((k=0∧kc= .B3∧Z=[]∧N=[])∨(0<k∧∃gk,kc= .ref false (st.length+2) gk 0 k∧Z=some (.arr gk 1 8 (rows N3 s.1))::N)))
  (fun s F S=>∃g' kc E Z,F=[(2,.ref false o g' 0 (at_+1+s.2.length))]∧S=Z4 st [(o,.arr g' 7 104 (es++rw0 kc::E))]++(some (Ob.arr 0 6 0 [[D.int IntKind.i64 t.kind,D.str t.name,D.int IntKind.i64 t.index,D.str t.type.base,D.sl false 2 40 (rows u0.cells t.type.args),D.sl false 6 96 (rows w6.cells t.args)]])::some lt::Z)∧Rep (st.length+2) Z E s.2∧CT (st.length+2) Z s.1 kc)
  (fun k s b hb=>by
   unfold uc at hb
   obtain⟨v,_,hb⟩:=E4 hb
   exact⟨_,(Option.some.inj hb).symm⟩) h
  ⟨g+1,.B3,[],[],[],rfl,by rw[hrw],.nil,rfl,.inl ⟨rfl,rfl,rfl,rfl⟩⟩
  (fun k s s' fr S hk hb hi=>?_) (fun s fr S hi=>?_) (fun s F fr S hkk hj hF=>?_)
 ·obtain⟨g',kc,E,Z,N,rfl,rfl,sX,hks,hz⟩:=hi
  unfold uc at hb
  obtain⟨v,hv,hb⟩:=E4 hb
  obtain rfl:s'=_:=by injection hb with hb;injection hb with hb;exact hb.symm
  have hE:=sX.len
  have hwk:wr .i64 ((↑k:Int)+1)=((k+1:Nat):Int):=wM hk hl2
  have hX1:∀kc,(es++rw0 kc::E).length=at_+1+s.2.length:=fun kc=>by simp[hes,hE];omega
  have hX2:∀kc,(es++rw0 kc::E).getD at_ []=rw0 kc:=fun kc=>by simp[List.getD_eq_getElem?_getD,List.getElem?_append_right,hes]
  have hX3:∀kc x,(es++rw0 kc::E).set at_ x=es++x::E:=fun kc x=>by rw[List.set_append_right _ _ (by omega)];simp[hes]
  have fx:=fa fx (fa hwk (fa hX1 (fa hX2 hk)))
  have Md:at_<at_+1+s.2.length:=by omega
  have Tr:(↑at_:Int)<((at_+1+s.2.length:Nat):Int):=by omega
  have QE:∀x,[D.int .i64 t.kind,.str t.name,.str t.type.base,.sl false 2 40 (rows u0.cells t.type.args),.int .i64 t.index,x,.int .i64 up]=rw0 x:=fun x=>by rw[hrw]
  have hd5:∀x,(rw0 x).drop 5=[x,.int .i64 up]:=fun x=>by rw[hrw];rfl
  have hd6:∀x,(rw0 x).drop 6=[.int .i64 up]:=fun x=>by rw[hrw];rfl
  have ht5:∀x,(rw0 x).take 5=[.int .i64 t.kind,.str t.name,.str t.type.base,.sl false 2 40 (rows u0.cells t.type.args),.int .i64 t.index]:=fun x=>by rw[hrw];rfl
  refine ct ?_
  refine r0 ?_
  refine r0 ?_
  refine r0 ?_
  rcases hz with⟨hk0,rfl,rfl,rfl⟩|⟨h0,gk,rfl,rfl⟩
  ·(repeat apply sq_);apply er_;simp only[go_sem,fx,hX1,hX3,Md,Tr,hd5,ht5,hd6]
   simp only[QE]
   refine rn ?_
   refine(ih _ _ _ v hv _ o g' _ (hX1 (.ref false (st.length+2) 0 0 1)) (by simp only[go_sem,fx])).mono ?_
   rintro d1 st1 ⟨g2,E2,N2,rfl,rfl,JF⟩
   try simp only[go_sem,fx]
   refine rn ?_
   refine⟨[(2,.ref false o g2 0 (at_+1+(s.2.length+v.length))),(3,.ptr st.length 0 0 0),(7,.int .i64 (↑at_:Int)),(26,.int .i64 (↑t.args.length:Int)),(27,.int .i64 (↑(k+1):Int))],⟨by rw[←Nat.add_assoc];rfl,rfl,rfl,rfl,rfl,trivial⟩,g2,.ref false (st.length+2) 0 0 1,E++E2,some (.arr 0 1 8 [[D.int .i64 (↑(at_+1+s.2.length):Int)]])::N2,N2,rfl,zy ho,sX.app.Tq ?_,hks,.inr ⟨by omega,0,by rw[hk0],?_⟩⟩
   ·have e:(Z4 st [(o,Ob.arr g' 7 104 (es++rw0 (D.ref false (List.length st+2) 0 0 1)::E))]++
     [some (Ob.arr 0 6 0 [[D.int IntKind.i64 t.kind,D.str t.name,D.int IntKind.i64 t.index,D.str t.type.base,D.sl false 2 40 (rows u0.cells t.type.args),D.sl false 6 96 (rows w6.cells t.args)]]),
      some lt,some (Ob.arr 0 1 8 [[D.int IntKind.i64 (↑(at_+1+s.2.length):Int)]])]).length=st.length+3:=by simp
    rw[e]at JF
    exact JF
   ·have:s.1=[]:=List.eq_nil_of_length_eq_zero (by omega)
    rw[this];rfl
  ·have hr1:(rows N3 s.1).length=k:=by rw[zV,hks]
   have hr2:(rows N3 s.1).take k=rows N3 s.1:=by rw[←hr1,List.take_length]
   have hr3:(k+1)*8≤top:=by omega
   have hr4:k+1≤top:=by omega
   have hr5:∀x:Int,rows N3 s.1++[[D.int .i64 x]]=rows N3 (s.1++[x]):=fun x=>HY (E:=N3) s.1 x
   (repeat apply sq_);apply er_;simp only[go_sem,fx,hX3,Md,Tr,hd5,ht5,hd6,hr1,hr2,hr3,hr4,hr5]
   simp only[QE]
   refine rn ?_
   refine(ih _ _ _ v hv _ o g' _ (hX1 (.ref false (st.length+2) (gk+1) 0 (k+1))) (by simp only[go_sem,fx])).mono ?_
   rintro d1 st1 ⟨g2,E2,N2,rfl,rfl,JF⟩
   try simp only[go_sem,fx]
   refine rn ?_
   refine⟨[(2,.ref false o g2 0 (at_+1+(s.2.length+v.length))),(3,.ptr st.length 0 0 0),(7,.int .i64 (↑at_:Int)),(26,.int .i64 (↑t.args.length:Int)),(27,.int .i64 (↑(k+1):Int))],⟨by rw[←Nat.add_assoc];rfl,rfl,rfl,rfl,rfl,trivial⟩,g2,.ref false (st.length+2) (gk+1) 0 (k+1),E++E2,some (.arr (gk+1) 1 8 (rows N3 (s.1++[(↑(at_+1+s.2.length):Int)])))::(N++N2),N++N2,rfl,zy ho,?_,hks,.inr ⟨by omega,gk+1,rfl,rfl⟩⟩
   refine sX.app.Tq (Rep.shift ?_)
   have e:(Z4 st [(o,Ob.arr g' 7 104 (es++rw0 (D.ref false (List.length st+2) (gk+1) 0 (k+1))::E))]++(some (Ob.arr 0 6 0 [[D.int IntKind.i64 t.kind,D.str t.name,D.int IntKind.i64 t.index,D.str t.type.base,D.sl false 2 40 (rows u0.cells t.type.args),D.sl false 6 96 (rows w6.cells t.args)]])::some lt::some (.arr (gk+1) 1 8 (rows N3 (s.1++[(↑(at_+1+s.2.length):Int)])))::N)).length=st.length+3+N.length:=by simp;omega
   rw[e]at JF
   exact JF
 ·obtain⟨g',kc,E,Z,N,rfl,rfl,sX,hks,hz⟩:=hi
  refine cf ?_
  refine X5 ?_
  refine⟨rfl,[(2,.ref false o g' 0 (at_+1+s.2.length))],⟨rfl,trivial⟩,g',kc,E,Z,rfl,rfl,?_⟩
  rcases hz with⟨h0,h1,h2,h3⟩|⟨h0,gk,h1,h2⟩
  ·rw[h2];rw[h3]at sX
   exact⟨sX.base,.inl ⟨h1,List.eq_nil_of_length_eq_zero (by omega)⟩⟩
  ·refine⟨by rw[h2];exact Rep.shift (A:=[_]) sX,?_⟩
   exact .inr ⟨0,gk,by rw[h1,Nat.add_zero,hks],by rw[h2];rfl⟩
 ·obtain⟨g',kc,E,Z,rfl,rfl,sX,UJ⟩:=hj
  obtain rfl:=Option.some.inj hkk
  simp only[go_sem]
  refine mN hF ?_
  refine Hf (p:=nQ _ _) (fun _ _ _ hs _=>hs.sc) fun hT=>?_
  refine rr ?_
  refine⟨_,_,?_,wJ hT,.same _,?_,g',rw0 kc::E,_,by simp only[List.length_cons];rw[Nat.add_assoc,Nat.add_comm 1],rfl,?_⟩
  ·simp
  ·show o<_;simp;omega
  ·have h1:Rep (st.length+2) Z (rw0 kc::E) (⟨t.kind,t.name,t.type,t.index,s.1,up⟩::s.2):=by
    rw[hrw];exact .cons (⟨t.kind,t.name,t.type,t.index,s.1,up⟩:kW) kc E s.2 UJ sX
   exact Rep.shift (A:=[_,_]) h1
theorem Rep.ups{S T0 N:St}{base:Nat}(hget:∀j x,N[j]? =some x→S[base+j]? =some x)(hT:T0.length≤base){E:List (List D)}{T:List kW}(h:Rep base N E T):kS S T0 E (rows C1.cells T):=by
 induction h with
 |nil=>exact .nil
 |cons r kc E T h _ ih=>
  refine .cons _ _ _ _ (.cons _ _ _ _ (.same _) (.cons _ _ _ _ (.same _) (.cons _ _ _ _ (.same _) (.cons _ _ _ _ (.same _) (.cons _ _ _ _ (.same _) (.cons _ _ _ _ ?_ (.cons _ _ _ _ (.same _) .nil))))))) ih
  rcases h with⟨rfl,h2⟩|⟨j,g,rfl,h2⟩
  ·rw[h2];exact .B3 _ _ _ (by decide)
  ·refine .ref _ _ _ _ _ 1 8 (rows N3 r.kids) _ (hget _ _ h2) ?_ (by decide) (lQ _) ?_
   ·unfold Am.look;rw[List.getElem?_eq_none (by omega)];rfl
   ·rw[List.drop_zero,List.take_of_length_le]
    rw[zV];exact Nat.le_refl _
theorem Lh{s N:St}{a b:Ob}{g:Nat}{E:List (List D)}{T:List kW}{F0 F:Fr}(hsc:nQ s.length s)(hr:Rep (s.length+3) N E T)(hab:ScL (s++[some a,some b]).length [some a,some b])
 (h1:∀st T,vF st T F0 F0) (h2:∀st T':St,Up st T' (.ref false (s.length+2) g 0 T.length) (.sl false 7 104 (rows C1.cells T))→vF st T' F0 F)
 (s1:Fr.sc (s++[some a,some b,some (Ob.arr g 7 104 (rows C1.cells T))]).length F0) (s2:Fr.sc (s++[some a,some b]).length F):
 BkS s.length F (s++[some a,some b]) F0 (s++(some a::some b::some (.arr g 7 104 E)::N)):=by
 have hlen:(rows C1.cells T).length=T.length:=zV _
 have k1:BkS s.length F0 (s++[some a,some b,some (.arr g 7 104 (rows C1.cells T))]) F0 (s++(some a::some b::some (.arr g 7 104 E)::N)):=by
  refine jL hsc (.live _ _ _ _ (.same _) (.live _ _ _ _ (.same _) (.live _ _ _ _ (FY.arr _ _ _ _ _ (Rep.ups (fun j x hx=>?_) (by simp) hr)) (.nil _)))) ?_ (h1 _ _) s1
  ·rw[List.getElem?_append_right (by omega),show s.length+3+j-s.length=j+3 by omega]
   exact hx
  ·obtain⟨x1,x2,_⟩:=hab
   refine⟨Ob.wI (by simp) x1,Ob.wI (by simp) x2,?_,trivial⟩
   ·intro e he
    exact Imm.sc (lQ (E:=C1.cells) T) _ e he
 refine k1.trans (jL hsc (.live _ _ _ _ (.same _) (.live _ _ _ _ (.same _) (.nil _))) hab (h2 _ _ (.ref _ _ _ _ _ 7 104 (rows C1.cells T) _ (iC.trans rfl) (cD (by simp)) (by decide) (lQ _) ?_)) s2)
 rw[List.drop_zero,List.take_of_length_le]
 rw[hlen];exact Nat.le_refl _
def IX(n:Nat)(t:w6):Option (List kW):=tZ n t (-1) 0
end Go.Proofs.YtonfgoanbllceaaGreatDoor
