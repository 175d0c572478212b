import Derived.Test.YtfogbhjeihkliaaGreatDoorDXBase
set_option linter.unusedVariables false
set_option linter.unusedSimpArgs false
set_option maxHeartbeats 2000000
set_option maxRecDepth 100000
namespace Go.Proofs.YtfogbhjeihkliaaGreatDoor
open Go Go.Am
abbrev nP:=B9
def vJ(self:x9→Int→Nat→Option (List nP))(t:x9)(at_:Nat)(k:Nat)(s:List Int×List nP):Option (Ctl (List nP) (List Int×List nP) (List Int×List nP)):=
 (self (Am.get t.args k) (at_:Int) (at_+1+s.2.length)).bind fun v=>
 some (.nxt (s.1++[((at_+1+s.2.length:Nat):Int)],s.2++v))
def vI:Nat→x9→Int→Nat→Option (List nP)
 |0,_,_,_=>none
 |n+1,t,up,at_=>
  chk ((at_+1)*104≤top) <|
  B5 (F2 (vJ (vI n) t at_) t.args.length ([],[])) fun s=>some (⟨t.kind,t.name,t.type,t.index,s.1,up⟩::s.2)
def Ua(r:nP)(kc:D):List D:=[.int .i64 r.kind,.str r.name,.str r.typ.base,.sl false 2 40 (rows w6.cells r.typ.args),.int .i64 r.index,kc,.int .i64 r.up]
def Dy(base:Nat)(N:St)(ks:List Int)(kc:D):Prop:=(kc= .F6∧ks=[])∨∃j g,kc= .ref false (base+j) g 0 ks.length∧N[j]? =some (some (.arr g 1 8 (rows Z4 ks)))
inductive Rep(base:Nat)(N:St):List (List D)→List nP→Prop
 |nil:Rep base N [] []
 |cons (r:nP) (kc:D) (E:List (List D)) (T:List nP) (h:Dy base N r.kids kc) (t:Rep base N E T):Rep base N (Ua r kc::E) (r::T)
theorem Rep.len{base:Nat}{N:St}{E:List (List D)}{T:List nP}(h:Rep base N E T):E.length=T.length:=by
 induction h with
 |nil=>rfl
 |cons r kc E T _ _ ih=>simp[ih]
theorem Dy.app{base:Nat}{N M:St}{ks:List Int}{kc:D}(h:Dy base N ks kc):Dy base (N++M) ks kc:=by
 rcases h with h|⟨j,g,h1,h2⟩
 ·exact .inl h
 ·exact .inr ⟨j,g,h1,by rw[List.getElem?_append_left (List.getElem?_eq_some_iff.1 h2).1];exact h2⟩
theorem Dy.shift{base:Nat}{A N:St}{ks:List Int}{kc:D}(h:Dy (base+A.length) N ks kc):Dy base (A++N) ks kc:=by
 rcases h with h|⟨j,g,h1,h2⟩
 ·exact .inl h
 ·exact .inr ⟨A.length+j,g,by rw[h1,Nat.add_assoc],by rw[List.getElem?_append_right (by omega),Nat.add_sub_cancel_left];exact h2⟩
theorem Rep.app{base:Nat}{N M:St}{E:List (List D)}{T:List nP}(h:Rep base N E T):Rep base (N++M) E T:=by
 induction h with
 |nil=>exact .nil
 |cons r kc E T h _ ih=>exact .cons r kc E T h.app ih
theorem Rep.shift{base:Nat}{A N:St}{E:List (List D)}{T:List nP}(h:Rep (base+A.length) N E T):Rep base (A++N) E T:=by
 induction h with
 |nil=>exact .nil
 |cons r kc E T h _ ih=>exact .cons r kc E T h.shift ih
theorem Rep.UL{base:Nat}{N:St}{E F:List (List D)}{T U:List nP}(h:Rep base N E T)(k:Rep base N F U):Rep base N (E++F) (T++U):=by
 induction h with
 |nil=>exact k
 |cons r kc E T h _ ih=>exact .cons r kc (E++F) (T++U) h ih
theorem Rep.base{b b':Nat}{E:List (List D)}{T:List nP}(h:Rep b [] E T):Rep b' [] E T:=by
 induction h with
 |nil=>exact .nil
 |cons r kc E T h _ ih=>
  refine .cons r kc E T ?_ ih
  rcases h with h|⟨j,g,_,h2⟩
  ·exact .inl h
  ·simp at h2
def tB(o len:Nat)(es:List (List D))(st:St)(T:List nP)(d:D)(st':St):Prop:=
 ∃g E N,d= .ref false o g 0 (len+T.length)∧st'=aZ st [(o,.arr g 7 104 (es++E))]++N∧Rep st.length N E T
theorem AF{st L M:St}{o:Nat}{x y:Ob}(ho:o<st.length):aZ (aZ st [(o,x)]++L) [(o,y)]++M=aZ st [(o,y)]++(L++M):=by
 simp only[aZ]
 rw[List.set_append_left _ _ (by simpa using ho),List.set_set,List.append_assoc]
theorem OP:∀(n:Nat) (t:x9) (up:Int) (at_:Nat) (T:List nP) (h:vI n t up at_=some T),∀(st:St) (o g:Nat) (es:List (List D)) (hes:es.length=at_) (hlo:Am.look st o=some (.arr g 7 104 es)),
 Am.Spec Tryz.prog gl 142 [.agg [.int .i64 t.kind,.str t.name,.int .i64 t.index,.str t.type.base,.sl false 2 40 (rows w6.cells t.type.args),.sl false 6 96 (rows x9.cells t.args)],.int .i64 up,.ref false o g 0 at_] st (tB o at_ es st T):=by
 intro n
 induction n with
 |zero=>intro t up at_ T h;cases h
 |succ n ih=>
 intro t up at_ T h st o g es hes hlo
 unfold vI at h
 obtain⟨hat,h⟩:=MD h
 have ho:=T6 hlo
 have Wm:at_+1≤top:=by omega
 have hed:es.take at_=es:=by rw[←hes,List.take_length]
 have fx:=fa (idf ho) (fa hat (fa Wm (fa hes hed)))
 refine fb 53 [.tmp 6] [0,1,2,3,6,7,8,25,26,27,28] Tryz.func142 fun hsc=>?_
 refine mJ (s':=aZ st [(o,.arr g 7 104 es)]) (N5 (by simp[hlo])) ?_
 refine rn ?_
 refine Uy (t:=25) rfl fun hl=>?_
 simp only[Ae]at hl
 have hl2:t.args.length≤9223372036854775807:=by unfold top at hl;omega
 obtain⟨lt,hlt⟩:∃x,x=Ob.arr 0 7 104 [[D.int IntKind.i64 t.kind,D.str t.name,D.str t.type.base,D.sl false 2 40 (rows w6.cells t.type.args),D.int IntKind.i64 t.index,D.F6,D.int IntKind.i64 up]]:=⟨_,rfl⟩
 simp only[←hlt]
 refine ql (fr':=[(2,.ref false o (g+1) 0 (at_+1)),(3,.ptr st.length 0 0 0),(7,.int .i64 (↑at_:Int)),(26,.int .i64 (↑t.args.length:Int)),(27,.int .i64 0)]) ⟨rfl,rfl,rfl,rfl,rfl,trivial⟩ ?_
 obtain⟨rw0,hrw⟩:∃f:D→List D,f=fun kc=>[D.int .i64 t.kind,.str t.name,.str t.type.base,.sl false 2 40 (rows w6.cells t.type.args),.int .i64 t.index,kc,.int .i64 up]:=⟨_,rfl⟩
 refine vu (n:=t.args.length) (body:=vJ (vI n) t at_) (s0:=([],[])) (kk:=fun s=>some (⟨t.kind,t.name,t.type,t.index,s.1,up⟩::s.2)) (e:=T)
  (fun k s F S=>∃g' kc E Z N,F=[(2,.ref false o g' 0 (at_+1+s.2.length)),(3,.ptr st.length 0 0 0),(7,.int .i64 (↑at_:Int)),(26,.int .i64 (↑t.args.length:Int)),(27,.int .i64 (↑k:Int))]∧
   S=aZ st [(o,.arr g' 7 104 (es++rw0 kc::E))]++(some (Ob.arr 0 6 0 [[D.int IntKind.i64 t.kind,D.str t.name,D.int IntKind.i64 t.index,D.str t.type.base,D.sl false 2 40 (rows w6.cells t.type.args),D.sl false 6 96 (rows x9.cells t.args)]])::some lt::Z)∧Rep (st.length+3) N E s.2∧s.1.length=k∧
   ((k=0∧kc= .F6∧Z=[]∧N=[])∨(0<k∧∃gk,kc= .ref false (st.length+2) gk 0 k∧Z=some (.arr gk 1 8 (rows Z4 s.1))::N)))
  (fun s F S=>∃g' kc E Z,F=[(2,.ref false o g' 0 (at_+1+s.2.length))]∧S=aZ st [(o,.arr g' 7 104 (es++rw0 kc::E))]++(some (Ob.arr 0 6 0 [[D.int IntKind.i64 t.kind,D.str t.name,D.int IntKind.i64 t.index,D.str t.type.base,D.sl false 2 40 (rows w6.cells t.type.args),D.sl false 6 96 (rows x9.cells t.args)]])::some lt::Z)∧Rep (st.length+2) Z E s.2∧Dy (st.length+2) Z s.1 kc)
  (fun k s b hb=>by
   unfold vJ at hb
   obtain⟨v,_,hb⟩:=F9 hb
   exact⟨_,(Option.some.inj hb).symm⟩) h
  ⟨g+1,.F6,[],[],[],rfl,by rw[hrw],.nil,rfl,.inl ⟨rfl,rfl,rfl,rfl⟩⟩
  (fun k s s' fr S hk hb hi=>?_) (fun s fr S hi=>?_) (fun s F fr S hkk hj hF=>?_)
 ·obtain⟨g',kc,E,Z,N,rfl,rfl,Kx,hks,hz⟩:=hi
  unfold vJ at hb
  obtain⟨v,hv,hb⟩:=F9 hb
  obtain rfl:s'=_:=by injection hb with hb;injection hb with hb;exact hb.symm
  have hE:=Kx.len
  have hwk:wr .i64 ((↑k:Int)+1)=((k+1:Nat):Int):=GO hk hl2
  have hX1:∀kc,(es++rw0 kc::E).length=at_+1+s.2.length:=fun kc=>by simp[hes,hE];omega
  have hX2:∀kc,(es++rw0 kc::E).getD at_ []=rw0 kc:=fun kc=>by simp[List.getD_eq_getElem?_getD,List.getElem?_append_right,hes]
  have hX3:∀kc x,(es++rw0 kc::E).set at_ x=es++x::E:=fun kc x=>by rw[List.set_append_right _ _ (by omega)];simp[hes]
  have fx:=fa fx (fa hwk (fa hX1 (fa hX2 hk)))
  have Nh:at_<at_+1+s.2.length:=by omega
  have UM:(↑at_:Int)<((at_+1+s.2.length:Nat):Int):=by omega
  have RM:∀x,[D.int .i64 t.kind,.str t.name,.str t.type.base,.sl false 2 40 (rows w6.cells t.type.args),.int .i64 t.index,x,.int .i64 up]=rw0 x:=fun x=>by rw[hrw]
  have hd5:∀x,(rw0 x).drop 5=[x,.int .i64 up]:=fun x=>by rw[hrw];rfl
  have hd6:∀x,(rw0 x).drop 6=[.int .i64 up]:=fun x=>by rw[hrw];rfl
  have ht5:∀x,(rw0 x).take 5=[.int .i64 t.kind,.str t.name,.str t.type.base,.sl false 2 40 (rows w6.cells t.type.args),.int .i64 t.index]:=fun x=>by rw[hrw];rfl
  refine ct ?_
  refine r0 ?_
  refine r0 ?_
  refine r0 ?_
  rcases hz with⟨hk0,rfl,rfl,rfl⟩|⟨h0,gk,rfl,rfl⟩
  ·(repeat apply sq_);apply er_;simp only[go_sem,fx,hX1,hX3,Nh,UM,hd5,ht5,hd6]
   simp only[RM]
   refine rn ?_
   refine(ih _ _ _ v hv _ o g' _ (hX1 (.ref false (st.length+2) 0 0 1)) (by simp only[go_sem,fx])).mono ?_
   rintro d1 st1 ⟨g2,E2,N2,rfl,rfl,Ky⟩
   try simp only[go_sem,fx]
   refine rn ?_
   refine⟨[(2,.ref false o g2 0 (at_+1+(s.2.length+v.length))),(3,.ptr st.length 0 0 0),(7,.int .i64 (↑at_:Int)),(26,.int .i64 (↑t.args.length:Int)),(27,.int .i64 (↑(k+1):Int))],⟨by rw[←Nat.add_assoc];rfl,rfl,rfl,rfl,rfl,trivial⟩,g2,.ref false (st.length+2) 0 0 1,E++E2,some (.arr 0 1 8 [[D.int .i64 (↑(at_+1+s.2.length):Int)]])::N2,N2,rfl,AF ho,Kx.app.UL ?_,hks,.inr ⟨by omega,0,by rw[hk0],?_⟩⟩
   ·have e:(aZ st [(o,Ob.arr g' 7 104 (es++rw0 (D.ref false (List.length st+2) 0 0 1)::E))]++
     [some (Ob.arr 0 6 0 [[D.int IntKind.i64 t.kind,D.str t.name,D.int IntKind.i64 t.index,D.str t.type.base,D.sl false 2 40 (rows w6.cells t.type.args),D.sl false 6 96 (rows x9.cells t.args)]]),
      some lt,some (Ob.arr 0 1 8 [[D.int IntKind.i64 (↑(at_+1+s.2.length):Int)]])]).length=st.length+3:=by simp
    rw[e]at Ky
    exact Ky
   ·have:s.1=[]:=List.eq_nil_of_length_eq_zero (by omega)
    rw[this];rfl
  ·have hr1:(rows Z4 s.1).length=k:=by rw[Ae,hks]
   have hr2:(rows Z4 s.1).take k=rows Z4 s.1:=by rw[←hr1,List.take_length]
   have hr3:(k+1)*8≤top:=by omega
   have hr4:k+1≤top:=by omega
   have hr5:∀x:Int,rows Z4 s.1++[[D.int .i64 x]]=rows Z4 (s.1++[x]):=fun x=>IV (E:=Z4) s.1 x
   (repeat apply sq_);apply er_;simp only[go_sem,fx,hX3,Nh,UM,hd5,ht5,hd6,hr1,hr2,hr3,hr4,hr5]
   simp only[RM]
   refine rn ?_
   refine(ih _ _ _ v hv _ o g' _ (hX1 (.ref false (st.length+2) (gk+1) 0 (k+1))) (by simp only[go_sem,fx])).mono ?_
   rintro d1 st1 ⟨g2,E2,N2,rfl,rfl,Ky⟩
   try simp only[go_sem,fx]
   refine rn ?_
   refine⟨[(2,.ref false o g2 0 (at_+1+(s.2.length+v.length))),(3,.ptr st.length 0 0 0),(7,.int .i64 (↑at_:Int)),(26,.int .i64 (↑t.args.length:Int)),(27,.int .i64 (↑(k+1):Int))],⟨by rw[←Nat.add_assoc];rfl,rfl,rfl,rfl,rfl,trivial⟩,g2,.ref false (st.length+2) (gk+1) 0 (k+1),E++E2,some (.arr (gk+1) 1 8 (rows Z4 (s.1++[(↑(at_+1+s.2.length):Int)])))::(N++N2),N++N2,rfl,AF ho,?_,hks,.inr ⟨by omega,gk+1,rfl,rfl⟩⟩
   refine Kx.app.UL (Rep.shift ?_)
   have e:(aZ st [(o,Ob.arr g' 7 104 (es++rw0 (D.ref false (List.length st+2) (gk+1) 0 (k+1))::E))]++(some (Ob.arr 0 6 0 [[D.int IntKind.i64 t.kind,D.str t.name,D.int IntKind.i64 t.index,D.str t.type.base,D.sl false 2 40 (rows w6.cells t.type.args),D.sl false 6 96 (rows x9.cells t.args)]])::some lt::some (.arr (gk+1) 1 8 (rows Z4 (s.1++[(↑(at_+1+s.2.length):Int)])))::N)).length=st.length+3+N.length:=by simp;omega
   rw[e]at Ky
   exact Ky
 ·obtain⟨g',kc,E,Z,N,rfl,rfl,Kx,hks,hz⟩:=hi
  refine cf ?_
  refine gV ?_
  refine⟨rfl,[(2,.ref false o g' 0 (at_+1+s.2.length))],⟨rfl,trivial⟩,g',kc,E,Z,rfl,rfl,?_⟩
  rcases hz with⟨h0,h1,h2,h3⟩|⟨h0,gk,h1,h2⟩
  ·rw[h2];rw[h3]at Kx
   exact⟨Kx.base,.inl ⟨h1,List.eq_nil_of_length_eq_zero (by omega)⟩⟩
  ·refine⟨by rw[h2];exact Rep.shift (A:=[_]) Kx,?_⟩
   exact .inr ⟨0,gk,by rw[h1,Nat.add_zero,hks],by rw[h2];rfl⟩
 ·obtain⟨g',kc,E,Z,rfl,rfl,Kx,SB⟩:=hj
  obtain rfl:=Option.some.inj hkk
  simp only[go_sem]
  refine ql hF ?_
  refine Eh (p:=qN _ _) (fun _ _ _ hs _=>hs.sc) fun hT=>?_
  refine rr ?_
  refine⟨_,_,?_,vo hT,.same _,?_,g',rw0 kc::E,_,by simp only[List.length_cons];rw[Nat.add_assoc,Nat.add_comm 1],rfl,?_⟩
  ·simp
  ·show o<_;simp;omega
  ·have h1:Rep (st.length+2) Z (rw0 kc::E) (⟨t.kind,t.name,t.type,t.index,s.1,up⟩::s.2):=by
    rw[hrw];exact .cons (⟨t.kind,t.name,t.type,t.index,s.1,up⟩:nP) kc E s.2 SB Kx
   exact Rep.shift (A:=[_,_]) h1
theorem Rep.ups{S T0 N:St}{base:Nat}(hget:∀j x,N[j]? =some x→S[base+j]? =some x)(hT:T0.length≤base){E:List (List D)}{T:List nP}(h:Rep base N E T):nH S T0 E (rows B9.cells T):=by
 induction h with
 |nil=>exact .nil
 |cons r kc E T h _ ih=>
  refine .cons _ _ _ _ (.cons _ _ _ _ (.same _) (.cons _ _ _ _ (.same _) (.cons _ _ _ _ (.same _) (.cons _ _ _ _ (.same _) (.cons _ _ _ _ (.same _) (.cons _ _ _ _ ?_ (.cons _ _ _ _ (.same _) .nil))))))) ih
  rcases h with⟨rfl,h2⟩|⟨j,g,rfl,h2⟩
  ·rw[h2];exact .F6 _ _ _ (by decide)
  ·refine .ref _ _ _ _ _ 1 8 (rows Z4 r.kids) _ (hget _ _ h2) ?_ (by decide) (ru _) ?_
   ·unfold Am.look;rw[List.getElem?_eq_none (by omega)];rfl
   ·rw[List.drop_zero,List.take_of_length_le]
    rw[Ae];exact Nat.le_refl _
theorem Mi{s N:St}{a b:Ob}{g:Nat}{E:List (List D)}{T:List nP}{F0 F:Fr}(hsc:qN s.length s)(hr:Rep (s.length+3) N E T)(hab:ScL (s++[some a,some b]).length [some a,some b])
 (h1:∀st T,zp st T F0 F0) (h2:∀st T':St,Up st T' (.ref false (s.length+2) g 0 T.length) (.sl false 7 104 (rows B9.cells T))→zp st T' F0 F)
 (s1:Fr.sc (s++[some a,some b,some (Ob.arr g 7 104 (rows B9.cells T))]).length F0) (s2:Fr.sc (s++[some a,some b]).length F):
 BkS s.length F (s++[some a,some b]) F0 (s++(some a::some b::some (.arr g 7 104 E)::N)):=by
 have hlen:(rows B9.cells T).length=T.length:=Ae _
 have k1:BkS s.length F0 (s++[some a,some b,some (.arr g 7 104 (rows B9.cells T))]) F0 (s++(some a::some b::some (.arr g 7 104 E)::N)):=by
  refine Af hsc (.live _ _ _ _ (.same _) (.live _ _ _ _ (.same _) (.live _ _ _ _ (IL.arr _ _ _ _ _ (Rep.ups (fun j x hx=>?_) (by simp) hr)) (.nil _)))) ?_ (h1 _ _) s1
  ·rw[List.getElem?_append_right (by omega),show s.length+3+j-s.length=j+3 by omega]
   exact hx
  ·obtain⟨x1,x2,_⟩:=hab
   refine⟨Ob.GN (by simp) x1,Ob.GN (by simp) x2,?_,trivial⟩
   ·intro e he
    exact Imm.sc (ru (E:=B9.cells) T) _ e he
 refine k1.trans (Af hsc (.live _ _ _ _ (.same _) (.live _ _ _ _ (.same _) (.nil _))) hab (h2 _ _ (.ref _ _ _ _ _ 7 104 (rows B9.cells T) _ (pL.trans rfl) (tQ (by simp)) (by decide) (ru _) ?_)) s2)
 rw[List.drop_zero,List.take_of_length_le]
 rw[hlen];exact Nat.le_refl _
def JC(n:Nat)(t:x9):Option (List nP):=vI n t (-1) 0
end Go.Proofs.YtfogbhjeihkliaaGreatDoor
