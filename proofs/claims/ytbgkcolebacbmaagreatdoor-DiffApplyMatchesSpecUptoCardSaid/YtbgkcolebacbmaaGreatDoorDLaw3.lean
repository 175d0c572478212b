import Derived.Test.YtbgkcolebacbmaaGreatDoorDLaw2
set_option linter.unusedVariables false
set_option linter.unusedSimpArgs false
namespace Go.Proofs.YtbgkcolebacbmaaGreatDoor
open Go Go.Am
def xW(x:y7):Nat×Nat×List w4:=(x.keep.toNat,x.drop.toNat,x.put)
def R5(c:y8):List (Nat×Nat×List w4):=c.rules.map xW
theorem nR{c:y8}{k:Nat}(h:k<c.rules.length):(R5 c).drop k=xW (Am.get c.rules k)::(R5 c).drop (k+1):=by
 unfold R5
 rw[←List.map_drop, ←List.map_drop,ep h,List.map_cons]
theorem Cu{c:y8}{a:x6}{S:(List w4)×Int×Int}{i:Nat}(hS:S.2.2=(i:Int))(hi:i<c.rules.length)(o:List w4)(at_ K:Nat)(hK:(Am.get c.rules i).keep=(K:Int))(hK2:K≤100)(ho:o.length≤1000000)(ha:at_≤1000000)(hl:a.rules.length≤1048576):
 Evt (fun n=>R6 (J0 S c a) n (o,0,(at_:Int))) (ExP (fun t=>t=(o++(a.rules.drop at_).take K,((at_+K:Nat):Int))) (fun _=>False)):=by
 refine Evt.loop (fun s:List w4×Int×Int=>K-s.2.1.toNat) (fun s=>∃k:Nat,k≤K∧s=(o++(a.rules.drop at_).take k,(k:Int),((at_+k:Nat):Int))) _ _ ⟨0,by omega,by simp⟩ (fun s hs=>?_)
 obtain⟨k,hk,rfl⟩:=hs
 have hw1:wr .i64 ((k:Int)+1)=((k+1:Nat):Int):=by rw[G8 (by omega) (by omega)];omega
 have hw2:wr .i64 (((at_+k:Nat):Int)+1)=((at_+(k+1):Nat):Int):=by rw[G8 (by omega) (by omega)];omega
 unfold J0
 rw[hS,Int.toNat_natCast,hK]
 simp only[hw1,hw2,Int.toNat_natCast]
 refine Evt.chk (by omega) (Evt.cond (fun e=>Evt.cond (fun e2=>?_) (fun e2=>Evt.pure ⟨⟨k+1,?_,?_⟩,?_⟩)) (fun e=>Evt.pure ?_))
 ·replace e:=bx e;replace e2:=bx e2
  have hlt:at_+k<a.rules.length:=by omega
  have hlen:(o++(a.rules.drop at_).take k++[Am.get a.rules (at_+k)]).length≤1000000+1048577:=by
   simp only[List.length_append,List.length_take,List.length_drop,List.length_cons,List.length_nil]
   omega
  refine Evt.chk (by omega) (Evt.cW (Evt.chk (by rw[cR];omega) (Evt.pure ⟨⟨k+1,by omega,?_⟩,?_⟩)))
  ·rw[iZ,if_pos hlt,List.append_assoc]
  ·show K-((k+1:Nat):Int).toNat<K-((k:Nat):Int).toNat
   omega
 ·replace e:=bx e
  omega
 ·replace e2:=bx e2
  rw[iZ,if_neg (by omega),List.append_nil]
 ·replace e:=bx e
  show K-((k+1:Nat):Int).toNat<K-((k:Nat):Int).toNat
  omega
 ·replace e:=bx e
  have:k=K:=by omega
  subst this
  rfl
theorem Ep{c:y8}{S:(List w4)×Int×Int}{i:Nat}(hS:S.2.2=(i:Int))(hi:i<c.rules.length)(o:List w4)(ho:o.length≤3000000)(hp:(Am.get c.rules i).put.length≤100):
 Evt (fun n=>R6 (J1 c S) n (o,0)) (ExP (fun t=>t=o++(Am.get c.rules i).put) (fun _=>False)):=by
 refine Evt.loop (fun s:List w4×Int=>(Am.get c.rules i).put.length-s.2.toNat) (fun s=>∃k:Nat,k≤(Am.get c.rules i).put.length∧s=(o++(Am.get c.rules i).put.take k,(k:Int))) _ _ ⟨0,by omega,by simp⟩ (fun s hs=>?_)
 obtain⟨k,hk,rfl⟩:=hs
 have hw1:wr .i64 ((k:Int)+1)=((k+1:Nat):Int):=by rw[G8 (by omega) (by omega)];omega
 unfold J1
 rw[hS,Int.toNat_natCast]
 simp only[hw1,Int.toNat_natCast]
 refine Evt.cond (fun e=>?_) (fun e=>Evt.pure ?_)
 ·replace e:=bx e
  have hlen:(o++(Am.get c.rules i).put.take k++[Am.get (Am.get c.rules i).put k]).length≤3000000+101:=by
   simp only[List.length_append,List.length_take,List.length_cons,List.length_nil]
   omega
  refine Evt.chk (by omega) (Evt.cW (Evt.chk (by rw[cR];omega) (Evt.pure ⟨⟨k+1,by omega,?_⟩,?_⟩)))
  ·rw[hH (by omega),List.append_assoc]
  ·show(Am.get c.rules i).put.length-((k+1:Nat):Int).toNat<(Am.get c.rules i).put.length-((k:Nat):Int).toNat
   omega
 ·replace e:=bx e
  have:k=(Am.get c.rules i).put.length:=by omega
  subst this
  rw[List.take_length]
  rfl
theorem Az{c:y8}(hc:Hw c){a:x6}(hl:a.rules.length≤100):
 Evt (fun n=>R6 (J2 n c a) n ([],0,0)) (ExP (fun t=>t=(fol a.rules (R5 c) 0,((tu (R5 c) 0:Nat):Int))) (fun _=>False)):=by
 have hcl:=hc.rules
 refine Evt.loop (fun s:(List w4)×Int×Int=>c.rules.length-s.2.2.toNat) (fun s=>∃(i at_:Nat) (o:List w4),i≤c.rules.length∧s=(o,(at_:Int),(i:Int))∧at_≤200*i∧o.length≤200*i∧o++fol a.rules ((R5 c).drop i) at_=fol a.rules (R5 c) 0∧tu ((R5 c).drop i) at_=tu (R5 c) 0) _ _ ⟨0,0,[],by omega,rfl,by omega,by simp,by simp,by simp⟩ (fun s hs=>?_)
 obtain⟨i,at_,o,hi,rfl,h1,h2,h3,h4⟩:=hs
 have hw1:wr .i64 ((i:Int)+1)=((i+1:Nat):Int):=by rw[G8 (by omega) (by omega)];omega
 unfold J2
 refine Evt.cond (fun e=>?_) (fun e=>Evt.pure ?_)
 ·have hlt:i<c.rules.length:=by
   replace e:=bx e
   have e:(i:Int)<c.rules.length:=e
   omega
  obtain⟨k0,k1,d0,d1,hp⟩:=hc.rok i hlt
  obtain⟨K,hK⟩:∃K:Nat,(Am.get c.rules i).keep=K:=⟨(Am.get c.rules i).keep.toNat,by omega⟩
  obtain⟨Dn,hD⟩:∃Dn:Nat,(Am.get c.rules i).drop=Dn:=⟨(Am.get c.rules i).drop.toNat,by omega⟩
  have hed:xW (Am.get c.rules i)=(K,Dn,(Am.get c.rules i).put):=by unfold xW;rw[hK,hD,Int.toNat_natCast,Int.toNat_natCast]
  rw[nR hlt,hed,fol]at h3
  rw[nR hlt,hed,tu]at h4
  refine Evt.C1 (Cu (S:=(o,(at_:Int),(i:Int))) (i:=i) rfl hlt o at_ K hK (by omega) (by omega) (by omega) (by omega)) (fun t ht=>?_) (fun r hr=>hr.elim)
  have ht:t=(o++(a.rules.drop at_).take K,((at_+K:Nat):Int)):=ht
  subst ht
  have hlo:(o++(a.rules.drop at_).take K).length≤200*i+100:=by
   simp only[List.length_append,List.length_take,List.length_drop]
   omega
  unfold O6
  refine Evt.chk (by show 0≤(i:Int)∧(i:Int)<_;omega) (Evt.C1 (Ep (S:=(o,(at_:Int),(i:Int))) (i:=i) rfl hlt (o++(a.rules.drop at_).take K) (by omega) hp) (fun u hu=>?_) (fun r hr=>hr.elim))
  have hu:u=o++(a.rules.drop at_).take K++(Am.get c.rules i).put:=hu
  subst hu
  unfold O7
  have hw2:wr .i64 (((at_+K:Nat):Int)+(Dn:Int))=((at_+K+Dn:Nat):Int):=by rw[G8 (by omega) (by omega)];omega
  refine Evt.pure ⟨⟨i+1,at_+K+Dn,o++(a.rules.drop at_).take K++(Am.get c.rules i).put,by omega,?_,by omega,?_,?_,h4⟩,?_⟩
  ·show(_,wr .i64 (((at_+K:Nat):Int)+(Am.get c.rules (i:Int).toNat).drop),wr .i64 ((i:Int)+1))=_
   rw[Int.toNat_natCast,hD,hw1,hw2]
  ·rw[List.length_append];omega
  ·rw[←h3];simp only[List.append_assoc]
  ·show c.rules.length-(wr .i64 ((i:Int)+1)).toNat<c.rules.length-(i:Int).toNat
   rw[hw1];omega
 ·replace e:=bx e
  have e:(c.rules.length:Int)≤(i:Int):=e
  have:i=c.rules.length:=by omega
  subst this
  have hnil:(R5 c).drop c.rules.length=[]:=List.drop_eq_nil_of_le (by simp[R5])
  rw[hnil,fol,List.append_nil]at h3
  rw[hnil,tu]at h4
  rw[←h3, ←h4]
  rfl
theorem zh{a:List w4}{c:y8}(hc:Hw c)(hl:a.length≤100){l:List x5}(hL:l.length=c.rules.length)(hg:∀k,k<l.length→Am.get l k=x5.mk (Am.get c.rules k).keep (Am.get c.rules k).drop (Am.get c.rules k).put):
 Evt (fun _=>cH a l) (fun r=>(r.2=true↔tu (R5 c) 0=a.length)∧(r.2=true→r.1=fol a (R5 c) 0)):=by
 have hcl:=hc.rules
 unfold cH
 refine Evt.chk (by omega) (Evt.C1 (Evt.range (fun i s=>∃at_:Nat,s.2=(at_:Int)∧at_≤a.length∧s.1.length≤200*i∧s.1++fol a ((R5 c).drop i) at_=fol a (R5 c) 0∧tu ((R5 c).drop i) at_=tu (R5 c) 0) (fun _=>False) (fun r:List w4×Bool=>r.2=false∧a.length<tu (R5 c) 0) ⟨0,rfl,by omega,by simp,by simp,by simp⟩ (fun i s hi2 hs=>?_)) (fun t ht=>?_) (fun r hr=>?_))
 ·obtain⟨at_,e1,h1,h2,h3,h4⟩:=hs
  obtain⟨o,x⟩:=s
  have e1:x=(at_:Int):=e1
  subst e1
  have h2:o.length≤200*i:=h2
  have h3:o++fol a ((R5 c).drop i) at_=fol a (R5 c) 0:=h3
  have hlt:i<c.rules.length:=by omega
  obtain⟨k0,k1,d0,d1,hp⟩:=hc.rok i hlt
  obtain⟨K,hK⟩:∃K:Nat,(Am.get c.rules i).keep=K:=⟨(Am.get c.rules i).keep.toNat,by omega⟩
  obtain⟨Dn,hD⟩:∃Dn:Nat,(Am.get c.rules i).drop=Dn:=⟨(Am.get c.rules i).drop.toNat,by omega⟩
  have hed:xW (Am.get c.rules i)=(K,Dn,(Am.get c.rules i).put):=by unfold xW;rw[hK,hD,Int.toNat_natCast,Int.toNat_natCast]
  rw[nR hlt,hed,fol]at h3
  rw[nR hlt,hed,tu]at h4
  have hge:=Cq ((R5 c).drop (i+1)) (at_+K+Dn)
  unfold cA
  rw[hg i (by omega),hK,hD]
  have hw1:wr .i64 ((K:Int)+(Dn:Int))=((K+Dn:Nat):Int):=by rw[G8 (by omega) (by omega)];omega
  have hw2:wr .i64 ((a.length:Int)-(at_:Int))=((a.length-at_:Nat):Int):=by rw[G8 (by omega) (by omega)];omega
  have hw3:wr .i64 ((at_:Int)+(K:Int))=((at_+K:Nat):Int):=by rw[G8 (by omega) (by omega)];omega
  have hw4:wr .i64 ((at_:Int)+((K+Dn:Nat):Int))=((at_+(K+Dn):Nat):Int):=by rw[G8 (by omega) (by omega)];omega
  simp only[hw1,hw2,hw3,hw4,Int.toNat_natCast]
  refine Evt.cond (fun e=>Evt.pure ?_) (fun e=>?_)
  ·replace e:=bx e
   exact⟨rfl,by omega⟩
  ·replace e:=bx e
   have hlo:(o++(a.drop at_).take K).length≤200*i+100:=by
    simp only[List.length_append,List.length_take,List.length_drop]
    omega
   have Ls:(o++(a.drop at_).take K++(Am.get c.rules i).put).length≤200*(i+1):=by
    rw[List.length_append];omega
   have hk:at_+K-at_=K:=by omega
   rw[hk]
   refine Evt.chk (by omega) (Evt.cW (Evt.chk (by rw[cR];omega) (Evt.cW (Evt.chk (by rw[cR];omega) (Evt.pure ⟨at_+(K+Dn),rfl,by omega,Ls,?_,?_⟩)))))
   ·show o++(a.drop at_).take K++(Am.get c.rules i).put++_=_
    rw[←h3, ←Nat.add_assoc];simp only[List.append_assoc]
   ·rw[←h4, ←Nat.add_assoc]
 ·obtain⟨at_,e1,h1,h2,h3,h4⟩:=ht.elim id False.elim
  have hnil:(R5 c).drop l.length=[]:=List.drop_eq_nil_of_le (by simp[R5];omega)
  rw[hnil,fol,List.append_nil]at h3
  rw[hnil,tu]at h4
  unfold cB
  refine Evt.pure ⟨?_,fun _=>h3⟩
  rw[e1,decide_eq_true_eq, ←h4]
  omega
 ·obtain⟨h1,h2⟩:=hr
  rw[h1]
  exact⟨⟨fun h=>(by cases h),fun h=>by omega⟩,fun h=>(by cases h)⟩
def Er(x:A9):Nat×Nat×List x7:=(x.keep.toNat,x.drop.toNat,x.put)
def aG(c:y8):List (Nat×Nat×List x7):=c.y9.map Er
theorem qb{c:y8}{k:Nat}(h:k<c.y9.length):(aG c).drop k=Er (Am.get c.y9 k)::(aG c).drop (k+1):=by
 unfold aG
 rw[←List.map_drop, ←List.map_drop,ep h,List.map_cons]
theorem Es{c:y8}{a:x6}{S:(List x7)×Int×Int}{i:Nat}(hS:S.2.1=(i:Int))(hi:i<c.y9.length)(o:List x7)(at_ K:Nat)(hK:(Am.get c.y9 i).keep=(K:Int))(hK2:K≤100)(ho:o.length≤1000000)(ha:at_≤1000000)(hl:a.y9.length≤1048576):
 Evt (fun n=>R6 (H9 S c a) n (o,0,(at_:Int))) (ExP (fun t=>t=(o++(a.y9.drop at_).take K,((at_+K:Nat):Int))) (fun _=>False)):=by
 refine Evt.loop (fun s:List x7×Int×Int=>K-s.2.1.toNat) (fun s=>∃k:Nat,k≤K∧s=(o++(a.y9.drop at_).take k,(k:Int),((at_+k:Nat):Int))) _ _ ⟨0,by omega,by simp⟩ (fun s hs=>?_)
 obtain⟨k,hk,rfl⟩:=hs
 have hw1:wr .i64 ((k:Int)+1)=((k+1:Nat):Int):=by rw[G8 (by omega) (by omega)];omega
 have hw2:wr .i64 (((at_+k:Nat):Int)+1)=((at_+(k+1):Nat):Int):=by rw[G8 (by omega) (by omega)];omega
 unfold H9
 rw[hS,Int.toNat_natCast,hK]
 simp only[hw1,hw2,Int.toNat_natCast]
 refine Evt.chk (by omega) (Evt.cond (fun e=>Evt.cond (fun e2=>?_) (fun e2=>Evt.pure ⟨⟨k+1,?_,?_⟩,?_⟩)) (fun e=>Evt.pure ?_))
 ·replace e:=bx e;replace e2:=bx e2
  have hlt:at_+k<a.y9.length:=by omega
  have hlen:(o++(a.y9.drop at_).take k++[Am.get a.y9 (at_+k)]).length≤1000000+1048577:=by
   simp only[List.length_append,List.length_take,List.length_drop,List.length_cons,List.length_nil]
   omega
  refine Evt.chk (by omega) (Evt.cW (Evt.chk (by rw[cR];omega) (Evt.pure ⟨⟨k+1,by omega,?_⟩,?_⟩)))
  ·rw[iZ,if_pos hlt,List.append_assoc]
  ·show K-((k+1:Nat):Int).toNat<K-((k:Nat):Int).toNat
   omega
 ·replace e:=bx e
  omega
 ·replace e2:=bx e2
  rw[iZ,if_neg (by omega),List.append_nil]
 ·replace e:=bx e
  show K-((k+1:Nat):Int).toNat<K-((k:Nat):Int).toNat
  omega
 ·replace e:=bx e
  have:k=K:=by omega
  subst this
  rfl
theorem GJ{c:y8}{S:(List x7)×Int×Int}{i:Nat}(hS:S.2.1=(i:Int))(hi:i<c.y9.length)(o:List x7)(ho:o.length≤3000000)(hp:(Am.get c.y9 i).put.length≤100):
 Evt (fun n=>R6 (I0 c S) n (o,0)) (ExP (fun t=>t=o++(Am.get c.y9 i).put) (fun _=>False)):=by
 refine Evt.loop (fun s:List x7×Int=>(Am.get c.y9 i).put.length-s.2.toNat) (fun s=>∃k:Nat,k≤(Am.get c.y9 i).put.length∧s=(o++(Am.get c.y9 i).put.take k,(k:Int))) _ _ ⟨0,by omega,by simp⟩ (fun s hs=>?_)
 obtain⟨k,hk,rfl⟩:=hs
 have hw1:wr .i64 ((k:Int)+1)=((k+1:Nat):Int):=by rw[G8 (by omega) (by omega)];omega
 unfold I0
 rw[hS,Int.toNat_natCast]
 simp only[hw1,Int.toNat_natCast]
 refine Evt.cond (fun e=>?_) (fun e=>Evt.pure ?_)
 ·replace e:=bx e
  have hlen:(o++(Am.get c.y9 i).put.take k++[Am.get (Am.get c.y9 i).put k]).length≤3000000+101:=by
   simp only[List.length_append,List.length_take,List.length_cons,List.length_nil]
   omega
  refine Evt.chk (by omega) (Evt.cW (Evt.chk (by rw[cR];omega) (Evt.pure ⟨⟨k+1,by omega,?_⟩,?_⟩)))
  ·rw[hH (by omega),List.append_assoc]
  ·show(Am.get c.y9 i).put.length-((k+1:Nat):Int).toNat<(Am.get c.y9 i).put.length-((k:Nat):Int).toNat
   omega
 ·replace e:=bx e
  have:k=(Am.get c.y9 i).put.length:=by omega
  subst this
  rw[List.take_length]
  rfl
theorem Cv{c:y8}(hc:Hw c){a:x6}(hl:a.y9.length≤100):
 Evt (fun n=>R6 (J3 n c a) n ([],0,0)) (ExP (fun t=>t=(fol a.y9 (aG c) 0,((tu (aG c) 0:Nat):Int))) (fun _=>False)):=by
 have hcl:=hc.y9
 refine Evt.loop (fun s:(List x7)×Int×Int=>c.y9.length-s.2.1.toNat) (fun s=>∃(i at_:Nat) (o:List x7),i≤c.y9.length∧s=(o,(i:Int),(at_:Int))∧at_≤200*i∧o.length≤200*i∧o++fol a.y9 ((aG c).drop i) at_=fol a.y9 (aG c) 0∧tu ((aG c).drop i) at_=tu (aG c) 0) _ _ ⟨0,0,[],by omega,rfl,by omega,by simp,by simp,by simp⟩ (fun s hs=>?_)
 obtain⟨i,at_,o,hi,rfl,h1,h2,h3,h4⟩:=hs
 have hw1:wr .i64 ((i:Int)+1)=((i+1:Nat):Int):=by rw[G8 (by omega) (by omega)];omega
 unfold J3
 refine Evt.cond (fun e=>?_) (fun e=>Evt.pure ?_)
 ·have hlt:i<c.y9.length:=by
   replace e:=bx e
   have e:(i:Int)<c.y9.length:=e
   omega
  obtain⟨k0,k1,d0,d1,hp⟩:=hc.lok i hlt
  obtain⟨K,hK⟩:∃K:Nat,(Am.get c.y9 i).keep=K:=⟨(Am.get c.y9 i).keep.toNat,by omega⟩
  obtain⟨Dn,hD⟩:∃Dn:Nat,(Am.get c.y9 i).drop=Dn:=⟨(Am.get c.y9 i).drop.toNat,by omega⟩
  have hed:Er (Am.get c.y9 i)=(K,Dn,(Am.get c.y9 i).put):=by unfold Er;rw[hK,hD,Int.toNat_natCast,Int.toNat_natCast]
  rw[qb hlt,hed,fol]at h3
  rw[qb hlt,hed,tu]at h4
  refine Evt.C1 (Es (S:=(o,(i:Int),(at_:Int))) (i:=i) rfl hlt o at_ K hK (by omega) (by omega) (by omega) (by omega)) (fun t ht=>?_) (fun r hr=>hr.elim)
  have ht:t=(o++(a.y9.drop at_).take K,((at_+K:Nat):Int)):=ht
  subst ht
  have hlo:(o++(a.y9.drop at_).take K).length≤200*i+100:=by
   simp only[List.length_append,List.length_take,List.length_drop]
   omega
  unfold N6
  refine Evt.chk (by show 0≤(i:Int)∧(i:Int)<_;omega) (Evt.C1 (GJ (S:=(o,(i:Int),(at_:Int))) (i:=i) rfl hlt (o++(a.y9.drop at_).take K) (by omega) hp) (fun u hu=>?_) (fun r hr=>hr.elim))
  have hu:u=o++(a.y9.drop at_).take K++(Am.get c.y9 i).put:=hu
  subst hu
  unfold N7
  have hw2:wr .i64 (((at_+K:Nat):Int)+(Dn:Int))=((at_+K+Dn:Nat):Int):=by rw[G8 (by omega) (by omega)];omega
  refine Evt.pure ⟨⟨i+1,at_+K+Dn,o++(a.y9.drop at_).take K++(Am.get c.y9 i).put,by omega,?_,by omega,?_,?_,h4⟩,?_⟩
  ·show(_,wr .i64 ((i:Int)+1),wr .i64 (((at_+K:Nat):Int)+(Am.get c.y9 (i:Int).toNat).drop))=_
   rw[Int.toNat_natCast,hD,hw1,hw2]
  ·rw[List.length_append];omega
  ·rw[←h3];simp only[List.append_assoc]
  ·show c.y9.length-(wr .i64 ((i:Int)+1)).toNat<c.y9.length-(i:Int).toNat
   rw[hw1];omega
 ·replace e:=bx e
  have e:(c.y9.length:Int)≤(i:Int):=e
  have:i=c.y9.length:=by omega
  subst this
  have hnil:(aG c).drop c.y9.length=[]:=List.drop_eq_nil_of_le (by simp[aG])
  rw[hnil,fol,List.append_nil]at h3
  rw[hnil,tu]at h4
  rw[←h3, ←h4]
  rfl
theorem AA{a:List x7}{c:y8}(hc:Hw c)(hl:a.length≤100){l:List x9}(hL:l.length=c.y9.length)(hg:∀k,k<l.length→Am.get l k=x9.mk (Am.get c.y9 k).keep (Am.get c.y9 k).drop (Am.get c.y9 k).put):
 Evt (fun _=>dI a l) (fun r=>(r.2=true↔tu (aG c) 0=a.length)∧(r.2=true→r.1=fol a (aG c) 0)):=by
 have hcl:=hc.y9
 unfold dI
 refine Evt.chk (by omega) (Evt.C1 (Evt.range (fun i s=>∃at_:Nat,s.2=(at_:Int)∧at_≤a.length∧s.1.length≤200*i∧s.1++fol a ((aG c).drop i) at_=fol a (aG c) 0∧tu ((aG c).drop i) at_=tu (aG c) 0) (fun _=>False) (fun r:List x7×Bool=>r.2=false∧a.length<tu (aG c) 0) ⟨0,rfl,by omega,by simp,by simp,by simp⟩ (fun i s hi2 hs=>?_)) (fun t ht=>?_) (fun r hr=>?_))
 ·obtain⟨at_,e1,h1,h2,h3,h4⟩:=hs
  obtain⟨o,x⟩:=s
  have e1:x=(at_:Int):=e1
  subst e1
  have h2:o.length≤200*i:=h2
  have h3:o++fol a ((aG c).drop i) at_=fol a (aG c) 0:=h3
  have hlt:i<c.y9.length:=by omega
  obtain⟨k0,k1,d0,d1,hp⟩:=hc.lok i hlt
  obtain⟨K,hK⟩:∃K:Nat,(Am.get c.y9 i).keep=K:=⟨(Am.get c.y9 i).keep.toNat,by omega⟩
  obtain⟨Dn,hD⟩:∃Dn:Nat,(Am.get c.y9 i).drop=Dn:=⟨(Am.get c.y9 i).drop.toNat,by omega⟩
  have hed:Er (Am.get c.y9 i)=(K,Dn,(Am.get c.y9 i).put):=by unfold Er;rw[hK,hD,Int.toNat_natCast,Int.toNat_natCast]
  rw[qb hlt,hed,fol]at h3
  rw[qb hlt,hed,tu]at h4
  have hge:=Cq ((aG c).drop (i+1)) (at_+K+Dn)
  unfold dj
  rw[hg i (by omega),hK,hD]
  have hw1:wr .i64 ((K:Int)+(Dn:Int))=((K+Dn:Nat):Int):=by rw[G8 (by omega) (by omega)];omega
  have hw2:wr .i64 ((a.length:Int)-(at_:Int))=((a.length-at_:Nat):Int):=by rw[G8 (by omega) (by omega)];omega
  have hw3:wr .i64 ((at_:Int)+(K:Int))=((at_+K:Nat):Int):=by rw[G8 (by omega) (by omega)];omega
  have hw4:wr .i64 ((at_:Int)+((K+Dn:Nat):Int))=((at_+(K+Dn):Nat):Int):=by rw[G8 (by omega) (by omega)];omega
  simp only[hw1,hw2,hw3,hw4,Int.toNat_natCast]
  refine Evt.cond (fun e=>Evt.pure ?_) (fun e=>?_)
  ·replace e:=bx e
   exact⟨rfl,by omega⟩
  ·replace e:=bx e
   have hlo:(o++(a.drop at_).take K).length≤200*i+100:=by
    simp only[List.length_append,List.length_take,List.length_drop]
    omega
   have Ls:(o++(a.drop at_).take K++(Am.get c.y9 i).put).length≤200*(i+1):=by
    rw[List.length_append];omega
   have hk:at_+K-at_=K:=by omega
   rw[hk]
   refine Evt.chk (by omega) (Evt.cW (Evt.chk (by rw[cR];omega) (Evt.cW (Evt.chk (by rw[cR];omega) (Evt.pure ⟨at_+(K+Dn),rfl,by omega,Ls,?_,?_⟩)))))
   ·show o++(a.drop at_).take K++(Am.get c.y9 i).put++_=_
    rw[←h3, ←Nat.add_assoc];simp only[List.append_assoc]
   ·rw[←h4, ←Nat.add_assoc]
 ·obtain⟨at_,e1,h1,h2,h3,h4⟩:=ht.elim id False.elim
  have hnil:(aG c).drop l.length=[]:=List.drop_eq_nil_of_le (by simp[aG];omega)
  rw[hnil,fol,List.append_nil]at h3
  rw[hnil,tu]at h4
  unfold dn
  refine Evt.pure ⟨?_,fun _=>h3⟩
  rw[e1,decide_eq_true_eq, ←h4]
  omega
 ·obtain⟨h1,h2⟩:=hr
  rw[h1]
  exact⟨⟨fun h=>(by cases h),fun h=>by omega⟩,fun h=>(by cases h)⟩
theorem kq{α:Type}[Inhabited α](body:Nat→Nat→Unit→Option (Ctl Bool Unit Unit))(l m:List α)(hl:l.length=m.length)(hb:∀k,k<l.length→Evt (fun n=>body n k ()) (fun c=>(Am.get l k=Am.get m k∧c= .nxt ())∨(Am.get l k≠Am.get m k∧c= .ret false))):
 Evt (fun n=>C1 (D5 (body n) l.length ()) (fun _=>some true)) (fun r=>r=true↔l=m):=by
 refine Evt.C1 (Evt.range (fun k _=>∀j,j<k→Am.get l j=Am.get m j) (fun _=>False) (fun r:Bool=>r=false∧l≠m) (fun j h=>absurd h (Nat.not_lt_zero _)) (fun k u hk hj=>(hb k hk).mono fun c hc=>?_)) (fun u hu=>?_) (fun r hr=>?_)
 ·rcases hc with⟨h,rfl⟩|⟨h,rfl⟩
  ·intro j hj'
   by_cases ej:j=k
   ·subst ej;exact h
   ·exact hj j (by omega)
  ·exact⟨rfl,fun e=>h (by rw[e])⟩
 ·exact Evt.pure (by simp only[true_iff];exact tQ hl (hu.elim id False.elim))
 ·obtain⟨rfl,h⟩:=(hr:r=false∧l≠m)
  simp[h]
theorem Et{α:Type}{l m:List α}(e:(!decide ((l.length:Int)=(m.length:Int)))=true):l≠m:=by
 intro h
 subst h
 simp at e
theorem zi{α:Type}{l m:List α}(e:(!decide ((l.length:Int)=(m.length:Int)))=false):l.length=m.length:=by
 simp at e
 omega
theorem fU{p:Prop}(h:¬p):false=true↔p:=⟨fun e=>Bool.noConfusion e,fun e=>absurd e h⟩
theorem GK(a b:List w6):Evt (fun _=>X7 a b) (fun r=>r=true↔a=b):=by
 unfold X7
 refine Evt.cond (fun e=>Evt.pure (fU (Et e))) (fun e=>?_)
 refine kq (fun _=>S9 b a) a b (zi e) (fun k hk=>?_)
 unfold S9
 have hl:=zi e
 generalize Am.get a k=x
 generalize Am.get b k=y
 refine Evt.chk (by omega) ?_
 by_cases h:x.name=y.name
 ·simp only[h,decide_true,Bool.not_true,Bool.not_false,gI,cond_false]
  refine Evt.bind (GI _ _) fun v hv=>Evt.cond (fun e2=>Evt.pure (.inr ⟨fun e3=>?_,rfl⟩)) (fun e2=>Evt.pure (.inl ⟨?_,rfl⟩))
  ·rw[e3]at hv
   rw[hv.2 rfl]at e2;cases e2
  ·have:v=true:=by simpa using e2
   cases x;cases y
   simp only[w6.mk.injEq]at*
   exact⟨h,hv.1 this⟩
 ·simp only[h,decide_false,Bool.not_false,Bool.not_true,nK,Option.bind_some,cond_true]
  exact Evt.pure (.inr ⟨fun e3=>h (by rw[e3]),rfl⟩)
theorem Jd(a b:w5):Evt (fun _=>P2 a b) (fun r=>r=true↔a=b):=by
 unfold P2
 refine Evt.bind (GK _ _) fun v1 h1=>Evt.bind (P:=fun r=>v1=true→(r=true↔a.B5=b.B5)) (Evt.gd (fun _=>(En _ _).mono fun r hr _=>hr) (fun e h=>by rw[e]at h;cases h)) fun v2 h2=>Evt.pure ?_
 cases a;cases b
 simp only[w5.mk.injEq]at*
 cases v1<;>simp_all
theorem wq{a:y4}(ha:a.nodes.length≤9223372036854775807)(b:y4):Evt (fun _=>L2 a b) (fun r=>r=true↔a=b):=by
 unfold L2
 refine Evt.cond (fun e=>Evt.pure (fU fun h=>Et e (by rw[h]))) (fun e=>Evt.chk ha ?_)
 have hl:=zi e
 refine(kq (fun _=>T2 b a) a.nodes b.nodes hl (fun k hk=>?_)).mono fun r hr=>?_
 ·unfold T2
  generalize Am.get a.nodes k=x
  generalize Am.get b.nodes k=y
  refine Evt.chk (by omega) ?_
  by_cases h:x.type=y.type
  ·simp only[h,decide_true,Bool.not_true,Bool.not_false,gI,cond_false]
   refine Evt.bind (Eo _ _) fun v hv=>Evt.cond (fun e2=>Evt.pure (.inr ⟨fun e3=>?_,rfl⟩)) (fun e2=>Evt.pure (.inl ⟨?_,rfl⟩))
   ·rw[e3]at hv
    rw[hv.2 rfl]at e2;cases e2
   ·have:v=true:=by simpa using e2
    cases x;cases y
    simp only[w8.mk.injEq]at*
    exact⟨h,hv.1 this⟩
  ·simp only[h,decide_false,Bool.not_false,Bool.not_true,nK,Option.bind_some,cond_true]
   exact Evt.pure (.inr ⟨fun e3=>h (by rw[e3]),rfl⟩)
 ·cases a;cases b
  simpa using hr
theorem Eu:∀(m:Nat) (s:u0),SizeOf.sizeOf s≤m→tq s→∀t:u0,Evt (fun n=>F4 n s t) (fun r=>r=true↔s=t):=by
 intro m
 induction m with
 |zero=>intro s h;cases s;simp only[u0.mk.sizeOf_spec]at h;omega
 |succ m ih=>
  intro s hs hB t
  obtain⟨_,b1,b2⟩:=hB
  refine Evt.succ ?_
  simp only[F4]
  by_cases h:s.base=t.base
  ·simp only[h,decide_true,Bool.not_true,cond_false]
   refine Evt.cond (fun e=>Evt.pure (fU fun h=>Et e (by rw[h]))) (fun e=>Evt.chk (by omega) ?_)
   have hl:=zi e
   refine(kq (fun n=>M0 (F4 n) t s) s.args t.args hl (fun k hk=>?_)).mono fun r hr=>?_
   ·unfold M0
    refine Evt.chk (by omega) (Evt.bind (ih _ (by have:=fY hk;omega) (b2 k hk) _) fun v hv=>Evt.cond (fun e2=>Evt.pure (.inr ⟨fun e3=>?_,rfl⟩)) (fun e2=>Evt.pure (.inl ⟨?_,rfl⟩)))
    ·rw[hv.2 e3]at e2;cases e2
    ·exact hv.1 (by simpa using e2)
   ·obtain⟨n1,p1⟩:=s
    obtain⟨n2,p2⟩:=t
    simp only[u0.vK,u0.qG,u0.mk.injEq]at*
    simp_all
  ·simp only[h,decide_false,Bool.not_false,cond_true]
   exact Evt.pure (fU fun e3=>h (by rw[e3]))
theorem Dt:∀(m:Nat) (s:w7),SizeOf.sizeOf s≤m→Co s→∀t:w7,Evt (fun n=>E7 n s t) (fun r=>r=true↔s=t):=by
 intro m
 induction m with
 |zero=>intro s h;cases s;simp only[w7.mk.sizeOf_spec]at h;omega
 |succ m ih=>
  intro s hs hB t
  obtain⟨_,b0,b1,b2⟩:=hB
  refine Evt.succ ?_
  simp only[E7]
  by_cases h:s.kind=t.kind∧s.name=t.name∧s.index=t.index
  ·obtain⟨h1,h2,h3⟩:=h
   simp only[h1,h2,h3,decide_true,Bool.not_true,Bool.not_false,cond_false,gI]
   refine Evt.bind (Eu _ _ (Nat.le_refl _) b0 t.type) fun v hv=>?_
   cases v with
   |false=>
    simp only[Bool.not_false,cond_true]
    exact Evt.pure (fU fun e3=>by have:=hv.2 (by rw[e3]);cases this)
   |true=>
    have ht:=hv.1 rfl
    simp only[Bool.not_true,cond_false]
    refine Evt.cond (fun e=>Evt.pure (fU fun h=>Et e (by rw[h]))) (fun e=>Evt.chk (by omega) ?_)
    have hl:=zi e
    refine(kq (fun n=>P3 (E7 n) t s) s.args t.args hl (fun k hk=>?_)).mono fun r hr=>?_
    ·unfold P3
     refine Evt.chk (by omega) (Evt.bind (ih _ (by have:=gW hk;omega) (b2 k hk) _) fun v hv=>Evt.cond (fun e2=>Evt.pure (.inr ⟨fun e3=>?_,rfl⟩)) (fun e2=>Evt.pure (.inl ⟨?_,rfl⟩)))
     ·rw[hv.2 e3]at e2;cases e2
     ·exact hv.1 (by simpa using e2)
    ·obtain⟨k1,n1,i1,t1,g1⟩:=s
     obtain⟨k2,n2,i2,t2,g2⟩:=t
     simp only[w7.KQ,w7.KR,w7.IC,w7.KS,w7.qG,w7.mk.injEq]at*
     rw[hr]
     exact⟨fun e=>⟨h1,h2,h3,ht,e⟩,fun e=>e.2.2.2.2⟩
  ·have hc:(bif (bif (!decide (s.kind=t.kind))then true else(!decide (s.name=t.name)))then true else(!decide (s.index=t.index)))=true:=by
    by_cases h1:s.kind=t.kind<;>by_cases h2:s.name=t.name<;>by_cases h3:s.index=t.index<;>simp[h1,h2,h3]<;>exact h ⟨h1,h2,h3⟩
   simp only[hc,Bool.not_true,nK,Option.bind_some,cond_true]
   exact Evt.pure (fU fun e3=>h (by rw[e3];exact⟨rfl,rfl,rfl⟩))
theorem AB{x y:w4}(hB:Cp x):Evt (fun n=>
 (gd (!(bif (bif (!decide (x.name=y.name))then true else(!decide (x.kids=y.kids)))then true else(!decide (x.weight=y.weight)))) (L2 x.graph y.graph) default).bind fun v5=>
 (gd (!(bif (bif (bif (!decide (x.name=y.name))then true else(!decide (x.kids=y.kids)))then true else(!decide (x.weight=y.weight)))then true else(!v5))) (E7 n x.meaning y.meaning) default).bind fun v6=>
 bif (bif (bif (bif (bif (!decide (x.name=y.name))then true else(!decide (x.kids=y.kids)))then true else(!decide (x.weight=y.weight)))then true else(!v5))then true else(!v6))then
  some (Ctl.ret false)
 else
  some (Ctl.nxt ())) (fun c:Ctl Bool Unit Unit=>(x=y∧c= .nxt ())∨(x≠y∧c= .ret false)):=by
 by_cases h:x.name=y.name∧x.kids=y.kids∧x.weight=y.weight
 ·obtain⟨h1,h2,h3⟩:=h
  simp only[h1,h2,h3,decide_true,Bool.not_true,Bool.not_false,cond_false,gI]
  refine Evt.bind (wq (by have:=hB.graph.nodes;omega) _) fun v hv=>?_
  cases v with
  |false=>
   simp only[Bool.not_false,Bool.not_true,cond_true,nK,Option.bind_some]
   exact Evt.pure (.inr ⟨fun e3=>(by have:=hv.2 (by rw[e3]);cases this),rfl⟩)
  |true=>
   have hgr:=hv.1 rfl
   simp only[Bool.not_true,Bool.not_false,cond_false,gI]
   refine Evt.bind (Dt _ _ (Nat.le_refl _) hB.meaning _) fun v hv=>Evt.cond (fun e=>Evt.pure (.inr ⟨fun e3=>?_,rfl⟩)) (fun e=>Evt.pure (.inl ⟨?_,rfl⟩))
   ·rw[hv.2 (by rw[e3])]at e;cases e
   ·have hm:=hv.1 (by simpa using e)
    cases x;cases y
    simp only[w4.mk.injEq]at*
    exact⟨h1,hgr,h2,h3,hm⟩
 ·have hc:(bif (bif (!decide (x.name=y.name))then true else(!decide (x.kids=y.kids)))then true else(!decide (x.weight=y.weight)))=true:=by
   by_cases h1:x.name=y.name<;>by_cases h2:x.kids=y.kids<;>by_cases h3:x.weight=y.weight<;>simp[h1,h2,h3]<;>exact h ⟨h1,h2,h3⟩
  simp only[hc,Bool.not_true,nK,Option.bind_some,cond_true]
  exact Evt.pure (.inr ⟨fun e3=>h (by rw[e3];exact⟨rfl,rfl,rfl⟩),rfl⟩)
theorem GL{a:List w4}(ha:∀y∈a,Cp y)(b:List w4):Evt (fun n=>X8 n a b) (fun r=>r=true↔a=b):=by
 unfold X8
 refine Evt.cond (fun e=>Evt.pure (fU (Et e))) (fun e=>?_)
 refine kq (fun n=>T3 n b a) a b (zi e) (fun k hk=>?_)
 unfold T3
 have hl:=zi e
 exact Evt.chk (by omega) (AB (ha _ (get_mem hk)))
theorem Lu{x:x7}(hB:Lq x)(y:x7):Evt (fun n=>aS n x y) (fun r=>r=true↔x=y):=by
 unfold aS
 by_cases h:x.word=y.word∧x.weight=y.weight
 ·obtain⟨h1,h2⟩:=h
  simp only[h1,h2,decide_true,cond_true,gI]
  refine Evt.bind (wq (by have:=hB.graph.nodes;omega) _) fun v hv=>?_
  cases v with
  |false=>
   simp only[cond_false,nK,Option.bind_some]
   exact Evt.pure (fU fun e3=>by have:=hv.2 (by rw[e3]);cases this)
  |true=>
   have hgr:=hv.1 rfl
   simp only[cond_true,gI]
   refine Evt.bind (Dt _ _ (Nat.le_refl _) hB.meaning _) fun v hv=>Evt.pure ⟨fun e=>?_,fun e=>hv.2 (by rw[e])⟩
   have hm:=hv.1 e
   cases x;cases y
   simp only[x7.mk.injEq]at*
   exact⟨h1,hgr,h2,hm⟩
 ·have hc:(bif (decide (x.word=y.word))then(decide (x.weight=y.weight))else false)=false:=by
   by_cases h1:x.word=y.word<;>by_cases h2:x.weight=y.weight<;>simp[h1,h2]<;>exact h ⟨h1,h2⟩
  simp only[hc,nK,Option.bind_some,cond_false]
  exact Evt.pure (fU fun e3=>h (by rw[e3];exact⟨rfl,rfl⟩))
theorem GN{a:List x7}(ha:∀y∈a,Lq y)(b:List x7):Evt (fun n=>X9 n a b) (fun r=>r=true↔a=b):=by
 unfold X9
 refine Evt.cond (fun e=>Evt.pure (fU (Et e))) (fun e=>?_)
 refine kq (fun n=>T4 n b a) a b (zi e) (fun k hk=>?_)
 unfold T4
 have hl:=zi e
 refine Evt.chk (by omega) (Evt.bind (Lu (ha _ (get_mem hk)) _) fun v hv=>Evt.cond (fun e2=>Evt.pure (.inr ⟨fun e3=>?_,rfl⟩)) (fun e2=>Evt.pure (.inl ⟨?_,rfl⟩)))
 ·rw[hv.2 e3]at e2;cases e2
 ·exact hv.1 (by simpa using e2)
theorem AE{a:x6}(ha:wj a)(b:x6):Evt (fun n=>O1 n a b) (fun r=>r=true↔a=b):=by
 have ff:∀p:Prop,¬p→Evt (fun _:Nat=>some false) (fun r=>r=true↔p):=fun p h=>Evt.pure (fU h)
 unfold O1
 refine Evt.bind (Jd _ _) fun v1 h1=>?_
 cases v1 with
 |false=>
  simp only[nK,Option.bind_some,cond_false]
  exact ff _ fun e=>by have:=h1.2 (by rw[e]);cases this
 |true=>
  simp only[gI,cond_true]
  refine Evt.bind (GL ha.rule _) fun v2 h2=>?_
  cases v2 with
  |false=>
   simp only[nK,Option.bind_some,cond_false]
   exact ff _ fun e=>by have:=h2.2 (by rw[e]);cases this
  |true=>
   simp only[gI,cond_true]
   refine Evt.bind (GN ha.lex _) fun v3 h3=>?_
   cases v3 with
   |false=>
    simp only[nK,Option.bind_some,cond_false]
    exact ff _ fun e=>by have:=h3.2 (by rw[e]);cases this
   |true=>
    simp only[gI,cond_true]
    refine Evt.bind (wq (by have:=ha.start.nodes;omega) _) fun v4 h4=>Evt.pure ⟨fun e=>?_,fun e=>h4.2 (by rw[e])⟩
    have q1:=h1.1 rfl
    have q2:=h2.1 rfl
    have q3:=h3.1 rfl
    have q4:=h4.1 e
    cases a;cases b
    simp only[x6.mk.injEq]at*
    exact⟨q1,q2,q3,q4⟩
set_option maxRecDepth 1000000 in
theorem zj(m:Nat):T5 (m+300)=some true:=by kernel_rfl
theorem wW:Evt T5 (fun b=>b=true):=⟨true,rfl,300,fun n hn=>by
 obtain⟨m,rfl⟩:∃m,n=m+300:=⟨n-300,by omega⟩
 exact zj m⟩
theorem fC{α ρ:Type}[Inhabited α](f:Nat→α→Option α)(l:List α)(b:Nat)(hb:b≤4096)(hl:l.length≤1048576)(hf:∀k,k<l.length→Evt (fun n=>f n (Am.get l k)) (fun v=>v=Am.get l k)):
 Evt (fun n=>D5 (ρ:=ρ) (fun(k:Nat) (s:List α)=>(f n (Am.get l k)).bind fun v=>cW (s++[v]) fun c=>chk (c.length*b≤top∧c.length≤top) (some (Ctl.nxt c))) l.length []) (ExP (fun t=>t=l) (fun _=>False)):=by
 refine(Evt.range (fun k (s:List α)=>s=l.take k) (fun _=>False) (fun _=>False) (by simp) (fun k s hk hs=>?_)).mono fun r hr=>?_
 ·refine Evt.bind (hf k hk) fun v hv=>Evt.cW (Evt.chk ?_ (Evt.pure ?_))
  ·have:(s++[v]).length=k+1:=by simp[hs];omega
   rw[this,cR]
   have:(k+1)*b≤1048576*4096:=Nat.mul_le_mul (by omega) hb
   omega
  ·show s++[v]=l.take (k+1)
   rw[hs,hv,hH hk]
 ·cases r with
  |nxt t=>have:t=l.take l.length:=hr.elim id False.elim
          rw[List.take_length]at this
          exact this
  |ret x=>exact hr
theorem wu:∀(m:Nat) (s:u0),SizeOf.sizeOf s≤m→tq s→Evt (fun n=>Y0 n s) (fun v=>v=s):=by
 intro m
 induction m with
 |zero=>intro s h;cases s;simp only[u0.mk.sizeOf_spec]at h;omega
 |succ m ih=>
  intro s hs hb
  obtain⟨_,h1,h2⟩:=hb
  refine Evt.succ ?_
  simp only[Y0]
  refine Evt.C1 (fC (fun n x=>Y0 n x) s.args 40 (by decide) h1 (fun k hk=>ih _ (by have:=fY hk;omega) (h2 k hk))) (fun t ht=>Evt.pure ?_) (fun _ h=>h.elim)
  have ht:t=s.args:=ht
  subst ht
  cases s;rfl
theorem rV:∀(m:Nat) (s:w7),SizeOf.sizeOf s≤m→Co s→Evt (fun n=>av n s) (fun v=>v=s):=by
 intro m
 induction m with
 |zero=>intro s h;cases s;simp only[w7.mk.sizeOf_spec]at h;omega
 |succ m ih=>
  intro s hs hb
  obtain⟨_,h0,h1,h2⟩:=hb
  refine Evt.succ ?_
  simp only[av]
  refine Evt.bind (wu _ _ (Nat.le_refl _) h0) fun v hv=>?_
  refine Evt.C1 (fC (fun n x=>av n x) s.args 96 (by decide) h1 (fun k hk=>ih _ (by have:=gW hk;omega) (h2 k hk))) (fun t ht=>Evt.pure ?_) (fun _ h=>h.elim)
  have ht:t=s.args:=ht
  subst ht hv
  cases s;rfl
theorem mF{g:y4}(h:g.nodes.length≤1048576):Evt (fun _=>aH g) (fun v=>v=g):=by
 unfold aH
 refine Evt.C1 (fC (fun _ x=>some (w8.mk x.type x.links)) g.nodes 32 (by decide) h (fun k hk=>Evt.pure (by generalize Am.get g.nodes k=x;cases x;rfl))) (fun t ht=>Evt.pure ?_) (fun _ h=>h.elim)
 have ht:t=g.nodes:=ht
 subst ht
 cases g;rfl
theorem zk{g:w5}(h:g.types.length≤1048576):Evt (fun _=>Y7 g) (fun v=>v=g):=by
 unfold Y7
 refine Evt.bind (P:=fun v=>v=g.B5) (Evt.pure rfl) fun v hv=>?_
 refine Evt.C1 (fC (fun _ x=>some (w6.mk x.name x.parents)) g.types 40 (by decide) h (fun k hk=>Evt.pure (by generalize Am.get g.types k=x;cases x;rfl))) (fun t ht=>Evt.pure ?_) (fun _ h=>h.elim)
 have ht:t=g.types:=ht
 subst ht hv
 cases g;rfl
theorem zl{r:w4}(h:Cp r):Evt (fun n=>dr n r) (fun v=>v=r):=by
 unfold dr
 refine Evt.bind (mF h.graph.nodes) fun v hv=>Evt.bind (rV _ _ (Nat.le_refl _) h.meaning) fun w hw=>Evt.pure ?_
 subst hv hw
 cases r;rfl
theorem AF{r:x7}(h:Lq r):Evt (fun n=>eM n r) (fun v=>v=r):=by
 unfold eM
 refine Evt.bind (mF h.graph.nodes) fun v hv=>Evt.bind (rV _ _ (Nat.le_refl _) h.meaning) fun w hw=>Evt.pure ?_
 subst hv hw
 cases r;rfl
theorem GO{g:x6}(h:wj g):Evt (fun n=>oT n g) (fun v=>v=g):=by
 unfold oT
 refine Evt.bind (zk h.hier.types) fun v1 h1=>Evt.bind (mF h.start.nodes) fun v2 h2=>?_
 refine Evt.C1 (fC (fun n x=>dr n x) g.rules 152 (by decide) h.nr (fun k hk=>zl (h.rule _ (get_mem hk)))) (fun t ht=>?_) (fun _ h=>h.elim)
 have ht:t=g.rules:=ht
 unfold lY
 refine Evt.C1 (fC (fun n x=>eM n x) g.y9 144 (by decide) h.nl (fun k hk=>AF (h.lex _ (get_mem hk)))) (fun u hu=>Evt.pure ?_) (fun _ h=>h.elim)
 have hu:u=g.y9:=hu
 subst h1 h2 ht hu
 cases g;rfl
noncomputable def og(a:x6)(c:y8):w5:=if c.hierarchy.length=1 then Am.get c.hierarchy 0 else a.hierarchy
noncomputable def oU(a:x6)(c:y8):y4:=if c.start.length=1 then Am.get c.start 0 else a.start
noncomputable def Ph(a:x6)(c:y8):x6:=⟨og a c,fol a.rules (R5 c) 0,fol a.y9 (aG c) 0,oU a c⟩
def Fits(a:x6)(c:y8):Prop:=tu (R5 c) 0=a.rules.length∧tu (aG c) 0=a.y9.length
theorem JL{a:x6}{c:y8}(ha:wj a)(hc:uD c)(hok:Hw c):wj (Ph a c):=by
 have hR:(fol a.rules (R5 c) 0).length≤200*(R5 c).length:=Ct _ _ fun e he=>by
  unfold R5 at he
  obtain⟨x,hx,rfl⟩:=List.mem_map.1 he
  obtain⟨i,hi,rfl⟩:=oP.1 hx
  obtain⟨k0,k1,d0,d1,hp⟩:=hok.rok i hi
  exact⟨by show(Am.get c.rules i).keep.toNat≤100;omega,hp⟩
 have hL:(fol a.y9 (aG c) 0).length≤200*(aG c).length:=Ct _ _ fun e he=>by
  unfold aG at he
  obtain⟨x,hx,rfl⟩:=List.mem_map.1 he
  obtain⟨i,hi,rfl⟩:=oP.1 hx
  obtain⟨k0,k1,d0,d1,hp⟩:=hok.lok i hi
  exact⟨by show(Am.get c.y9 i).keep.toNat≤100;omega,hp⟩
 have l1:(R5 c).length=c.rules.length:=by simp[R5]
 have l2:(aG c).length=c.y9.length:=by simp[aG]
 have k1:=hok.rules
 have k2:=hok.y9
 refine⟨?_,by show(fol a.rules (R5 c) 0).length≤_;omega,by show(fol a.y9 (aG c) 0).length≤_;omega,fun y hy=>?_,fun y hy=>?_,?_⟩
 ·show Ja (og a c)
  unfold og
  split
  ·exact hc.hier _ (get_mem (by omega))
  ·exact ha.hier
 ·rcases Cr _ _ hy with h|⟨e,he,h⟩
  ·exact ha.rule _ h
  ·unfold R5 at he
   obtain⟨x,hx,rfl⟩:=List.mem_map.1 he
   exact hc.rules _ hx _ h
 ·rcases Cr _ _ hy with h|⟨e,he,h⟩
  ·exact ha.lex _ h
  ·unfold aG at he
   obtain⟨x,hx,rfl⟩:=List.mem_map.1 he
   exact hc.y9 _ hx _ h
 ·show wh (oU a c)
  unfold oU
  split
  ·exact hc.start _ (get_mem (by omega))
  ·exact ha.start
def mY:x6:=⟨⟨[],[]⟩,[],[],⟨[]⟩⟩
def Lv(a:x6)(c:y8)(f:w9)(r:x6×w9):Prop:=(¬Fits a c∧r=(mY,⟨9, -2⟩))∨(Fits a c∧f.code≠0∧r=(mY,⟨f.code, -3⟩))∨(Fits a c∧f.code=0∧r=(Ph a c,⟨0,0⟩))
theorem Lv.uniq{a:x6}{c:y8}{f:w9}{r s:x6×w9}(h:Lv a c f r)(k:Lv a c f s):r=s:=by
 rcases h with⟨h1,rfl⟩|⟨h1,h2,rfl⟩|⟨h1,h2,rfl⟩<;>rcases k with⟨k1,rfl⟩|⟨k1,k2,rfl⟩|⟨k1,k2,rfl⟩
 ·rfl
 ·exact absurd k1 h1
 ·exact absurd k1 h1
 ·exact absurd h1 k1
 ·rfl
 ·exact absurd k2 h2
 ·exact absurd h1 k1
 ·exact absurd h2 k2
 ·rfl
theorem tv{a:x6}{c:y8}(hc:Hw c)(h1:a.rules.length≤100)(h2:a.y9.length≤100){f:w9}(hf:Evt (fun n=>G5 n (Ph a c)) (fun r=>r=f)):Evt (fun n=>H7 n a c) (Lv a c f):=by
 have core:∀(j0:List w6×List y3) (j1:List w8),j0=((og a c).types,(og a c).B5)→j1=(oU a c).nodes→Evt (fun n=>F8 n c a j0 j1) (Lv a c f):=fun j0 j1 e0 e1=>by
  subst e0 e1
  unfold F8
  refine Evt.C1 (Az hc h1) (fun t2 ht2=>?_) (fun r hr=>hr.elim)
  have ht2:t2=_:=ht2
  subst ht2
  unfold O8
  refine Evt.C1 (Cv hc h2) (fun t7 ht7=>?_) (fun r hr=>hr.elim)
  have ht7:t7=_:=ht7
  subst ht7
  unfold O9
  refine Evt.cond (fun e=>Evt.pure (.inl ⟨fun h=>?_,rfl⟩)) (fun e=>?_)
  ·rw[h.1,h.2]at e
   simp at e
  ·have hfit:Fits a c:=by
    simp only[Bool.cond_true_left,Bool.or_eq_false_iff,Bool.not_eq_false',decide_eq_true_eq]at e
    exact⟨by omega,by omega⟩
   refine Evt.bind hf fun v hv=>?_
   subst hv
   refine Evt.cond (fun e2=>Evt.pure (.inr (.inl ⟨hfit,?_,rfl⟩))) (fun e2=>Evt.pure (.inr (.inr ⟨hfit,?_,rfl⟩)))
   ·replace e2:=bx e2
    exact e2
   ·replace e2:=bx e2
    exact e2
 have Od:∀(j0:List w6×List y3),j0=((og a c).types,(og a c).B5)→Evt (fun n=>F9 n c a j0) (Lv a c f):=fun j0 e0=>by
  unfold F9
  refine Evt.cond (fun e=>Evt.chk ?_ (core _ _ e0 ?_)) (fun e=>core _ _ e0 ?_)
  ·replace e:=bx e
   omega
  ·replace e:=bx e
   unfold oU
   rw[if_pos (by omega)]
  ·replace e:=bx e
   unfold oU
   rw[if_neg (by omega)]
 unfold H7
 refine Evt.cond (fun e=>Evt.chk ?_ (Od _ ?_)) (fun e=>Od _ ?_)
 ·replace e:=bx e
  omega
 ·replace e:=bx e
  unfold og
  rw[if_pos (by omega)]
 ·replace e:=bx e
  unfold og
  rw[if_neg (by omega)]
theorem AG{α β:Type}[Inhabited α](l:List α)(hl:l.length≤1)(g:α→β)(b0:β):Evt (fun _=>D5 (ρ:=x6×w9) (fun(k:Nat) (_:β)=>some (Ctl.nxt (g (Am.get l k)))) l.length b0) (fun e=>e= .nxt (if l.length=1 then g (Am.get l 0)else b0)):=by
 match l,hl with
 | [],_=>exact Evt.pure rfl
 | [x],_=>exact Evt.pure rfl
theorem xX{α β:Type}[Inhabited α][Inhabited β](l:List α)(hl:l.length≤300)(g:α→β):Evt (fun _=>D5 (ρ:=x6×w9) (fun(k:Nat) (s:List β)=>cW (s++[g (Am.get l k)]) fun c=>chk (c.length*40≤top∧c.length≤top) (some (Ctl.nxt c))) l.length []) (ExP (fun t=>t.length=l.length∧∀k,k<t.length→Am.get t k=g (Am.get l k)) (fun _=>False)):=by
 refine(Evt.range (fun k (s:List β)=>s.length=k∧∀j,j<k→Am.get s j=g (Am.get l j)) (fun _=>False) (fun _=>False) ⟨rfl,fun j hj=>by omega⟩ (fun k s hk hs=>?_)).mono fun r hr=>?_
 ·obtain⟨h1,h2⟩:=hs
  have hlen:(s++[g (Am.get l k)]).length=k+1:=by simp[h1]
  refine Evt.cW (Evt.chk (by rw[hlen,cR];omega) (Evt.pure ⟨hlen,fun j hj=>?_⟩))
  show Am.get (s++[g (Am.get l k)]) j=_
  by_cases ej:j=k
  ·subst ej
   have:=kJ (l:=s) (x:=g (Am.get l j))
   rwa[h1]at this
  ·rw[oR (by omega)]
   exact h2 j (by omega)
 ·cases r with
  |nxt t=>obtain⟨h1,h2⟩:=hr.elim id False.elim
          exact⟨h1,fun k hk=>h2 k (by omega)⟩
  |ret x=>exact hr
theorem Je{a:x6}{c:y8}(ha:wj a)(hcB:uD c)(hg:IZ a)(hok:Hw c)(hv:Evt (fun n=>W1 n a) (fun f=>f.code=0))(hck:Evt (fun _=>gZ c) (fun f=>f.code=0)){f:w9}(hf:Evt (fun n=>W1 n (Ph a c)) (fun r=>r=f)):Evt (fun n=>jq n a c) (Lv a c f):=by
 have g2:=hg.rules
 have g3:=hg.y9
 unfold jq
 refine Evt.bind hv fun v hv=>Evt.cond (fun e=>?_) (fun _=>Evt.bind hck fun v hv=>Evt.cond (fun e=>?_) (fun _=>?_))
 ·replace e:=bx e
  exact absurd hv e
 ·replace e:=bx e
  exact absurd hv e
 refine Evt.C1 (xX (β:=x5) c.rules hok.rules (fun x=>x5.mk x.keep x.drop x.put)) (fun t0 ht0=>?_) (fun r hr=>hr.elim)
 unfold lZ
 refine Evt.C1 (xX (β:=x9) c.y9 hok.y9 (fun x=>x9.mk x.keep x.drop x.put)) (fun t1 ht1=>?_) (fun r hr=>hr.elim)
 unfold me
 refine Evt.C1 (AG c.hierarchy hok.hier (fun h=>(h.types,h.B5)) (a.hierarchy.types,a.hierarchy.B5)) (fun t2 ht2=>?_) (fun r hr=>by cases hr)
 unfold mg
 refine Evt.C1 (AG c.start hok.start (fun h=>h.nodes) a.start.nodes) (fun t3 ht3=>?_) (fun r hr=>by cases hr)
 have e2:t2=((og a c).types,(og a c).B5):=by
  cases ht2
  unfold og
  split<;>rfl
 have e3:t3=(oU a c).nodes:=by
  cases ht3
  unfold oU
  split<;>rfl
 subst e2 e3
 unfold mh
 refine Evt.bind (zh hok (by omega) ht0.1 ht0.2) fun v27 h27=>Evt.bind (AA hok (by omega) ht1.1 ht1.2) fun v28 h28=>?_
 refine Evt.cond (fun e=>?_) (fun e=>?_)
 ·refine Evt.bind (P:=fun v=>v=⟨9, -2⟩) (Evt.pure rfl) fun v hv=>Evt.pure (.inl ⟨fun h=>?_,by rw[hv];rfl⟩)
  rw[h27.1.2 h.1,h28.1.2 h.2]at e
  cases e
 ·simp only[Bool.cond_true_left,Bool.or_eq_false_iff,Bool.not_eq_false']at e
  have hfit:Fits a c:=⟨h27.1.1 e.1,h28.1.1 e.2⟩
  rw[h27.2 e.1,h28.2 e.2]
  refine Evt.bind hf fun v hv=>?_
  subst hv
  refine Evt.cond (fun e2=>?_) (fun e2=>?_)
  ·replace e2:=bx e2
   exact Evt.bind (P:=fun x=>x=⟨v.code, -3⟩) (Evt.pure rfl) fun x hx=>Evt.pure (.inr (.inl ⟨hfit,e2,by rw[hx];rfl⟩))
  ·replace e2:=bx e2
   exact Evt.bind (GO (JL ha hcB hok)) fun x hx=>Evt.pure (.inr (.inr ⟨hfit,e2,by rw[hx];rfl⟩))
theorem uE:wj mY:=⟨⟨by simp[mY]⟩,by simp[mY],by simp[mY],fun y hy=>(by cases hy),fun y hy=>(by cases hy),⟨by simp[mY],fun y hy=>(by cases hy)⟩⟩
theorem zV{a:x6}{c:y8}(ha:wj a)(hcB:uD c):Evt (fun n=>L5 n a c) (fun r=>r=true):=by
 have j4:∀(v:x6×w9) (j:Int×Int×(List w6)×(List y3)×(List w4)×(List x7)×(List w8)),wj v.1→j=(v.2.code,v.2.index,v.1.hierarchy.types,v.1.hierarchy.B5,v.1.rules,v.1.y9,v.1.start.nodes)→Evt (fun n=>E4 n v j) (fun r=>r=true):=fun v j hB hj=>by
  subst hj
  unfold E4
  simp only[decide_true,Bool.and_self,gI,cond_true]
  refine Evt.bind (AE hB _) fun r hr=>Evt.pure (hr.2 ?_)
  obtain⟨⟨⟨t,f⟩,r,l,⟨s⟩⟩,_⟩:=v
  rfl
 obtain⟨e,e',⟨rfl,he⟩,c1,c2⟩:=(GF c).split
 obtain⟨f,f',⟨rfl,hf⟩,g1,g2⟩:=(kR ha.holds).split
 have fin:Evt (fun n=>E5 n a c e ()) (fun r=>r=true):=by
  unfold E5
  by_cases hf0:f.code=0
  ·obtain⟨hfz,hg⟩:=hf hf0
   by_cases he0:e.code=0
   ·obtain⟨hez,hok⟩:=he he0
    have hB:=JL ha hcB hok
    obtain⟨k,k',⟨rfl,hk⟩,k1,k2⟩:=(kR hB.holds).split
    have r2:=hg.rules
    have r3:=hg.y9
    refine Evt.bind (Je ha hcB hg hok (g1.mono fun r hr=>by rw[hr];exact hf0) (c1.mono fun r hr=>by rw[hr];exact he0) k1) fun v10 h10=>Evt.bind g2 fun v11 h11=>?_
    subst h11
    rw[decide_eq_true hf0]
    show Evt (fun n=>C9 n a c v10 (e.code,e.index)) _
    unfold C9
    rw[decide_eq_true he0]
    show Evt (fun n=>(H7 n a c).bind _) _
    refine Evt.bind (tv hok (by omega) (by omega) k2) fun v12 h12=>?_
    have hvv:=h10.uniq h12
    subst hvv
    refine j4 v10 _ ?_ rfl
    rcases h10 with⟨_,rfl⟩|⟨_,_,rfl⟩|⟨_,_,rfl⟩
    ·exact uE
    ·exact uE
    ·exact hB
   ·refine Evt.bind (P:=fun r=>r=(mY,e)) ?_ fun v10 h10=>Evt.bind g2 fun v11 h11=>?_
    ·unfold jq
     refine Evt.bind g1 fun v hv=>?_
     subst hv
     refine Evt.cond (fun e2=>?_) (fun _=>Evt.bind c1 fun v hv=>?_)
     ·replace e2:=bx e2
      exact absurd hf0 e2
     ·subst hv
      refine Evt.cond (fun _=>Evt.pure rfl) (fun e2=>?_)
      replace e2:=bx e2
      exact absurd e2 he0
    ·subst h10 h11
     rw[decide_eq_true hf0]
     show Evt (fun n=>C9 n a c (mY,e) (e.code,e.index)) _
     unfold C9
     rw[decide_eq_false he0]
     exact j4 (mY,e) _ uE rfl
  ·refine Evt.bind (P:=fun r=>r=(mY,f)) ?_ fun v10 h10=>Evt.bind g2 fun v11 h11=>?_
   ·unfold jq
    refine Evt.bind g1 fun v hv=>?_
    subst hv
    refine Evt.cond (fun _=>Evt.pure rfl) (fun e2=>?_)
    replace e2:=bx e2
    exact absurd e2 hf0
   ·subst h10 h11
    rw[decide_eq_false hf0]
    show Evt (fun n=>C9 n a c (mY,v11) (v11.code,v11.index)) _
    unfold C9
    rw[decide_eq_false hf0]
    exact j4 (mY,v11) _ uE rfl
 unfold L5
 refine Evt.bind wW fun v hv=>Evt.cond (fun e=>?_) (fun _=>?_)
 ·subst hv;cases e
 by_cases he0:e.code=0
 ·obtain⟨hez,hok⟩:=he he0
  have n1:=hok.hier
  have n2:=hok.start
  have n3:=hok.rules
  have n4:=hok.y9
  refine Evt.bind (Lr c hok) fun v2 h2=>Evt.bind c2 fun v3 h3=>?_
  subst h3
  refine Evt.cond (fun e2=>?_) (fun _=>?_)
  ·replace e2:=bx e2
   exact absurd he0 e2
  obtain⟨s1,s2,s3,s4⟩:=h2
  have hw0:wr .i64 ((c.hierarchy.length:Int)+(c.start.length:Int))=(c.hierarchy.length:Int)+(c.start.length:Int):=G8 (by omega) (by omega)
  rw[hw0]
  refine Evt.C1 (P:=ExP (fun t:Int=>t=c.hierarchy.length+c.start.length+EB c.rules∧0≤t∧t≤2+200*300) (fun _=>False)) (Evt.loop (fun s:Int×Int=>c.rules.length-s.2.toNat) (fun s=>∃k:Nat,s.2=(k:Int)∧k≤c.rules.length∧s.1=c.hierarchy.length+c.start.length+EB (c.rules.take k)∧0≤s.1∧s.1≤2+200*(k:Int)) _ _ ⟨0,rfl,by omega,by simp[EB],by show(0:Int)≤(c.hierarchy.length:Int)+(c.start.length:Int);omega,by show(c.hierarchy.length:Int)+(c.start.length:Int)≤_;omega⟩ (fun s hs=>?_)) (fun t1 ht1=>?_) (fun r hr=>hr.elim)
  ·obtain⟨x,y⟩:=s
   obtain⟨k,e1,hk,q1,q2,q3⟩:=hs
   have e1:y=(k:Int):=e1
   subst e1
   simp only at q1 q2 q3
   have hw1:wr .i64 ((k:Int)+1)=((k+1:Nat):Int):=by rw[G8 (by omega) (by omega)];omega
   unfold I4
   simp only[hw1,Int.toNat_natCast]
   refine Evt.cond (fun e2=>?_) (fun e2=>Evt.pure ?_)
   ·replace e2:=bx e2
    have hlt:k<c.rules.length:=by omega
    obtain⟨a1,a2,a3,a4,a5⟩:=hok.rok k hlt
    have hs:=Aw hlt
    rw[G8 (n:=(Am.get c.rules k).drop+_) (by omega) (by omega),G8 (by omega) (by omega)]
    refine Evt.chk (by omega) (Evt.pure ⟨⟨k+1,rfl,by omega,?_,?_,?_⟩,by show c.rules.length-((k+1:Nat):Int).toNat<c.rules.length-(k:Int).toNat;omega⟩)
    ·show x+_=_
     omega
    ·show 0≤x+_
     omega
    ·show x+_≤_
     omega
   ·replace e2:=bx e2
    have:k=c.rules.length:=by omega
    subst this
    rw[List.take_length]at q1
    exact⟨q1,q2,by show x≤_;omega⟩
  ·obtain⟨p1,p2,p3⟩:=ht1
   unfold I5
   refine Evt.C1 (P:=ExP (fun t:Int=>t=c.hierarchy.length+c.start.length+EB c.rules+Jb c.y9) (fun _=>False)) (Evt.loop (fun s:Int×Int=>c.y9.length-s.1.toNat) (fun s=>∃k:Nat,s.1=(k:Int)∧k≤c.y9.length∧s.2=c.hierarchy.length+c.start.length+EB c.rules+Jb (c.y9.take k)∧0≤s.2∧s.2≤2+200*300+200*(k:Int)) _ _ ⟨0,rfl,by omega,by simp[Jb,p1],p2,by show t1≤_;omega⟩ (fun s hs=>?_)) (fun t2 ht2=>?_) (fun r hr=>hr.elim)
   ·obtain⟨y,x⟩:=s
    obtain⟨k,e1,hk,q1,q2,q3⟩:=hs
    have e1:y=(k:Int):=e1
    subst e1
    simp only at q1 q2 q3
    have hw1:wr .i64 ((k:Int)+1)=((k+1:Nat):Int):=by rw[G8 (by omega) (by omega)];omega
    unfold I6
    simp only[hw1,Int.toNat_natCast]
    refine Evt.cond (fun e2=>?_) (fun e2=>Evt.pure ?_)
    ·replace e2:=bx e2
     have hlt:k<c.y9.length:=by omega
     obtain⟨a1,a2,a3,a4,a5⟩:=hok.lok k hlt
     have hs:=Ax hlt
     rw[G8 (n:=(Am.get c.y9 k).drop+_) (by omega) (by omega),G8 (by omega) (by omega)]
     refine Evt.chk (by omega) (Evt.pure ⟨⟨k+1,rfl,by omega,?_,?_,?_⟩,by show c.y9.length-((k+1:Nat):Int).toNat<c.y9.length-(k:Int).toNat;omega⟩)
     ·show x+_=_
      omega
     ·show 0≤x+_
      omega
     ·show x+_≤_
      omega
    ·replace e2:=bx e2
     have:k=c.y9.length:=by omega
     subst this
     rw[List.take_length]at q1
     exact q1
   ·have ht2:t2=_:=ht2
    unfold I7
    refine Evt.cond (fun e2=>?_) (fun _=>fin)
    rw[s1,s2,ht2]at e2
    simp at e2
 ·refine Evt.bind (P:=fun r=>r=(0,e)) ?_ fun v2 h2=>Evt.bind c2 fun v3 h3=>?_
  ·unfold nN
   refine Evt.bind c1 fun v hv=>?_
   subst hv
   refine Evt.cond (fun _=>Evt.pure rfl) (fun e2=>?_)
   replace e2:=bx e2
   exact absurd e2 he0
  ·subst h2 h3
   refine Evt.cond (fun _=>Evt.cond (fun e2=>?_) (fun _=>fin)) (fun e2=>?_)
   ·simp at e2
   ·replace e2:=bx e2
    exact absurd e2 he0
end Go.Proofs.YtbgkcolebacbmaaGreatDoor
