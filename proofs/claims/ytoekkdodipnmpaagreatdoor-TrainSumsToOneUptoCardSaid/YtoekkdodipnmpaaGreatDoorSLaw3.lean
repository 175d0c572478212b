import Derived.Lib.Mul64
import Derived.Test.YtoekkdodipnmpaaGreatDoorSLaw2
set_option linter.unusedVariables false
set_option linter.unusedSimpArgs false
namespace Go.Proofs.YtoekkdodipnmpaaGreatDoor
open Go Go.Am
theorem rX{α:Type}[Inhabited α]{l m:List α}{i:Nat}:Am.get (l++m) (l.length+i)=Am.get m i:=by
 unfold Am.get
 rw[List.getD_eq_getElem?_getD,List.getD_eq_getElem?_getD,List.getElem?_append_right (by omega),Nat.add_sub_cancel_left]
def Good(x:Int):Prop:=0≤x∧x≤1000000
def EO(l:List Int)(f:w5):Prop:=(f=⟨0,0⟩∧∀k,k<l.length→Good (Am.get l k))∨∃i:Nat,i<l.length∧f=⟨3,(i:Int)⟩∧¬Good (Am.get l i)∧∀k,k<i→Good (Am.get l k)
theorem EO.uniq{l:List Int}{f g:w5}(h:EO l f)(k:EO l g):f=g:=by
 rcases h with⟨rfl,h⟩|⟨i,hi,rfl,h1,h2⟩<;>rcases k with⟨rfl,k⟩|⟨j,hj,rfl,k1,k2⟩
 ·rfl
 ·exact absurd (h j hj) k1
 ·exact absurd (k i hi) h1
 ·rcases Nat.lt_trichotomy i j with e|e|e
  ·exact absurd (k2 i e) h1
  ·rw[e]
  ·exact absurd (h2 j e) k1
theorem wS(c:C4)(h:c.rules.length+c.B3.length≤1000):Evt (fun _=>C6 (E0 (eI c) c.rules.length ()) (eJ c)) (EO (c.rules++c.B3)):=by
 refine Evt.C6 (Evt.range (fun k _=>∀j,j<k→Good (Am.get (c.rules++c.B3) j)) (fun _=>False) (EO (c.rules++c.B3)) (fun j hj=>by omega) (fun k s hk hi=>?_)) (fun t ht=>?_) (fun r hr=>hr)
 ·have hg:Am.get (c.rules++c.B3) k=Am.get c.rules k:=ep hk
  unfold eI bh
  refine Evt.cond (fun e=>Evt.bind (P:=fun f=>f=⟨3,(k:Int)⟩) (Evt.pure rfl) fun f hf=>Evt.pure ?_) (fun e=>Evt.pure fun j hj=>?_)
  ·replace e:=bx e
   subst hf
   exact .inr ⟨k,by rw[List.length_append];omega,rfl,by rw[hg];unfold Good;omega,hi⟩
  ·replace e:=bx e
   by_cases ej:j=k
   ·subst ej;rw[hg];unfold Good;omega
   ·exact hi j (by omega)
 ·have ht:=ht.elim id False.elim
  unfold eJ
  refine Evt.C6 (Evt.range (fun k _=>∀j,j<c.rules.length+k→Good (Am.get (c.rules++c.B3) j)) (fun _=>False) (EO (c.rules++c.B3)) ht (fun k s hk hi=>?_)) (fun t ht=>Evt.pure (.inl ⟨rfl,fun k hk=>?_⟩)) (fun r hr=>hr)
  ·have hg:Am.get (c.rules++c.B3) (c.rules.length+k)=Am.get c.B3 k:=rX
   unfold gC bh
   have hw:wr .i64 ((c.rules.length:Int)+(k:Int))=((c.rules.length+k:Nat):Int):=by rw[N9 (by omega) (by omega)];omega
   rw[hw]
   refine Evt.cond (fun e=>Evt.bind (P:=fun f=>f=⟨3,((c.rules.length+k:Nat):Int)⟩) (Evt.pure rfl) fun f hf=>Evt.pure ?_) (fun e=>Evt.pure fun j hj=>?_)
   ·replace e:=bx e
    subst hf
    exact .inr ⟨c.rules.length+k,by rw[List.length_append];omega,rfl,by rw[hg];unfold Good;omega,hi⟩
   ·replace e:=bx e
    by_cases ej:j=c.rules.length+k
    ·subst ej;rw[hg];unfold Good;omega
    ·exact hi j (by omega)
  ·rw[List.length_append]at hk
   exact(ht.elim id False.elim) k hk
theorem vd(c:C4)(h:c.rules.length+c.B3.length≤1000):Evt (fun n=>C6 (V9 (I5 c) n 0) (N5)) (EO (c.rules++c.B3)):=by
 have hw:wr .i64 ((c.rules.length:Int)+(c.B3.length:Int))=((c.rules.length+c.B3.length:Nat):Int):=by rw[N9 (by omega) (by omega)];omega
 refine Evt.C6 (P:=ExP (fun _=>∀k,k<c.rules.length+c.B3.length→Good (Am.get (c.rules++c.B3) k)) (EO (c.rules++c.B3))) (Evt.loop (fun s:Int=>c.rules.length+c.B3.length-s.toNat) (fun s=>∃k:Nat,s=k∧k≤c.rules.length+c.B3.length∧∀j,j<k→Good (Am.get (c.rules++c.B3) j)) _ _ ⟨0,rfl,by omega,fun j hj=>by omega⟩ (fun s hs=>?_)) (fun t ht=>Evt.pure (.inl ⟨rfl,fun k hk=>ht k (by rw[List.length_append]at hk;exact hk)⟩)) (fun r hr=>hr)
 obtain⟨k,rfl,hk,hi⟩:=hs
 have hw1:wr .i64 ((k:Int)+1)=((k+1:Nat):Int):=by rw[N9 (by omega) (by omega)];omega
 have step:∀x:Int,x=Am.get (c.rules++c.B3) k→k<c.rules.length+c.B3.length→Evt (fun _=>F7 (k:Int) x) (Ew (fun s=>(∃k:Nat,s=k∧k≤c.rules.length+c.B3.length∧∀j,j<k→Good (Am.get (c.rules++c.B3) j))∧c.rules.length+c.B3.length-s.toNat<c.rules.length+c.B3.length-(k:Int).toNat) (fun _=>∀k,k<c.rules.length+c.B3.length→Good (Am.get (c.rules++c.B3) k)) (EO (c.rules++c.B3))):=fun x hx hlt=>by
  unfold F7
  rw[hw1]
  refine Evt.cond (fun e=>Evt.pure ?_) (fun e=>Evt.pure ⟨⟨k+1,rfl,by omega,fun j hj=>?_⟩,by omega⟩)
  ·replace e:=bx e
   exact .inr ⟨k,by rw[List.length_append];omega,rfl,by rw[←hx];unfold Good;omega,hi⟩
  ·replace e:=bx e
   by_cases ej:j=k
   ·subst ej;rw[←hx];unfold Good;omega
   ·exact hi j (by omega)
 unfold I5
 rw[hw]
 refine Evt.cond (fun e=>Evt.cond (fun e2=>?_) (fun e2=>?_)) (fun e=>Evt.pure ?_)
 ·replace e:=bx e;replace e2:=bx e2
  rw[Int.toNat_natCast]
  exact Evt.chk (by omega) (step _ (ep (by omega)).symm (by omega))
 ·replace e:=bx e;replace e2:=bx e2
  have hw2:wr .i64 ((k:Int)-(c.rules.length:Int))=((k-c.rules.length:Nat):Int):=by rw[N9 (by omega) (by omega)];omega
  rw[hw2,Int.toNat_natCast]
  refine Evt.chk (by omega) (step _ ?_ (by omega))
  have:=rX (l:=c.rules) (m:=c.B3) (i:=k-c.rules.length)
  rw[←this]
  congr 1
  omega
 ·replace e:=bx e
  exact fun j hj=>hi j (by omega)
theorem sU{g:y7}(hm:Holds g)(c:C4):Ev2 (fun n=>gJ n g c) (fun n=>H8 n g c) (nQ (rO g∧FG g c 1000000)):=by
 unfold gJ H8
 refine Ev2.bind (mV hm) fun f f' hf=>?_
 obtain⟨rfl,hf⟩:=hf
 refine Ev2.cond rfl (fun e=>Ev2.pure ⟨rfl,fun h=>?_⟩) (fun e=>?_)
 ·replace e:=bx e
  exact absurd h e
 replace e:=bx e
 have hg:=(hf e).2
 refine Ev2.cond rfl (fun _=>Ev2.bZ (A:=fun f=>f=⟨9, -2⟩) (Evt.pure rfl) fun f hf=>by subst hf;exact Ev2.pure (P5 (by decide))) (fun e2=>?_)
 replace e2:=bx e2
 have g2:=hg.rules
 have g3:=hg.B3
 have h1:c.rules.length=g.rules.length:=by omega
 have h2:c.B3.length=g.B3.length:=by omega
 refine(Ev2.both (wS c (by omega)) (vd c (by omega))).mono fun a b hab=>?_
 refine⟨hab.1.uniq hab.2,fun h0=>?_⟩
 rcases hab.1 with⟨_,qU⟩|⟨i,_,rfl,_⟩
 ·rw[List.length_append]at qU
  refine⟨hg,h1,h2,fun k hk=>?_,fun k hk=>?_⟩
  ·have:=qU k (by omega)
   rw[ep (by omega)]at this
   exact this
  ·have:=qU (c.rules.length+k) (by omega)
   rw[rX]at this
   exact this
 ·exact absurd (show(3:Int)=0 from h0) (by decide)
theorem yS{g:y7}(hg:rO g){k:Nat}(hk:k<g.rules.length)(x:Int):Evt (fun _=>G1 g (k:Int) x) (fun v=>v=aW g k):=by
 obtain⟨v,hm,ht,hc⟩:=rS hg hk
 unfold G1
 refine Evt.cond (fun e=>?_) (fun _=>?_)
 ·replace e:=bx e
  omega
 rw[Int.toNat_natCast]
 refine Evt.chk (by omega) (Evt.bind (AU (hg.rule k hk).graph hm) fun u hu=>?_)
 subst hu
 exact Evt.chk ⟨hm.2.1,hm.2.2⟩ (Evt.pure ht)
theorem yT{g:y7}(hg:rO g){k:Nat}(hk:k<g.B3.length):Evt (fun _=>G1 g (-1) (k:Int)) (fun v=>v=cL g k):=by
 obtain⟨ht,hc⟩:=rT hg hk
 have hs:=(hg.lex k hk).graph.some
 unfold G1
 refine Evt.cond (fun _=>?_) (fun e=>?_)
 ·rw[Int.toNat_natCast]
  exact Evt.chk (by omega) (Evt.chk (by omega) (Evt.pure ht))
 ·replace e:=bx e
  omega
theorem FG.sums{g:y7}(hg:rO g){c:C4}(hc:FG g c 1000000):(∀k cl,k≤g.rules.length→0≤acc (aW g) (fun k=>Am.get c.rules k) k cl∧acc (aW g) (fun k=>Am.get c.rules k) k cl≤40000000)∧∀k cl,k≤g.B3.length→0≤acc (cL g) (fun k=>Am.get c.B3 k) k cl∧acc (cL g) (fun k=>Am.get c.B3 k) k cl≤100000000:=by
 have g2:=hg.rules
 have g3:=hg.B3
 refine⟨fun k cl hk=>?_,fun k cl hk=>?_⟩
 ·have:=jC (cls:=aW g) (v:=fun k=>Am.get c.rules k) (M:=1000000) (by omega) k cl (fun j hj=>hc.vr j (by omega))
  omega
 ·have:=jC (cls:=cL g) (v:=fun k=>Am.get c.B3 k) (M:=1000000) (by omega) k cl (fun j hj=>hc.vl j (by omega))
  omega
theorem pq{g:y7}(hm:Holds g)(c:C4):Ev2 (fun n=>cV n g c) (fun n=>H8 n g c) (fun r f=>(f.code≠0∧r=([],[],f))∨(f.code=0∧rO g∧FG g c 1000000∧r.2.2.code=0∧WIs g c (r.1,r.2.1))):=by
 unfold cV
 obtain⟨f,f',⟨rfl,hf⟩,h1,h2⟩:=(sU hm c).split
 refine Ev2.bZ h1 fun a ha=>?_
 subst ha
 refine Ev2.AG (fun e=>?_) (fun e=>?_)
 ·replace e:=bx e
  exact(Ev2.both (Evt.pure (P:=fun r=>r=(([]:List w7),([]:List w7),a)) rfl) h2).mono fun r f h=>by obtain⟨rfl,rfl⟩:=h;exact .inl ⟨e,rfl⟩
 ·replace e:=bx e
  obtain⟨hg,hc⟩:=hf e
  refine(Ev2.both (Evt.bind (rV hg (hc.le (by omega))) fun r hr=>Evt.pure (P:=fun x:List w7×List w7×w5=>x.2.2.code=0∧WIs g c (x.1,x.2.1)) ⟨rfl,hr⟩) h2).mono fun r f h=>?_
  obtain⟨⟨h3,h4⟩,rfl⟩:=h
  exact .inr ⟨e,hg,hc,h3,h4⟩
theorem wu{x:Nat}(h:x<18446744073709551616):wr .u64 (x:Int)=x:=bQ h
theorem inU{x:Nat}(h:x<18446744073709551616):InK .u64 (x:Int):=by
 have e1:IntKind.u64.min=0:=by decide
 have e2:IntKind.u64.max=18446744073709551615:=by decide
 exact⟨by omega,by omega⟩
theorem EP(a b:Nat):Int.tdiv (a:Int) (b:Int)=((a / b:Nat):Int):=(Int.ofNat_tdiv a b).symm
theorem LZ(a b:Nat):Int.tmod (a:Int) (b:Int)=((a%b:Nat):Int):=(Int.ofNat_tmod a b).symm
theorem Ht(x:Int):wr .u64 x=x%18446744073709551616:=by
 have e1:IntKind.u64.min=0:=by decide
 unfold wr IntKind.wrap
 simp[IntKind.bits,IntKind.signed]
theorem CZ(x:Nat):Int.fdiv (x:Int) (2^(min 32 64))=((x / 4294967296:Nat):Int):=by
 have e:((2:Int)^(min 32 64))=((4294967296:Nat):Int):=by decide
 rw[e,Int.fdiv_eq_ediv_of_nonneg _ (by omega), ←Int.natCast_ediv]
theorem Hu{x:Nat}(hx:x<18446744073709551616):P3 .and .u64 (x:Int) 4294967295=((x%4294967296:Nat):Int):=by
 have h:=jw hx (y:=4294967295) (by decide)
 have e:((4294967295:Nat):Int)=4294967295:=rfl
 rw[e]at h
 rw[h]
 have:=Nat.and_two_pow_sub_one_eq_mod x 32
 have e2:(2:Nat)^32-1=4294967295:=by decide
 have e3:(2:Nat)^32=4294967296:=by decide
 rw[e2,e3]at this
 rw[this]
theorem vg{x y:Nat}(hx:x<18446744073709551616)(hy:y<18446744073709551616):Evt (fun _=>aQ x y) (fun r=>r=(((x*y / 18446744073709551616:Nat):Int),((x*y%18446744073709551616:Nat):Int))):=by
 obtain⟨h1,h2,h3,h4⟩:=Lib.mul64_hi x y hx hy
 have b1:=Lib.half_mul_le (a:=x / 4294967296) (b:=y%4294967296) (by omega) (by omega)
 have b2:=Lib.half_mul_le (a:=x%4294967296) (b:=y / 4294967296) (by omega) (by omega)
 have b3:=Lib.half_mul_le (a:=x / 4294967296) (b:=y / 4294967296) (by omega) (by omega)
 have hh:x*y / 18446744073709551616<18446744073709551616:=by
  have:x*y≤18446744073709551615*18446744073709551615:=Nat.mul_le_mul (by omega) (by omega)
  omega
 unfold aQ
 refine Evt.pure (Prod.ext ?_ ?_)
 ·show wr .u64 _=_
  rw[←h4]at hh⊢
  simp only[CZ,Hu hx,Hu hy, ←Int.natCast_mul, ←Int.natCast_add,wu h1,wu (show x / 4294967296*(y%4294967296)<18446744073709551616 by omega),wu (show x%4294967296*(y / 4294967296)<18446744073709551616 by omega),wu (show x / 4294967296*(y / 4294967296)<18446744073709551616 by omega)]
  rw[wu h2]
  simp only[CZ,Hu h2, ←Int.natCast_add]
  rw[wu h3]
  simp only[CZ, ←Int.natCast_add]
  rw[wu (show x / 4294967296*(y / 4294967296)+(x / 4294967296*(y%4294967296)+x%4294967296*(y%4294967296) / 4294967296) / 4294967296<18446744073709551616 by omega)]
  simp only[←Int.natCast_add]
  exact wu hh
 ·show wr .u64 ((x:Int)*y)=_
  rw[←Int.natCast_mul,Ht]
  omega
theorem sV{x y:Nat}(hx:x<18446744073709551616)(hy:y<18446744073709551616):Evt (fun _=>dG x y) (fun r=>r.2=decide (x*y≤1152921504606846976)∧(x*y≤1152921504606846976→r.1=((x*y:Nat):Int))):=by
 unfold dG
 refine Evt.bind (vg hx hy) fun v hv=>Evt.pure ?_
 subst hv
 generalize x*y=p
 refine⟨?_,fun h=>by show((p%18446744073709551616:Nat):Int)=_;omega⟩
 show(bif decide (((p / 18446744073709551616:Nat):Int)=0)then decide (((p%18446744073709551616:Nat):Int)≤1152921504606846976)else false)=_
 by_cases h:p<18446744073709551616
 ·rw[decide_eq_true (show((p / 18446744073709551616:Nat):Int)=0 by omega)]
  show decide _=_
  by_cases h2:p≤1152921504606846976
  ·rw[decide_eq_true h2,decide_eq_true (by omega)]
  ·rw[decide_eq_false h2,decide_eq_false (by omega)]
 ·rw[decide_eq_false (show ¬((p / 18446744073709551616:Nat):Int)=0 by omega),decide_eq_false (show ¬p≤1152921504606846976 by omega)];rfl
theorem jY{m n:Nat}(h:0<Nat.gcd m n):Nat.gcd (m / Nat.gcd m n) (n / Nat.gcd m n)=1:=by
 have e:=Nat.gcd_mul_left (Nat.gcd m n) (m / Nat.gcd m n) (n / Nat.gcd m n)
 rw[Nat.mul_div_cancel' (Nat.gcd_dvd_left m n),Nat.mul_div_cancel' (Nat.gcd_dvd_right m n)]at e
 have e2:Nat.gcd m n*1=Nat.gcd m n*Nat.gcd (m / Nat.gcd m n) (n / Nat.gcd m n):=by rw[Nat.mul_one];exact e
 exact(Nat.eq_of_mul_eq_mul_left h e2).symm
structure FV(f:w7)(n d:Nat):Prop where
 e:f=⟨(n:Int),(d:Int)⟩
 pos:0<d
 top:d≤1152921504606846976
 num:n≤1152921504606846976
 co:Nat.gcd n d=1
theorem yU{a t:Nat}(ha:a≤1152921504606846976)(ht:t≤1152921504606846976):∃n d,FV (L2 a t) n d:=by
 unfold L2
 by_cases h:0<t
 ·rw[if_pos h]
  have hg:0<Nat.gcd a t:=Nat.gcd_pos_of_pos_right _ h
  have h1:a / Nat.gcd a t≤a:=Nat.div_le_self _ _
  have h2:t / Nat.gcd a t≤t:=Nat.div_le_self _ _
  have h3:0<t / Nat.gcd a t:=Nat.div_pos (Nat.gcd_le_right _ h) hg
  exact⟨_,_,rfl,h3,by omega,by omega,jY hg⟩
 ·rw[if_neg h]
  exact⟨0,1,rfl,by omega,by omega,by omega,by decide⟩
theorem wT{f:w7}{n d:Nat}(h:FV f n d)(at_:Int):Evt (fun m=>hY m f at_) (fun r=>r=⟨0,0⟩):=by
 obtain⟨rfl,h1,h2,h3,h4⟩:=h
 unfold hY
 refine Evt.cond (fun e=>?_) (fun _=>?_)
 ·replace e:=bx e
  have e:((((n:Int)< -1152921504606846976∨1152921504606846976<(n:Int))∨(d:Int)<1)∨1152921504606846976<(d:Int)):=e
  omega
 ·refine Evt.bind (hJ n h3) fun v hv=>?_
  subst hv
  show Evt (fun m=>(hH m (n:Int) (wr .u64 (d:Int))).bind _) _
  rw[wu (by omega)]
  refine Evt.bind (lR n d) fun v hv=>?_
  rw[hv,h4]
  exact Evt.pure rfl
theorem jD{a t:Nat}(h:0<t):L2 a t=⟨((a / Nat.gcd a t:Nat):Int),((t / Nat.gcd a t:Nat):Int)⟩:=by
 unfold L2;rw[if_pos h]
theorem Da{n d s t:Nat}(hd:0<d)(ht:0<t)(hco:Nat.gcd n d=1)(h:n*t=s*d):L2 s t=⟨(n:Int),(d:Int)⟩:=by
 have h1:d∣t:=by
  have:d∣n*t:=⟨s,by rw[h,Nat.mul_comm]⟩
  exact(show Nat.Coprime d n by rw[Nat.Coprime,Nat.gcd_comm];exact hco).dvd_of_dvd_mul_left this
 obtain⟨k,rfl⟩:=h1
 have hk:0<k:=Nat.pos_of_mul_pos_left ht
 have h2:s=n*k:=by
  have:n*k*d=s*d:=by rw[←h,Nat.mul_assoc,Nat.mul_comm k d]
  exact(Nat.eq_of_mul_eq_mul_right hd this).symm
 subst h2
 rw[jD ht,Nat.gcd_mul_right,hco,Nat.one_mul,Nat.mul_div_cancel _ hk,Nat.mul_div_cancel _ hk]
theorem Ma{a b c d:Nat}(hab:Nat.gcd a b=1)(hcd:Nat.gcd c d=1)(hb:0<b)(hd:0<d):
 Nat.gcd ((a*(d / Nat.gcd b d)+c*(b / Nat.gcd b d)) / Nat.gcd (a*(d / Nat.gcd b d)+c*(b / Nat.gcd b d)) (Nat.gcd b d)) (b / Nat.gcd b d*(d / Nat.gcd (a*(d / Nat.gcd b d)+c*(b / Nat.gcd b d)) (Nat.gcd b d)))=1∧
 (a*(d / Nat.gcd b d)+c*(b / Nat.gcd b d)) / Nat.gcd (a*(d / Nat.gcd b d)+c*(b / Nat.gcd b d)) (Nat.gcd b d)*(b*d)=(a*d+c*b)*(b / Nat.gcd b d*(d / Nat.gcd (a*(d / Nat.gcd b d)+c*(b / Nat.gcd b d)) (Nat.gcd b d))):=by
 have p:0<Nat.gcd b d:=Nat.gcd_pos_of_pos_left _ hb
 have k:=jY p
 obtain⟨b',eb⟩:=Nat.gcd_dvd_left b d
 obtain⟨d',ed⟩:=Nat.gcd_dvd_right b d
 have e1:b / Nat.gcd b d=b':=Nat.div_eq_of_eq_mul_right p eb
 have e2:d / Nat.gcd b d=d':=Nat.div_eq_of_eq_mul_right p ed
 rw[e1,e2]at k⊢
 generalize Nat.gcd b d=g at*
 generalize hn:a*d'+c*b'=n
 have q:0<Nat.gcd n g:=Nat.gcd_pos_of_pos_right _ p
 have k2:=jY q
 obtain⟨n',en⟩:=Nat.gcd_dvd_left n g
 obtain⟨g',eg⟩:=Nat.gcd_dvd_right n g
 have f1:n / Nat.gcd n g=n':=Nat.div_eq_of_eq_mul_right q en
 have f2:g / Nat.gcd n g=g':=Nat.div_eq_of_eq_mul_right q eg
 rw[f1,f2]at k2
 generalize Nat.gcd n g=h at*
 have f3:d / h=g'*d':=by rw[ed,eg,Nat.mul_assoc,Nat.mul_div_cancel_left _ q]
 rw[f1,f3]
 have ca:Nat.Coprime a b':=by
  have h1:Nat.gcd a b'∣Nat.gcd a b:=Nat.dvd_gcd (Nat.gcd_dvd_left _ _) (Nat.dvd_trans (Nat.gcd_dvd_right _ _) ⟨g,by rw[eb,Nat.mul_comm]⟩)
  rw[hab]at h1;exact Nat.dvd_one.1 h1
 have cc:Nat.Coprime c d':=by
  have h1:Nat.gcd c d'∣Nat.gcd c d:=Nat.dvd_gcd (Nat.gcd_dvd_left _ _) (Nat.dvd_trans (Nat.gcd_dvd_right _ _) ⟨g,by rw[ed,Nat.mul_comm]⟩)
  rw[hcd]at h1;exact Nat.dvd_one.1 h1
 have cn1:Nat.Coprime n b':=by
  have h1:Nat.gcd n b'∣Nat.gcd (a*d') b':=by
   refine Nat.dvd_gcd ?_ (Nat.gcd_dvd_right _ _)
   have h3:Nat.gcd n b'∣a*d'+c*b':=by rw[hn];exact Nat.gcd_dvd_left n b'
   exact(Nat.dvd_add_left (Nat.dvd_trans (Nat.gcd_dvd_right n b') ⟨c,Nat.mul_comm _ _⟩)).1 h3
  have h2:Nat.Coprime (a*d') b':=Nat.Coprime.mul_left ca (show Nat.Coprime d' b' by rw[Nat.Coprime,Nat.gcd_comm];exact k)
  rw[h2]at h1;exact Nat.dvd_one.1 h1
 have cn2:Nat.Coprime n d':=by
  have h1:Nat.gcd n d'∣Nat.gcd (c*b') d':=by
   refine Nat.dvd_gcd ?_ (Nat.gcd_dvd_right _ _)
   have h3:Nat.gcd n d'∣a*d'+c*b':=by rw[hn];exact Nat.gcd_dvd_left n d'
   exact(Nat.dvd_add_right (Nat.dvd_trans (Nat.gcd_dvd_right n d') ⟨a,Nat.mul_comm _ _⟩)).1 h3
  have h2:Nat.Coprime (c*b') d':=Nat.Coprime.mul_left cc k
  rw[h2]at h1;exact Nat.dvd_one.1 h1
 have dn:n'∣n:=⟨h,by rw[en,Nat.mul_comm]⟩
 have c1:Nat.Coprime n' b':=Nat.Coprime.coprime_dvd_left dn cn1
 have c2:Nat.Coprime n' d':=Nat.Coprime.coprime_dvd_left dn cn2
 refine⟨Nat.Coprime.mul_right c1 (Nat.Coprime.mul_right k2 c2),?_⟩
 have hn2:a*d+c*b=g*n:=by
  rw[←hn,eb,ed,Nat.mul_add]
  congr 1
  ·rw[Nat.mul_left_comm]
  ·rw[Nat.mul_left_comm]
 have hbd:b*d=g*b'*(g*d'):=by rw[←eb, ←ed]
 rw[hn2,hbd,en]
 rw[eg]
 simp only[Nat.mul_assoc,Nat.mul_comm,Nat.mul_left_comm]
theorem zU{l y:Nat}(hl:l<18446744073709551616)(h0:0<y):Evt (fun _=>cG 0 l y) (fun r=>r=(((l / y:Nat):Int),((l%y:Nat):Int))):=by
 unfold cG
 refine Evt.cond (fun e=>?_) (fun _=>?_)
 ·replace e:=bx e
  omega
 unfold dx
 refine Evt.cond (fun e=>?_) (fun _=>?_)
 ·replace e:=bx e
  omega
 unfold dy
 refine Evt.cond (fun _=>?_) (fun e=>?_)
 ·rw[EP,LZ]
  have:l / y≤l:=Nat.div_le_self _ _
  exact Evt.chk ⟨by omega,inU (by omega)⟩ (Evt.pure rfl)
 ·simp at e
theorem tS{x y c:Nat}(hc:c≤1):Evt (fun _=>rA x y c) (fun r=>r=((((x+y+c)%18446744073709551616:Nat):Int),(((x+y+c) / 18446744073709551616:Nat):Int))):=by
 unfold rA
 exact Evt.chk ⟨by omega,by omega,by omega,by omega⟩ (Evt.pure (by simp))
theorem rY{s t:Nat}(h:0<t)(ht:t≤1000000000)(hs:s≤t):∃n d:Nat,L2 s t=⟨(n:Int),(d:Int)⟩∧0<d∧d≤t∧n≤t∧Nat.gcd n d=1∧n*t=s*d:=by
 have hg:0<Nat.gcd s t:=Nat.gcd_pos_of_pos_right _ h
 refine⟨_,_,jD h,Nat.div_pos (Nat.gcd_le_right _ h) hg,Nat.div_le_self _ _,Nat.le_trans (Nat.div_le_self _ _) hs,jY hg,?_⟩
 obtain⟨x,ex⟩:=Nat.gcd_dvd_left s t
 obtain⟨y,ey⟩:=Nat.gcd_dvd_right s t
 have e1:s / Nat.gcd s t=x:=Nat.div_eq_of_eq_mul_right hg ex
 have e2:t / Nat.gcd s t=y:=Nat.div_eq_of_eq_mul_right hg ey
 rw[e1,e2]
 generalize Nat.gcd s t=g at*
 rw[ex,ey]
 simp only[Nat.mul_assoc,Nat.mul_comm,Nat.mul_left_comm]
theorem AV{s c t:Nat}(h:0<t)(ht:t≤1000000000)(hs:s+c≤t):Evt (fun n=>rZ n (L2 s t) (L2 c t)) (fun r=>r=(L2 (s+c) t,⟨0,0⟩)):=by
 obtain⟨a,b,e1,hb,hb2,ha,hab,q1⟩:=rY h ht (show s≤t by omega)
 obtain⟨u,d,e2,hd,hd2,hu,hud,q2⟩:=rY h ht (show c≤t by omega)
 rw[e1,e2]
 have p:0<Nat.gcd b d:=Nat.gcd_pos_of_pos_left _ hb
 obtain⟨k1,k2⟩:=Ma hab hud hb hd
 have gb:Nat.gcd b d≤b:=Nat.gcd_le_left _ hb
 have b1:b / Nat.gcd b d≤b:=Nat.div_le_self _ _
 have d1:d / Nat.gcd b d≤d:=Nat.div_le_self _ _
 have bp:0<b / Nat.gcd b d:=Nat.div_pos gb p
 have hN:(a*d+u*b)*t=(s+c)*(b*d):=by
  have r1:a*d*t=s*(b*d):=by rw[Nat.mul_right_comm,q1,Nat.mul_assoc]
  have r2:u*b*t=c*(b*d):=by rw[Nat.mul_right_comm,q2,Nat.mul_assoc,Nat.mul_comm d b]
  rw[Nat.add_mul,Nat.add_mul,r1,r2]
 have m1:a*(d / Nat.gcd b d)≤1000000000*1000000000:=Nat.mul_le_mul (by omega) (by omega)
 have m2:u*(b / Nat.gcd b d)≤1000000000*1000000000:=Nat.mul_le_mul (by omega) (by omega)
 unfold rZ
 rw[show wr .u64 (w7.mk (a:Int) (b:Int)).den=((b:Nat):Int)from wu (by omega),show wr .u64 (w7.mk (u:Int) (d:Int)).den=((d:Nat):Int)from wu (by omega)]
 refine Evt.bind (lR b d) fun v1 ev1=>Evt.bind (hJ a (by omega)) fun v2 ev2=>?_
 subst ev1;subst ev2
 rw[EP,EP]
 refine Evt.chk ⟨by omega,inU (by omega)⟩ (Evt.bind (vg (by omega) (by omega)) fun v5 ev5=>Evt.bind (hJ u (by omega)) fun v6 ev6=>?_)
 subst ev6
 refine Evt.chk (inU (by omega)) (Evt.bind (vg (by omega) (by omega)) fun v8 ev8=>?_)
 subst ev5;subst ev8
 generalize hx:a*(d / Nat.gcd b d)=x at*
 generalize hy:u*(b / Nat.gcd b d)=y at*
 rw[Nat.div_eq_of_lt (show x<18446744073709551616 by omega),Nat.div_eq_of_lt (show y<18446744073709551616 by omega),Nat.mod_eq_of_lt (show x<18446744073709551616 by omega),Nat.mod_eq_of_lt (show y<18446744073709551616 by omega)]
 have n1:decide ((w7.mk (a:Int) (b:Int)).num<0)=false:=decide_eq_false (show ¬(a:Int)<0 by omega)
 have n2:decide ((w7.mk (u:Int) (d:Int)).num<0)=false:=decide_eq_false (show ¬(u:Int)<0 by omega)
 rw[n1,n2]
 refine Evt.cond (fun _=>?_) (fun e=>by cases e)
 refine Evt.bind (tS (c:=0) (by omega)) fun v9 ev9=>?_
 subst ev9
 have z1:(x+y+0)%18446744073709551616=x+y:=by omega
 have z2:(x+y+0) / 18446744073709551616=0:=by omega
 rw[z1,z2]
 refine Evt.bind (tS (x:=0) (y:=0) (c:=0) (by omega)) fun v10 Oh=>?_
 subst Oh
 generalize hn:x+y=n at*
 unfold jE
 have key:0<n→L2 (s+c) t=⟨((n / Nat.gcd n (Nat.gcd b d):Nat):Int),((b / Nat.gcd b d*(d / Nat.gcd n (Nat.gcd b d)):Nat):Int)⟩∧n / Nat.gcd n (Nat.gcd b d)≤b / Nat.gcd b d*(d / Nat.gcd n (Nat.gcd b d)):=fun _=>by
  have gg:Nat.gcd n (Nat.gcd b d)≤d:=Nat.le_trans (Nat.gcd_le_right _ p) (Nat.gcd_le_right _ hd)
  have qd:0<d / Nat.gcd n (Nat.gcd b d):=Nat.div_pos gg (Nat.gcd_pos_of_pos_right _ p)
  suffices he:n / Nat.gcd n (Nat.gcd b d)*t=(s+c)*(b / Nat.gcd b d*(d / Nat.gcd n (Nat.gcd b d)))by
   refine⟨Da (Nat.mul_pos bp qd) h k1 he,Nat.le_of_mul_le_mul_right (c:=t) ?_ h⟩
   rw[he,Nat.mul_comm _ t]
   exact Nat.mul_le_mul_right _ hs
  have hbd:0<b*d:=Nat.mul_pos hb hd
  have:=congrArg (· *t) k2
  rw[Nat.mul_right_comm,Nat.mul_right_comm (a*d+u*b),hN]at this
  have e3:n / Nat.gcd n (Nat.gcd b d)*t*(b*d)=(s+c)*(b / Nat.gcd b d*(d / Nat.gcd n (Nat.gcd b d)))*(b*d):=by rw[this,Nat.mul_right_comm]
  exact Nat.eq_of_mul_eq_mul_right hbd e3
 refine Evt.cond (fun e=>Evt.pure ?_) (fun e=>?_)
 ·have e:n=0:=by
   have e:(decide ((0:Int)=0)&&decide (((n:Nat):Int)=0))=true:=e
   simp at e
   omega
  have x0:x=0:=by omega
  have y0:y=0:=by omega
  have s0:s+c=0:=by
   rcases Nat.mul_eq_zero.1 (hx.trans x0)with r|r
   ·rcases Nat.mul_eq_zero.1 (hy.trans y0)with r2|r2
    ·subst r r2
     rw[Nat.zero_mul]at q1 q2
     have:=Nat.mul_eq_zero.1 q1.symm
     have:=Nat.mul_eq_zero.1 q2.symm
     omega
    ·omega
   ·have:0<d / Nat.gcd b d:=Nat.div_pos (Nat.gcd_le_right _ hd) p
    omega
  rw[s0,jD h,Nat.gcd_zero_left,Nat.zero_div,Nat.div_self h]
  rfl
 ·have hn0:0<n:=by
   have e:(decide ((0:Int)=0)&&decide (((n:Nat):Int)=0))=false:=e
   simp at e
   omega
  have g2:Nat.gcd n (Nat.gcd b d)≤Nat.gcd b d:=Nat.gcd_le_right _ p
  have q:0<Nat.gcd n (Nat.gcd b d):=Nat.gcd_pos_of_pos_right _ p
  have l1:n / Nat.gcd n (Nat.gcd b d)≤n:=Nat.div_le_self _ _
  have l2:d / Nat.gcd n (Nat.gcd b d)≤d:=Nat.div_le_self _ _
  obtain⟨key,hMD⟩:=key hn0
  have ld:b / Nat.gcd b d*(d / Nat.gcd n (Nat.gcd b d))≤1000000000*1000000000:=Nat.mul_le_mul (by omega) (by omega)
  have t0:∀z:Nat,Int.tmod (((0+0+0) / 18446744073709551616:Nat):Int) (z:Int)=0:=fun z=>by
   rw[show((0+0+0) / 18446744073709551616:Nat)=0 from rfl];exact Int.zero_tmod _
  have t1:∀z:Nat,Int.tmod (((0+0+0)%18446744073709551616:Nat):Int) (z:Int)=0:=fun z=>by
   rw[show((0+0+0)%18446744073709551616:Nat)=0 from rfl];exact Int.zero_tmod _
  have t2:∀z:Nat,Int.tdiv (((0+0+0)%18446744073709551616:Nat):Int) (z:Int)=0:=fun z=>by
   rw[show((0+0+0)%18446744073709551616:Nat)=0 from rfl];exact Int.zero_tdiv _
  simp only[t1]
  refine Evt.bind (zU (l:=n) (by omega) p) fun v13 Oi=>?_
  subst Oi
  refine Evt.bind (lR (n%Nat.gcd b d) (Nat.gcd b d)) fun v14 MN=>?_
  have e14:Nat.gcd (n%Nat.gcd b d) (Nat.gcd b d)=Nat.gcd n (Nat.gcd b d):=by
   rw[Nat.gcd_comm n,Nat.gcd_rec (Nat.gcd b d) n]
  rw[e14]at MN
  subst MN
  generalize Nat.gcd n (Nat.gcd b d)=m at*
  simp only[t1,t2]
  refine Evt.chk ⟨by omega,inU (show 0<18446744073709551616 by omega)⟩ (Evt.bind (zU (l:=n) (by omega) q) fun v17 Oj=>?_)
  subst Oj
  rw[show wr .u64 (w7.mk (u:Int) (d:Int)).den=((d:Nat):Int)from wu (by omega),show wr .u64 (w7.mk (a:Int) (b:Int)).den=((b:Nat):Int)from wu (by omega)]
  simp only[EP]
  refine Evt.chk (inU (by omega)) (Evt.bind (sV (x:=b / Nat.gcd b d) (y:=d / m) (by omega) (by omega)) fun v19 Ol=>?_)
  obtain⟨w1,w2⟩:=Ol
  have w2:=w2 (by omega)
  rw[decide_eq_true (by omega)]at w1
  rw[w1,w2]
  refine Evt.cond (fun e=>by simp at e) (fun _=>?_)
  refine Evt.bind (P:=fun r=>r=(L2 (s+c) t,⟨0,0⟩)) ?_ fun r hr=>Evt.pure (by rw[hr])
  rw[key]
  generalize b / Nat.gcd b d*(d / m)=D at*
  generalize n / m=M at*
  unfold rR
  refine Evt.cond (fun e=>?_) (fun _=>Evt.cond (fun e=>by cases e) (fun _=>Evt.pure ?_))
  ·replace e:=bx e
   omega
  ·show(w7.mk (wr .i64 (M:Int)) (wr .i64 (D:Int)),_)=_
   rw[N9 (by omega) (by omega),N9 (by omega) (by omega)]
def mh:List Nat→Nat
 | []=>0
 |a::l=>a+mh l
theorem vj(l m:List Nat):mh (l++m)=mh l+mh m:=by
 induction l with
 |nil=>simp[mh]
 |cons a l ih=>simp only[List.cons_append,mh,ih];omega
theorem sj:∀(l:List Nat) (k:Nat),k<l.length→mh (l.take (k+1))=mh (l.take k)+Am.get l k
 |a::l,0,_=>by simp[mh,Am.get]
 |a::l,k+1,h=>by
  have ih:=sj l k (by simpa using h)
  rw[List.take_succ_cons,List.take_succ_cons]
  simp only[mh]
  rw[ih]
  have:Am.get (a::l) (k+1)=Am.get l k:=by simp[Am.get]
  rw[this]
  omega
theorem Db(l:List Nat)(k:Nat):mh (l.take k)≤mh l:=by
 have:=vj (l.take k) (l.drop k)
 rw[List.take_append_drop]at this
 omega
theorem wU{l:List Nat}{t k:Nat}(h:k<l.length):Am.get (l.map fun a=>L2 a t) k=L2 (Am.get l k) t:=by
 unfold Am.get
 rw[List.getD_eq_getElem?_getD,List.getD_eq_getElem?_getD,List.getElem?_map,List.getElem?_eq_getElem h]
 rfl
theorem tT{l:List Nat}{t:Nat}(h:0<t)(ht:t≤1000000000)(hl:l.length≤300)(hs:mh l≤t):Evt (fun n=>pz n (l.map fun a=>L2 a t)) (fun r=>r=(L2 (mh l) t,⟨0,0⟩)):=by
 have hlen:(l.map fun a=>L2 a t).length=l.length:=by simp
 have hb:∀k,k<l.length→Am.get l k≤t:=fun k hk=>by
  have h1:=sj l k hk
  have h2:=Db l (k+1)
  omega
 unfold pz
 rw[hlen]
 refine Evt.cond (fun e=>?_) (fun _=>?_)
 ·replace e:=bx e
  omega
 refine Evt.C6 (Evt.range (fun _ _=>True) (fun _=>False) (fun _=>False) trivial (fun k s hk _=>?_)) (fun u _=>?_) (fun r (hr:False)=>hr.elim)
 ·unfold lT
  rw[wU hk]
  obtain⟨n,d,hv⟩:=yU (a:=Am.get l k) (t:=t) (by have:=hb k hk;omega) (by omega)
  refine Evt.bind (wT hv _) fun v1 e1=>?_
  subst e1
  exact Evt.cond (fun e=>by cases e) (fun _=>Evt.pure trivial)
 ·unfold lU
  rw[hlen]
  refine Evt.C6 (Evt.range (fun k s=>w7.mk s.1 s.2=L2 (mh (l.take k)) t) (fun _=>False) (fun _=>False) ?_ (fun k s hk hi=>?_)) (fun u hu=>?_) (fun r (hr:False)=>hr.elim)
  ·show w7.mk 0 1=L2 0 t
   rw[jD h,Nat.gcd_zero_left,Nat.zero_div,Nat.div_self h]
   rfl
  ·unfold lV
   rw[hi,wU hk]
   have h1:=sj l k hk
   have h2:=Db l (k+1)
   refine Evt.bind (AV (s:=mh (l.take k)) (c:=Am.get l k) h ht (by omega)) fun v3 e3=>?_
   subst e3
   refine Evt.cond (fun e=>by cases e) (fun _=>Evt.pure ?_)
   show w7.mk (L2 _ _).num (L2 _ _).den=_
   rw[h1]
  ·simp only[ExP,or_false]at hu
   unfold lW
   rw[hu,List.take_length]
   exact Evt.pure rfl
theorem yx{g:y7}(hm:Holds g)(c:C4):Evt (fun n=>N6 n g c) (fun r=>r=true):=by
 unfold N6
 refine Evt.bind rW fun v hv=>Evt.cond (fun e=>?_) (fun _=>?_)
 ·subst hv;cases e
 obtain⟨r,f,hrf,h1,h2⟩:=(pq hm c).split
 refine Evt.bind h1 fun a ha=>?_
 subst ha
 refine Evt.bind (P:=fun x=>(a.2.2.code=0→x=f)) (Evt.gd (fun e=>h2.mono fun x hx _=>hx) fun e h0=>?_) fun b hb=>?_
 ·exfalso
  simp[h0]at e
 refine Evt.cond (fun _=>Evt.pure rfl) (fun e=>?_)
 replace e:=bx e
 obtain⟨e0,e1⟩:=e
 have hb:=hb e0
 subst hb
 rcases hrf with⟨x1,_⟩|⟨_,hg,hc,_,hw⟩
 ·exact absurd e1 x1
 obtain⟨⟨w1,w2⟩,w3,w4⟩:=hw
 have w1:a.1.length=g.rules.length:=w1
 have w3:a.2.1.length=g.B3.length:=w3
 have w2:∀k,k<g.rules.length→Am.get a.1 k=_:=w2
 have w4:∀k,k<g.B3.length→Am.get a.2.1 k=_:=w4
 have g1:=hg.hier.types.1
 have g2:=hg.rules
 have g3:=hg.B3
 have c1:=hc.r
 have c2:=hc.l
 obtain⟨hR,hL⟩:=hc.sums hg
 refine Evt.cond (fun e2=>?_) (fun _=>?_)
 ·replace e2:=bx e2
  omega
 refine Evt.C6 (P:=ExP (fun _=>True) (fun _=>False)) (Evt.loop (fun s:Int=>g.hierarchy.types.length-s.toNat) (fun s=>∃k:Nat,s=k∧k≤g.hierarchy.types.length) _ _ ⟨0,rfl,by omega⟩ (fun s hs=>?_)) (fun t ht=>Evt.pure rfl) (fun r hr=>hr.elim)
 obtain⟨cl,rfl,hcl⟩:=hs
 unfold K0
 refine Evt.cond (fun e2=>?_) (fun _=>Evt.pure trivial)
 replace e2:=bx e2
 have h4:=hR g.rules.length cl (Nat.le_refl _)
 have h5:=hL g.B3.length cl (Nat.le_refl _)
 have hT:tot g c cl=acc (aW g) (fun k=>Am.get c.rules k) g.rules.length cl+acc (cL g) (fun k=>Am.get c.B3 k) g.B3.length cl:=rfl
 obtain⟨t,htt⟩:∃t:Nat,tot g c cl=t:=⟨(tot g c cl).toNat,by omega⟩
 have app:∀(vs:List Nat) (x:Nat),(vs.map fun a=>L2 a t)++[L2 x t]=(vs++[x]).map fun a=>L2 a t:=fun vs x=>by simp
 refine Evt.C6 (P:=ExP (fun u:List w7×Int=>∃vs:List Nat,u=(vs.map (fun a=>L2 a t),(mh vs:Int))∧vs.length≤g.rules.length∧(mh vs:Int)=acc (aW g) (fun k=>Am.get c.rules k) g.rules.length cl) (fun _=>False))
  (Evt.loop (fun s:List w7×Int×Int=>g.rules.length-s.2.2.toNat) (fun s=>∃(k:Nat) (vs:List Nat),s=(vs.map (fun a=>L2 a t),(mh vs:Int),(k:Int))∧k≤g.rules.length∧vs.length≤k∧(mh vs:Int)=acc (aW g) (fun k=>Am.get c.rules k) k cl) _ _ ⟨0,[],rfl,by omega,by simp,rfl⟩ (fun s hs=>?_)) (fun u hu=>?_) (fun r hr=>hr.elim)
 ·obtain⟨k,vs,rfl,hk,hl,hv⟩:=hs
  have hw1:wr .i64 ((k:Int)+1)=((k+1:Nat):Int):=by rw[N9 (by omega) (by omega)];omega
  unfold K1
  simp only[hw1,Int.toNat_natCast]
  refine Evt.cond (fun e=>?_) (fun e=>Evt.pure ?_)
  ·replace e:=bx e
   have hkk:k<g.rules.length:=by omega
   refine Evt.bind (yS hg (k:=k) hkk 0) fun v hv2=>?_
   subst hv2
   refine Evt.cond (fun e3=>Evt.chk (by omega) ?_) (fun e3=>Evt.pure ?_)
   ·replace e3:=bx e3
    have e3:aW g k=cl:=by omega
    have hx:=hc.vr k hkk
    obtain⟨x,hx2⟩:∃x:Nat,Am.get c.rules k=x:=⟨(Am.get c.rules k).toNat,by omega⟩
    have e4:acc (aW g) (fun k=>Am.get c.rules k) (k+1) cl=acc (aW g) (fun k=>Am.get c.rules k) k cl+Am.get c.rules k:=by
     simp only[acc];rw[if_pos e3]
    have hb:=hR (k+1) cl (by omega)
    have e5:Am.get a.1 k=L2 x t:=by rw[w2 k hkk,e3,htt,hx2,Int.toNat_natCast,Int.toNat_natCast]
    rw[e5,app]
    refine Evt.cR (Evt.chk (by rw[List.length_map,List.length_append,bR];simp;omega) (Evt.chk (by omega) (Evt.pure ?_)))
    have e6:mh (vs++[x])=mh vs+x:=by rw[vj];simp[mh]
    refine⟨⟨k+1,vs++[x],?_,by omega,by simp;omega,by rw[e6,e4,hx2];omega⟩,by show g.rules.length-((k+1:Nat):Int).toNat<g.rules.length-(k:Int).toNat;omega⟩
    rw[hx2,N9 (by omega) (by omega),e6]
    simp
   ·replace e3:=bx e3
    have e4:acc (aW g) (fun k=>Am.get c.rules k) (k+1) cl=acc (aW g) (fun k=>Am.get c.rules k) k cl:=by
     simp only[acc];rw[if_neg (by omega),Int.add_zero]
    exact⟨⟨k+1,vs,rfl,by omega,by omega,by rw[e4,hv]⟩,by show g.rules.length-((k+1:Nat):Int).toNat<g.rules.length-(k:Int).toNat;omega⟩
  ·replace e:=bx e
   have:k=g.rules.length:=by omega
   subst this
   exact⟨vs,rfl,hl,hv⟩
 obtain⟨vs0,rfl,hl0,hv0⟩:=hu
 unfold K2
 refine Evt.C6 (P:=ExP (fun u:List w7×Int=>∃vs:List Nat,u=(vs.map (fun a=>L2 a t),(mh vs:Int))∧vs.length≤g.rules.length+g.B3.length∧(mh vs:Int)=tot g c cl) (fun _=>False))
  (Evt.loop (fun s:List w7×Int×Int=>g.B3.length-s.2.2.toNat) (fun s=>∃(k:Nat) (vs:List Nat),s=(vs.map (fun a=>L2 a t),(mh vs:Int),(k:Int))∧k≤g.B3.length∧vs.length≤g.rules.length+k∧(mh vs:Int)=acc (aW g) (fun k=>Am.get c.rules k) g.rules.length cl+acc (cL g) (fun k=>Am.get c.B3 k) k cl) _ _ ⟨0,vs0,rfl,by omega,by omega,by rw[hv0];simp[acc]⟩ (fun s hs=>?_)) (fun u hu=>?_) (fun r hr=>hr.elim)
 ·obtain⟨k,vs,rfl,hk,hl,hv⟩:=hs
  have hw1:wr .i64 ((k:Int)+1)=((k+1:Nat):Int):=by rw[N9 (by omega) (by omega)];omega
  unfold K3
  simp only[hw1,Int.toNat_natCast]
  refine Evt.cond (fun e=>?_) (fun e=>Evt.pure ?_)
  ·replace e:=bx e
   have hkk:k<g.B3.length:=by omega
   refine Evt.bind (yT hg (k:=k) hkk) fun v hv2=>?_
   subst hv2
   refine Evt.cond (fun e3=>Evt.chk (by omega) ?_) (fun e3=>Evt.pure ?_)
   ·replace e3:=bx e3
    have e3:cL g k=cl:=by omega
    have hx:=hc.vl k hkk
    obtain⟨x,hx2⟩:∃x:Nat,Am.get c.B3 k=x:=⟨(Am.get c.B3 k).toNat,by omega⟩
    have e4:acc (cL g) (fun k=>Am.get c.B3 k) (k+1) cl=acc (cL g) (fun k=>Am.get c.B3 k) k cl+Am.get c.B3 k:=by
     simp only[acc];rw[if_pos e3]
    have hb:=hL (k+1) cl (by omega)
    have e5:Am.get a.2.1 k=L2 x t:=by rw[w4 k hkk,e3,htt,hx2,Int.toNat_natCast,Int.toNat_natCast]
    rw[e5,app]
    refine Evt.cR (Evt.chk (by rw[List.length_map,List.length_append,bR];simp;omega) (Evt.chk (by omega) (Evt.pure ?_)))
    have e6:mh (vs++[x])=mh vs+x:=by rw[vj];simp[mh]
    refine⟨⟨k+1,vs++[x],?_,by omega,by simp;omega,by rw[e6,e4,hx2];omega⟩,by show g.B3.length-((k+1:Nat):Int).toNat<g.B3.length-(k:Int).toNat;omega⟩
    rw[hx2,N9 (by omega) (by omega),e6]
    simp
   ·replace e3:=bx e3
    have e4:acc (cL g) (fun k=>Am.get c.B3 k) (k+1) cl=acc (cL g) (fun k=>Am.get c.B3 k) k cl:=by
     simp only[acc];rw[if_neg (by omega),Int.add_zero]
    exact⟨⟨k+1,vs,rfl,by omega,by omega,by rw[e4,hv]⟩,by show g.B3.length-((k+1:Nat):Int).toNat<g.B3.length-(k:Int).toNat;omega⟩
  ·replace e:=bx e
   have:k=g.B3.length:=by omega
   subst this
   exact⟨vs,rfl,hl,by rw[hv,hT]⟩
 obtain⟨vs,rfl,hl,hv⟩:=hu
 have hvt:mh vs=t:=by omega
 unfold K4
 have hw1:wr .i64 ((cl:Int)+1)=((cl+1:Nat):Int):=by rw[N9 (by omega) (by omega)];omega
 have fin:∀(j:Int),Evt (fun _=>E9 (w7.mk j 1,⟨0,0⟩) (cl:Int) j) (Ew (fun s:Int=>(∃k:Nat,s=k∧k≤g.hierarchy.types.length)∧g.hierarchy.types.length-s.toNat<g.hierarchy.types.length-(cl:Int).toNat) (fun _=>True) (fun _=>False)):=fun j=>by
  unfold E9
  rw[hw1]
  refine Evt.cond (fun e=>by simp at e) (fun _=>Evt.pure ⟨⟨cl+1,rfl,by omega⟩,by omega⟩)
 by_cases h0:0<t
 ·refine Evt.bind (tT h0 (by omega) (by omega) (by omega)) fun v101 e101=>?_
  rw[hvt,jD h0,Nat.gcd_self,Nat.div_self h0]at e101
  subst e101
  refine Evt.cond (fun _=>fin 1) (fun e=>?_)
  replace e:=bx e
  omega
 ·have t0:t=0:=by omega
  have em:(vs.map fun a=>L2 a t)=((vs.map fun _=>0).map fun a=>L2 a 1):=by
   rw[List.map_map]
   refine List.map_congr_left fun a _=>?_
   subst t0
   show L2 a 0=L2 0 1
   unfold L2
   rw[if_neg (by omega),if_pos (by omega)]
   rfl
  have hz:∀vs:List Nat,mh (vs.map fun _=>0)=0:=fun vs=>by
   induction vs with
   |nil=>rfl
   |cons a l ih=>simp[mh]at ih ⊢; exact ih
  show Evt (fun n=>(pz n (vs.map fun a=>L2 a t)).bind _) _
  rw[em]
  refine Evt.bind (tT (t:=1) (by omega) (by omega) (by simp;omega) (by rw[hz];omega)) fun v101 e101=>?_
  rw[hz]at e101
  subst e101
  refine Evt.cond (fun e=>?_) (fun _=>fin 0)
  replace e:=bx e
  omega
end Go.Proofs.YtoekkdodipnmpaaGreatDoor
