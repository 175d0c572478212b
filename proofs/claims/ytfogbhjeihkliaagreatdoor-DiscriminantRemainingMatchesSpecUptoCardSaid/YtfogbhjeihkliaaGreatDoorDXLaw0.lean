import Derived.Lib.TrailingZeros
import Derived.Test.YtfogbhjeihkliaaGreatDoorDXMirrors
set_option linter.unusedVariables false
set_option linter.unusedSimpArgs false
namespace Go.Am
open Go
theorem bx{A B:Prop}(h:A)(e:A→B:=by intro h;simp only[Bool.cond_true_left,Bool.cond_false_right,Bool.not_eq_true',Bool.not_eq_false',Bool.or_eq_true,Bool.or_eq_false_iff,Bool.and_eq_true,Bool.and_eq_false_imp,Bool.not_true,Bool.not_false,decide_eq_true_eq,decide_eq_false_iff_not,Decidable.not_not,Int.not_lt,Int.not_le,Nat.not_lt,Nat.not_le,not_or,Bool.not_not,Bool.not_eq_true,Bool.true_eq_false,Bool.false_eq_true,Bool.or_true,Bool.true_or,Bool.and_true,Bool.true_and]at h;exact h):B:=e h
def Ev2{α β:Type}(x:Nat→Option α)(y:Nat→Option β)(P:α→β→Prop):Prop:=∃a b,P a b∧∃N,∀n,N≤n→x n=some a∧y n=some b
section
variable {α β γ δ ρ σ τ ρ' σ' τ':Type} {P:α→β→Prop} {Q:γ→δ→Prop}
theorem Ev2.mono{x:Nat→Option α}{y:Nat→Option β}{P':α→β→Prop}(h:Ev2 x y P)(hp:∀a b,P a b→P' a b):Ev2 x y P':=by
 obtain⟨a,b,hr,hN⟩:=h
 exact⟨a,b,hp a b hr,hN⟩
theorem Ev2.pure{a:α}{b:β}(h:P a b):Ev2 (fun _=>some a) (fun _=>some b) P:=⟨a,b,h,0,fun _ _=>⟨rfl,rfl⟩⟩
theorem Ev2.both{x:Nat→Option α}{y:Nat→Option β}{A:α→Prop}{B:β→Prop}(h:Evt x A)(k:Evt y B):Ev2 x y (fun a b=>A a∧B b):=by
 obtain⟨a,ha,N,hN⟩:=h
 obtain⟨b,hb,M,hM⟩:=k
 exact⟨a,b,⟨ha,hb⟩,max N M,fun n hn=>⟨hN n (by omega),hM n (by omega)⟩⟩
theorem Ev2.jw{x:Nat→Option α}{f:Nat→α→Option γ}{y:Nat→Option δ}{A:α→Prop}(h:Evt x A)(hf:∀a,A a→Ev2 (fun n=>f n a) y Q):Ev2 (fun n=>(x n).bind (f n)) y Q:=by
 obtain⟨a,ha,N,hN⟩:=h
 obtain⟨c,d,hc,M,hM⟩:=hf a ha
 exact⟨c,d,hc,max N M,fun n hn=>⟨by show(x n).bind (f n)=_;rw[hN n (by omega)];exact(hM n (by omega)).1,(hM n (by omega)).2⟩⟩
theorem Ev2.swap{x:Nat→Option α}{y:Nat→Option β}(h:Ev2 x y P):Ev2 y x (fun b a=>P a b):=by
 obtain⟨a,b,hr,N,hN⟩:=h
 exact⟨b,a,hr,N,fun n hn=>⟨(hN n hn).2,(hN n hn).1⟩⟩
theorem Ev2.Ey{y:Nat→Option β}{g:Nat→β→Option δ}{x:Nat→Option γ}{B:β→Prop}(h:Evt y B)(hf:∀b,B b→Ev2 x (fun n=>g n b) Q):Ev2 x (fun n=>(y n).bind (g n)) Q:=
 (Ev2.jw (Q:=fun d c=>Q c d) h fun b hb=>(hf b hb).swap).swap
theorem Ev2.bind{x:Nat→Option α}{y:Nat→Option β}{f:Nat→α→Option γ}{g:Nat→β→Option δ}(h:Ev2 x y P)(hf:∀a b,P a b→Ev2 (fun n=>f n a) (fun n=>g n b) Q):Ev2 (fun n=>(x n).bind (f n)) (fun n=>(y n).bind (g n)) Q:=by
 obtain⟨a,b,hp,N,hN⟩:=h
 obtain⟨c,d,hc,M,hM⟩:=hf a b hp
 exact⟨c,d,hc,max N M,fun n hn=>⟨by show(x n).bind (f n)=_;rw[(hN n (by omega)).1];exact(hM n (by omega)).1,by show(y n).bind (g n)=_;rw[(hN n (by omega)).2];exact(hM n (by omega)).2⟩⟩
theorem Ev2.Rl{p:Prop}[Decidable p]{x:Nat→Option α}{y:Nat→Option β}(hp:p)(h:Ev2 x y P):Ev2 (fun n=>chk p (x n)) y P:=by
 obtain⟨a,b,hr,N,hN⟩:=h
 exact⟨a,b,hr,N,fun n hn=>⟨by show Am.chk p (x n)=_;unfold Am.chk;rw[if_pos hp];exact(hN n hn).1,(hN n hn).2⟩⟩
theorem Ev2.MK{p:Prop}[Decidable p]{x:Nat→Option α}{y:Nat→Option β}(hp:p)(h:Ev2 x y P):Ev2 x (fun n=>chk p (y n)) P:=(Ev2.Rl (P:=fun b a=>P a b) hp h.swap).swap
theorem Ev2.TS{a:γ}{f:Nat→γ→Option α}{y:Nat→Option β}(h:Ev2 (fun n=>f n a) y P):Ev2 (fun n=>eE a (f n)) y P:=h
theorem Ev2.Bz{c:Bool}{x x':Nat→Option α}{y:Nat→Option β}(h1:c=true→Ev2 x y P)(h2:c=false→Ev2 x' y P):Ev2 (fun n=>bif c then x n else x' n) y P:=by
 cases c
 ·exact h2 rfl
 ·exact h1 rfl
theorem Ev2.zx{c:Bool}{x:Nat→Option α}{y y':Nat→Option β}(h1:c=true→Ev2 x y P)(h2:c=false→Ev2 x y' P):Ev2 x (fun n=>bif c then y n else y' n) P:=by
 cases c
 ·exact h2 rfl
 ·exact h1 rfl
theorem Ev2.cond{c d:Bool}{x x':Nat→Option α}{y y':Nat→Option β}(e:c=d)(h1:c=true→Ev2 x y P)(h2:c=false→Ev2 x' y' P):Ev2 (fun n=>bif c then x n else x' n) (fun n=>bif d then y n else y' n) P:=by
 subst e
 cases c
 ·exact h2 rfl
 ·exact h1 rfl
def Rm(I:σ→σ'→Prop)(B:τ→τ'→Prop)(R:ρ→ρ'→Prop):Ctl ρ σ τ→Ctl ρ' σ' τ'→Prop
 | .nxt s,.nxt s'=>I s s'
 | .brk t,.brk t'=>B t t'
 | .ret x,.ret x'=>R x x'
 | _,_=>False
def TT(B:τ→τ'→Prop)(R:ρ→ρ'→Prop):Ex ρ τ→Ex ρ' τ'→Prop
 | .nxt t,.nxt t'=>B t t'
 | .ret x,.ret x'=>R x x'
 | _,_=>False
theorem Ev2.B5{x:Nat→Option (Ex ρ τ)}{y:Nat→Option (Ex ρ' τ')}{k:Nat→τ→Option ρ}{l:Nat→τ'→Option ρ'}{B:τ→τ'→Prop}{R Q:ρ→ρ'→Prop}(h:Ev2 x y (TT B R))
 (hn:∀t t',B t t'→Ev2 (fun n=>k n t) (fun n=>l n t') Q) (hr:∀r r',R r r'→Q r r'):Ev2 (fun n=>B5 (x n) (k n)) (fun n=>B5 (y n) (l n)) Q:=by
 obtain⟨a,b,hp,N,hN⟩:=h
 cases a with
 |nxt t=>
  cases b with
  |nxt t'=>
   obtain⟨c,d,hc,M,hM⟩:=hn t t' hp
   exact⟨c,d,hc,max N M,fun n hn=>⟨by simp only[(hN n (by omega)).1,Am.B5];exact(hM n (by omega)).1,by simp only[(hN n (by omega)).2,Am.B5];exact(hM n (by omega)).2⟩⟩
  |ret r'=>exact hp.elim
 |ret r=>
  cases b with
  |nxt t'=>exact hp.elim
  |ret r'=>exact⟨r,r',hr r r' hp,N,fun n hn=>⟨by simp only[(hN n hn).1,Am.B5],by simp only[(hN n hn).2,Am.B5]⟩⟩
theorem Ev2.Rn{x:Nat→Option (Ex ρ τ)}{k:Nat→τ→Option ρ}{y:Nat→Option β}{A:Ex ρ τ→Prop}{Q:ρ→β→Prop}(h:Evt x A)(hn:∀t,A (.nxt t)→Ev2 (fun n=>k n t) y Q)(hr:∀r,A (.ret r)→Evt y (Q r)):
 Ev2 (fun n=>Am.B5 (x n) (k n)) y Q:=by
 obtain⟨e,he,N,hN⟩:=h
 cases e with
 |nxt t=>
  obtain⟨c,d,hc,M,hM⟩:=hn t he
  exact⟨c,d,hc,max N M,fun n hn=>⟨by simp only[hN n (by omega),Am.B5];exact(hM n (by omega)).1,(hM n (by omega)).2⟩⟩
 |ret r=>
  obtain⟨d,hd,M,hM⟩:=hr r he
  exact⟨r,d,hd,max N M,fun n hn=>⟨by simp only[hN n (by omega),Am.B5],hM n (by omega)⟩⟩
theorem Ev2.zy{y:Nat→Option (Ex ρ τ)}{k:Nat→τ→Option ρ}{x:Nat→Option α}{A:Ex ρ τ→Prop}{Q:α→ρ→Prop}(h:Evt y A)(hn:∀t,A (.nxt t)→Ev2 x (fun n=>k n t) Q)(hr:∀r,A (.ret r)→Evt x (fun a=>Q a r)):
 Ev2 x (fun n=>Am.B5 (y n) (k n)) Q:=(Ev2.Rn (Q:=fun r a=>Q a r) h (fun t ht=>(hn t ht).swap) hr).swap
theorem Ev2.range{b1:Nat→Nat→σ→Option (Ctl ρ σ σ)}{b2:Nat→Nat→σ'→Option (Ctl ρ' σ' σ')}{m:Nat}{s0:σ}{t0:σ'}(I:Nat→σ→σ'→Prop)(B:σ→σ'→Prop)(R:ρ→ρ'→Prop)(h0:I 0 s0 t0)
 (hs:∀k s t,k<m→I k s t→Ev2 (fun n=>b1 n k s) (fun n=>b2 n k t) (Rm (I (k+1)) B R)):
 Ev2 (fun n=>F2 (b1 n) m s0) (fun n=>F2 (b2 n) m t0) (TT (fun s t=>I m s t∨B s t) R):=by
 unfold F2
 have key:∀j k s t,k+j=m→I k s t→Ev2 (fun n=>cX (b1 n) j k s) (fun n=>cX (b2 n) j k t) (TT (fun s t=>I m s t∨B s t) R):=by
  intro j
  induction j with
  |zero=>
   intro k s t e hi
   have:k=m:=by omega
   subst this
   exact Ev2.pure (.inl hi)
  |succ j ih=>
   intro k s t e hi
   obtain⟨c,d,hc,N,hN⟩:=hs k s t (by omega) hi
   cases c with
   |nxt s'=>
    cases d with
    |nxt t'=>
     obtain⟨r,r',hr,M,hM⟩:=ih (k+1) s' t' (by omega) hc
     exact⟨r,r',hr,max N M,fun n hn=>⟨by simp only[cX,(hN n (by omega)).1];exact(hM n (by omega)).1,by simp only[cX,(hN n (by omega)).2];exact(hM n (by omega)).2⟩⟩
    |brk t'=>exact hc.elim
    |ret x=>exact hc.elim
   |brk s'=>
    cases d with
    |nxt t'=>exact hc.elim
    |brk t'=>exact⟨.nxt s',.nxt t',.inr hc,N,fun n hn=>⟨by simp only[cX,(hN n hn).1],by simp only[cX,(hN n hn).2]⟩⟩
    |ret x=>exact hc.elim
   |ret x=>
    cases d with
    |nxt t'=>exact hc.elim
    |brk t'=>exact hc.elim
    |ret x'=>exact⟨.ret x,.ret x',hc,N,fun n hn=>⟨by simp only[cX,(hN n hn).1],by simp only[cX,(hN n hn).2]⟩⟩
 exact key m 0 s0 t0 (by omega) h0
theorem Ev2.eq{x y:Nat→Option α}{A:α→Prop}(h:Ev2 x y (fun a b=>a=b∧A a)):∃r,A r∧Evt x (fun a=>a=r)∧Evt y (fun a=>a=r):=by
 obtain⟨a,b,⟨e,ha⟩,N,hN⟩:=h
 subst e
 exact⟨a,ha,⟨a,rfl,N,fun n hn=>(hN n hn).1⟩,⟨a,rfl,N,fun n hn=>(hN n hn).2⟩⟩
theorem Evt.eq{x:Nat→Option α}{A:α→Prop}(h:Evt x A):∃r,A r∧Evt x (fun a=>a=r):=by
 obtain⟨a,ha,N,hN⟩:=h
 exact⟨a,ha,a,rfl,N,hN⟩
theorem Evt.scan{body:Nat→Nat→σ→Option (Ctl ρ σ σ)}{m:Nat}{s0:σ}(I:Nat→σ→Prop)(R:Nat→ρ→Prop)(h0:I 0 s0)
 (hs:∀k s,k<m→I k s→Evt (fun n=>body n k s) (Lz (I (k+1)) (fun _=>False) (R k))):
 Evt (fun n=>F2 (body n) m s0) (ExP (I m) (fun r=>∃k s,k<m∧I k s∧R k r)):=by
 refine(Evt.range (fun k s=>I k s) (fun _=>False) (fun r=>∃k s,k<m∧I k s∧R k r) h0 fun k s hk hi=>(hs k s hk hi).mono fun c hc=>?_).mono fun e he=>?_
 ·cases c with
  |nxt s'=>exact hc
  |brk t=>exact hc
  |ret x=>exact⟨k,s,hk,hi,hc⟩
 ·cases e with
  |nxt t=>exact he.elim id False.elim
  |ret x=>exact he
end
inductive Anc(par:Nat→List Int):Nat→Nat→Prop
 |refl (a:Nat):Anc par a a
 |step {a p b:Nat} (h:(p:Int)∈par a) (t:Anc par p b):Anc par a b
def Low(n:Nat)(par:Nat→List Int):Prop:=∀k,k<n→∀p∈par k,0≤p∧p<k
section
variable {n:Nat} {par:Nat→List Int}
theorem Anc.le(h:Low n par){a b:Nat}(t:Anc par a b)(ha:a<n):b≤a:=by
 induction t with
 |refl a=>exact Nat.le_refl _
 |step hp _ ih=>
  have:=h _ ha _ hp
  have:=ih (by omega)
  omega
theorem Anc.trans{a b c:Nat}(t:Anc par a b)(u:Anc par b c):Anc par a c:=by
 induction t with
 |refl a=>exact u
 |step hp _ ih=>exact .step hp (ih u)
theorem Anc.Jo{a p:Nat}(h:(p:Int)∈par a):Anc par a p:=.step h (.refl _)
theorem Anc.marks(h:Low n par){a b i:Nat}{m:Nat→Prop}(ha:a<n)(h1:∀j,m j→Anc par a j)(h2:m a)(h3:∀q,b<q→q≤a→m q→∀p:Nat,(p:Int)∈par q→m p):m b↔Anc par a b:=by
 refine⟨h1 b,fun t=>?_⟩
 have key:∀ {c d:Nat},Anc par c d→c≤a→c<n→d=b→m c→m d:=by
  intro c d t
  induction t with
  |refl c=>intro _ _ _ hm;exact hm
  |step hp t ih=>
   rename_i c p d
   intro hca hcn hd hm
   have hpc:=h _ hcn _ hp
   have hle:=Anc.le h t (by omega)
   exact ih (by omega) (by omega) hd (h3 c (by omega) hca hm p hp)
 exact key t (Nat.le_refl _) ha rfl h2
end
theorem vB{α:Type}[Inhabited α]{l:List α}{x:α}:x∈l↔ ∃j,j<l.length∧get l j=x:=by
 constructor
 ·intro h
  obtain⟨j,hj,e⟩:=List.getElem_of_mem h
  refine⟨j,hj,?_⟩
  unfold get
  rw[List.getD_eq_getElem?_getD,List.getElem?_eq_getElem hj]
  exact e
 ·rintro⟨j,hj,rfl⟩
  unfold get
  rw[List.getD_eq_getElem?_getD,List.getElem?_eq_getElem hj]
  exact List.getElem_mem hj
theorem oK{x:Nat}(hx:x<18446744073709551616):(BitVec.ofInt 64 (x:Int)).toNat=x:=by
 simp only[BitVec.ofInt_natCast,BitVec.toNat_ofNat]
 exact Nat.mod_eq_of_lt hx
theorem kL{x:Nat}(hx:x<18446744073709551616):IntKind.u64.wrap (x:Int)=x:=by
 have h1:IntKind.u64.min=0:=by decide
 have h2:IntKind.u64.max=18446744073709551615:=by decide
 exact AV ⟨by omega,by omega⟩
theorem rV{x y:Nat}(hx:x<18446744073709551616)(hy:y<18446744073709551616):cu .and .u64 (x:Int) (y:Int)=((x&&&y:Nat):Int):=by
 show IntKind.u64.wrap ((BitVec.ofInt 64 (x:Int)&&&BitVec.ofInt 64 (y:Int)).toNat:Int)=_
 rw[BitVec.toNat_and,oK hx,oK hy]
 exact kL (Nat.lt_of_le_of_lt Nat.and_le_left hx)
theorem CP{x y:Nat}(hx:x<18446744073709551616)(hy:y<18446744073709551616):cu .or .u64 (x:Int) (y:Int)=((x|||y:Nat):Int):=by
 show IntKind.u64.wrap ((BitVec.ofInt 64 (x:Int)|||BitVec.ofInt 64 (y:Int)).toNat:Int)=_
 rw[BitVec.toNat_or,oK hx,oK hy]
 exact kL (Nat.or_lt_two_pow (n:=64) hx hy)
theorem CQ{L:Nat}(h:L≤60):2^L≤1152921504606846976:=Nat.pow_le_pow_right (n:=2) (by decide) h
def Z6(L:Nat)(x:Int)(P:Nat→Prop):Prop:=∃n:Nat,x=n∧n<2^L∧∀i,n.testBit i=true↔P i
section
variable {L:Nat} {x y:Int} {P Q:Nat→Prop}
theorem Z6.congr(h:Z6 L x P)(e:∀i,P i↔Q i):Z6 L x Q:=by
 obtain⟨n,h1,h2,h3⟩:=h
 exact⟨n,h1,h2,fun i=>(h3 i).trans (e i)⟩
theorem Z6.lt(h:Z6 L x P){i:Nat}(hi:P i):i<L:=by
 obtain⟨n,_,h2,h3⟩:=h
 have:=Nat.testBit_lt_two_pow (x:=n) (i:=i)
 rcases Nat.lt_or_ge i L with h|h
 ·exact h
 ·have:=Nat.testBit_lt_two_pow (Nat.lt_of_lt_of_le h2 (Nat.pow_le_pow_right (n:=2) (by decide) h))
  rw[(h3 i).2 hi]at this
  cases this
theorem Z6.and(hL:L≤60)(h:Z6 L x P)(k:Z6 L y Q):Z6 L (cu .and .u64 x y) (fun i=>P i∧Q i):=by
 have h60:=CQ hL
 obtain⟨n,rfl,h2,h3⟩:=h
 obtain⟨m,rfl,k2,k3⟩:=k
 refine⟨n&&&m,rV (by omega) (by omega),Nat.lt_of_le_of_lt Nat.and_le_left h2,fun i=>?_⟩
 rw[Nat.testBit_and,Bool.and_eq_true,h3,k3]
theorem Z6.or(hL:L≤60)(h:Z6 L x P)(k:Z6 L y Q):Z6 L (cu .or .u64 x y) (fun i=>P i∨Q i):=by
 have h60:=CQ hL
 obtain⟨n,rfl,h2,h3⟩:=h
 obtain⟨m,rfl,k2,k3⟩:=k
 refine⟨n|||m,CP (by omega) (by omega),Nat.or_lt_two_pow h2 k2,fun i=>?_⟩
 rw[Nat.testBit_or,Bool.or_eq_true,h3,k3]
theorem Z6.one(hL:L≤60){k:Nat}(hk:k<L):Z6 L (wr .u64 (1*2^(min k 64))) (fun i=>i=k):=by
 have h60:=CQ hL
 have h1:(2:Nat)^k<2^L:=Nat.pow_lt_pow_right (by decide) hk
 refine⟨2^k,?_,h1,fun i=>?_⟩
 ·have:min k 64=k:=by omega
  rw[this,Int.one_mul]
  have e2:((2:Int)^k)=((2^k:Nat):Int):=by simp
  rw[e2]
  exact kL (by omega)
 ·rw[Nat.testBit_two_pow]
  simp[eq_comm]
theorem Z6.zero:Z6 L 0 (fun _=>False):=⟨0,rfl,Nat.pow_pos (by decide),fun i=>by simp⟩
theorem Z6.Og(h:Z6 L x P):x=0↔ ∀i,¬P i:=by
 obtain⟨n,rfl,_,h3⟩:=h
 constructor
 ·intro e i hi
  have:n=0:=by omega
  subst this
  have:=(h3 i).2 hi
  simp at this
 ·intro e
  have:n=0:=by
   refine Nat.eq_of_testBit_eq fun i=>?_
   rw[Nat.zero_testBit]
   cases hb:n.testBit i with
   |false=>rfl
   |true=>exact absurd ((h3 i).1 hb) (e i)
  rw[this];rfl
theorem Z6.ext(h:Z6 L x P)(k:Z6 L y Q):x=y↔ ∀i,P i↔Q i:=by
 obtain⟨n,rfl,_,h3⟩:=h
 obtain⟨m,rfl,_,k3⟩:=k
 constructor
 ·intro e i
  have:n=m:=by omega
  subst this
  exact(h3 i).symm.trans (k3 i)
 ·intro e
  have:n=m:=by
   refine Nat.eq_of_testBit_eq fun i=>?_
   have:=(h3 i).trans ((e i).trans (k3 i).symm)
   cases hb:n.testBit i with
   |false=>
    cases hc:m.testBit i with
    |false=>rfl
    |true=>rw[this.2 hc]at hb;cases hb
   |true=>exact(this.1 hb).symm
  rw[this]
theorem Z6.bit(hL:L≤60)(h:Z6 L x P){j:Nat}(hj:j≤64):cu .and .u64 (Int.fdiv x (2^(min j 64))) 1=1↔P j:=by
 have h60:=CQ hL
 obtain⟨n,rfl,h2,h3⟩:=h
 have e1:min j 64=j:=by omega
 have e2:((2:Int)^j)=((2^j:Nat):Int):=by simp
 have e3:Int.fdiv (n:Int) ((2:Int)^j)=((n / 2^j:Nat):Int):=by
  rw[e2,Int.fdiv_eq_ediv_of_nonneg _ (Int.natCast_nonneg _)]
  exact(Int.natCast_ediv _ _).symm
 have h4:n / 2^j≤n:=Nat.div_le_self _ _
 rw[e1,e3,show(1:Int)=((1:Nat):Int)from rfl,rV (by omega) (by omega), ←h3 j,Nat.testBit_eq_decide_div_mod_eq,Nat.and_one_is_mod]
 simp only[decide_eq_true_eq]
 omega
end
theorem Jp{n L:Nat}(h0:n≠0)(h:n<2^L):n.testBit (Lib.ctz L n)=true∧(∀j,j<Lib.ctz L n→n.testBit j=false)∧Lib.ctz L n<L:=by
 obtain⟨m,hm,hk⟩:=Lib.ctzFrom_spec L n (by omega) h
 have e:Lib.ctz L n=Lib.ctzFrom L n:=by simp[Lib.ctz,h0]
 rw[e]
 generalize Lib.ctzFrom L n=c at*
 refine⟨?_,?_,hk⟩
 ·rw[hm,Nat.testBit_two_pow_mul];simp
 ·intro j hj;rw[hm,Nat.testBit_two_pow_mul];simp;omega
end Go.Am
namespace Go.Proofs.YtfogbhjeihkliaaGreatDoor
open Go Go.Am
theorem bO:top=140737488355328:=rfl
theorem N6{G:Bool}{p:Prop}(h:G=true→p):iQ G p:=h
def OkC(c:Int):Prop:=(97≤c∧c≤122)∨(48≤c∧c≤57)∨c=95∨c=45
def wj(s:Bs):Prop:=1≤s.length∧s.length≤30∧(97≤B0 s 0∧B0 s 0≤122)∧∀k,k<s.length→OkC (B0 s (k:Int))
open Classical in
noncomputable def yw(s:Bs):Bool:=decide (wj s)
theorem pP{s:Bs}(h:wj s):yw s=true:=by unfold yw;simp[h]
theorem fq{s:Bs}(h:¬wj s):yw s=false:=by unfold yw;simp[h]
theorem qt(s:Bs):Evt (fun _=>termName s) (fun b=>b=yw s):=by
 unfold termName
 refine Evt.chk (N6 fun h=>?_) ?_
 ·replace h:=bx h
  omega
 refine Evt.chk (N6 fun h=>?_) ?_
 ·replace h:=bx h
  omega
 refine Evt.cond (fun h=>Evt.pure (fq fun hn=>?_).symm) (fun h=>?_)
 ·obtain⟨h1,h2,h3,_⟩:=hn
  replace h:=bx h
  omega
 replace h:=bx h
 refine Evt.chk (by omega) ?_
 refine(Evt.B5 (Q:=fun b=>b=yw s) (Evt.scan (fun k _=>∀j,j<k→OkC (B0 s (j:Int))) (fun k b=>b=false∧¬OkC (B0 s (k:Int))) (fun j hj=>absurd hj (Nat.not_lt_zero _)) (fun k u hk hi=>?_)) (fun t ht=>?_) (fun r hr=>?_))
 ·unfold qu
  refine Evt.cond (fun e=>Evt.pure ?_) (fun e=>Evt.pure ?_)
  ·replace e:=bx e
   refine⟨rfl,?_⟩
   unfold OkC
   omega
  ·replace e:=bx e
   intro j hj
   by_cases ej:j=k
   ·subst ej;unfold OkC;omega
   ·exact hi j (by omega)
 ·unfold qv
  refine Evt.pure (pP ⟨by omega,by omega,by omega,ht⟩).symm
 ·obtain⟨k,_,hk,_,rfl,h2⟩:=hr
  exact(fq fun hn=>h2 (hn.2.2.2 k hk)).symm
theorem Ez{s:Bs}{k:Nat}(h:k<s.length):Am.get (bytesOf s) k=B0 s (k:Int):=by
 unfold Am.get bytesOf B0
 rw[List.getD_eq_getElem?_getD,List.getElem?_map,List.getElem?_eq_getElem h,List.getD_eq_getElem?_getD,Int.toNat_natCast,List.getElem?_eq_getElem h]
 rfl
theorem sT{s:Bs}:(bytesOf s).length=s.length:=by simp[bytesOf]
theorem sU(s:Bs):Evt (fun _=>X5 s) (fun b=>b=yw s):=by
 unfold X5
 refine Evt.cond (fun h=>Evt.pure (fq fun hn=>?_).symm) (fun h=>?_)
 ·obtain⟨h1,h2,h3,_⟩:=hn
  replace h:=bx h
  omega
 replace h:=bx h
 refine Evt.chk (by rw[bO];omega) ?_
 refine(Evt.B5 (Q:=fun b=>b=yw s) (Evt.scan (fun k _=>∀j,j<k→OkC (B0 s (j:Int))∧(j=0→97≤B0 s 0∧B0 s 0≤122)) (fun k b=>b=false∧¬(OkC (B0 s (k:Int))∧(k=0→97≤B0 s 0∧B0 s 0≤122))) (fun j hj=>absurd hj (Nat.not_lt_zero _)) (fun k u hk hi=>?_)) (fun t ht=>?_) (fun r hr=>?_))
 ·rw[sT]at hk
  unfold dF
  rw[Ez hk]
  refine Evt.cond (fun e=>Evt.pure ?_) (fun e=>Evt.pure ?_)
  ·replace e:=bx e
   refine⟨rfl,fun h2=>?_⟩
   unfold OkC at h2
   by_cases hk0:k=0
   ·subst hk0
    have:=h2.2 rfl
    simp only[Int.cast_ofNat_Int]at e
    omega
   ·omega
  ·replace e:=bx e
   intro j hj
   by_cases ej:j=k
   ·subst ej
    unfold OkC
    by_cases hj0:j=0
    ·subst hj0
     simp only[Int.cast_ofNat_Int]at e⊢
     by_cases hc:97≤B0 s 0∧B0 s 0≤122
     ·exact⟨.inl hc,fun _=>hc⟩
     ·exact absurd trivial (e (by omega)).2
    ·exact⟨by omega,fun h=>absurd h hj0⟩
   ·exact hi j (by omega)
 ·unfold dG
  rw[ExP,sT]at ht
  refine Evt.pure (pP ⟨by omega,by omega,(ht 0 (by omega)).2 rfl,fun k hk=>(ht k hk).1⟩).symm
 ·obtain⟨k,_,hk,_,rfl,h2⟩:=hr
  rw[sT]at hk
  exact(fq fun hn=>h2 ⟨hn.2.2.2 k hk,fun _=>hn.2.2.1⟩).symm
theorem L2(a b:Int):Evt (fun _=>O7 a b) (fun f=>f=⟨a,b⟩):=Evt.pure rfl
theorem cY(a b:Int):Evt (fun _=>cR a b) (fun f=>f=⟨a,b⟩):=Evt.pure rfl
theorem iU(a b:Int):Evt (fun _=>iV a b) (fun f=>f=⟨a,b⟩):=Evt.pure rfl
def ud(P:Prop)(a b:w9):Prop:=a=b∧(a.code=0→P)
theorem Z7{P:Prop}{a b:Int}(h:a≠0):ud P ⟨a,b⟩ ⟨a,b⟩:=⟨rfl,fun e=>absurd e h⟩
def lC(l:List x7):Prop:=l.length≤60∧l≠ []∧∀k,k<l.length→∀j,j<(Am.get l k).parents.length→0≤Am.get (Am.get l k).parents j∧Am.get (Am.get l k).parents j<k
def Known{α:Type}(nm:Nat→Bs)(k:Nat)(m:List (Bs×α)):Prop:=∀s,(assoc s m).isSome=true↔ ∃j,j<k∧nm j=s
theorem Jq{α:Type}(s t:Bs)(v:α)(m:List (Bs×α)):(assoc s (Q6 t v m)).isSome=true↔s=t∨(assoc s m).isSome=true:=by
 induction m with
 |nil=>
  simp only[Q6,assoc]
  by_cases e:s=t
  ·simp[e]
  ·simp[e]
 |cons p m ih=>
  obtain⟨a,w⟩:=p
  simp only[Q6]
  by_cases e:t=a
  ·subst e
   simp only[if_true,assoc]
   by_cases e2:s=t
   ·simp[e2]
   ·simp[e2]
  ·simp only[if_neg e,assoc]
   by_cases e2:s=a
   ·simp[e2]
   ·simp only[if_neg e2];exact ih
theorem vC{α:Type}{nm:Nat→Bs}:Known (α:=α) nm 0 []:=fun s=>by simp[assoc]
theorem vD{α:Type}{nm:Nat→Bs}{k:Nat}{m:List (Bs×α)}{v:α}(h:Known nm k m):Known nm (k+1) (Q6 (nm k) v m):=fun s=>by
 rw[Jq,h s]
 constructor
 ·rintro(rfl|⟨j,hj,e⟩)
  ·exact⟨k,by omega,rfl⟩
  ·exact⟨j,by omega,e⟩
 ·rintro⟨j,hj,e⟩
  by_cases ej:j=k
  ·subst ej;exact .inl e.symm
  ·exact .inr ⟨j,by omega,e⟩
theorem vE{ρ:Type}{body:Nat→Unit→Option (Ctl (Ctl ρ Unit Unit) Unit Unit)}{m:Nat}(nm:Nat→Bs)(s:Bs)(x:ρ)
 (hb:∀k,k<m→body k ()=if nm k=s then some (.ret (.ret x))else some (.nxt ())):
 Evt (fun _=>F2 body m ()) (fun e=>(e= .nxt ()∧¬ ∃j,j<m∧nm j=s)∨(e= .ret (.ret x)∧∃j,j<m∧nm j=s)):=by
 refine(Evt.scan (fun k _=>¬ ∃j,j<k∧nm j=s) (fun k r=>r= .ret x∧nm k=s) (fun⟨j,hj,_⟩=>absurd hj (Nat.not_lt_zero _)) (fun k u hk hi=>?_)).mono fun e he=>?_
 ·cases u
  rw[hb k hk]
  split
  ·rename_i e
   exact Evt.pure ⟨rfl,e⟩
  ·rename_i e
   exact Evt.pure fun⟨j,hj,ej⟩=>if h:j=k then e (h▸ej)else hi ⟨j,by omega,ej⟩
 ·cases e with
  |nxt t=>exact .inl ⟨rfl,he⟩
  |ret r=>
   obtain⟨k,_,hk,_,rfl,h2⟩:=he
   exact .inr ⟨rfl,k,hk,h2⟩
theorem oL{α:Type}[Inhabited α]{l:List α}{n i:Nat}(h:i<n):Am.get (l.take n) i=Am.get l i:=by
 unfold Am.get
 rw[List.getD_eq_getElem?_getD,List.getD_eq_getElem?_getD,List.getElem?_take,if_pos h]
theorem uf(l:List x7):Ev2 (fun _=>gG l) (fun _=>L8 l) (ud (lC l)):=by
 unfold gG L8
 refine Ev2.cond rfl (fun _=>Ev2.jw (L2 _ _) fun f hf=>by subst hf;exact Ev2.pure (Z7 (by decide))) (fun h=>?_)
 have hl:l.length≤60∧l≠ []:=by
  replace h:=bx h
  exact⟨by omega,fun e=>by subst e;exact h.1 rfl⟩
 refine Ev2.B5 (Ev2.range (fun k s _=>Known (fun i=>(Am.get l i).name) k s∧∀i,i<k→∀j,j<(Am.get l i).parents.length→0≤Am.get (Am.get l i).parents j∧Am.get (Am.get l i).parents j<i) (fun _ _=>False) (ud (lC l)) ⟨vC,fun i hi=>absurd hi (Nat.not_lt_zero _)⟩ (fun k s t hk hi=>?_))
  (fun t u ht=>Ev2.pure ⟨rfl,fun _=>⟨hl.1,hl.2,(ht.elim id False.elim).2⟩⟩) (fun r r' hr=>hr)
 obtain⟨hkn,hp⟩:=hi
 unfold iW Y1
 refine Ev2.jw (qt _) fun a ha=>Ev2.Ey (sU _) fun b hb=>?_
 subst ha hb
 refine Ev2.cond rfl (fun _=>Ev2.jw (L2 _ _) fun f hf=>by subst hf;exact Ev2.pure (Z7 (by decide))) (fun _=>?_)
 refine Ev2.MK (by omega) ?_
 have hlen:(l.take k).length=k:=by rw[List.length_take];omega
 refine Ev2.Bz (fun e=>?_) (fun e=>?_)
 ·refine Ev2.zy (vE (fun i=>(Am.get l i).name) (Am.get l k).name ⟨7,(k:Int)⟩ (fun j hj=>?_)) (fun t ht=>?_) (fun r hr=>?_)
  ·rw[hlen]at hj
   unfold R8
   rw[oL hj]
   by_cases e2:(Am.get l j).name=(Am.get l k).name<;>simp[e2]
  ·rw[hlen]at ht
   rcases ht with⟨_,h2⟩|⟨h1,_⟩
   ·exact absurd ((hkn _).1 e) h2
   ·cases h1
  ·rw[hlen]at hr
   rcases hr with⟨h1,_⟩|⟨h1,_⟩
   ·cases h1
   ·cases h1
    exact Evt.bind (L2 _ _) fun f hf=>by subst hf;exact Evt.pure (Z7 (by decide))
 ·have hno:¬ ∃j,j<k∧(Am.get l j).name=(Am.get l k).name:=fun h=>by
   rw[(hkn _).2 h]at e;cases e
  refine Ev2.zy (vE (fun i=>(Am.get l i).name) (Am.get l k).name ⟨7,(k:Int)⟩ (fun j hj=>?_)) (fun t ht=>?_) (fun r hr=>?_)
  ·rw[hlen]at hj
   unfold R8
   rw[oL hj]
   by_cases e2:(Am.get l j).name=(Am.get l k).name<;>simp[e2]
  ·refine Ev2.TS ?_
   unfold Y2
   refine Ev2.cond rfl (fun _=>Ev2.jw (L2 _ _) fun f hf=>by subst hf;exact Ev2.pure (Z7 (by decide))) (fun _=>?_)
   refine Ev2.B5 (Ev2.range (fun m s _=>(∀j,j<m→0≤Am.get (Am.get l k).parents j∧Am.get (Am.get l k).parents j<k)∧(m=0→s= -1)∧(∀j,j+1=m→s=Am.get (Am.get l k).parents j)∧(m:Int)-1≤s∧s<k) (fun _ _=>False) (Rm (fun _ _=>False) (fun _ _=>False) (ud (lC l))) ⟨fun j hj=>absurd hj (Nat.not_lt_zero _),fun _=>rfl,fun j hj=>by omega,by omega,by omega⟩ (fun m s u hm hj=>?_))
    (fun t u ht=>?_) (fun r r' hr=>?_)
   ·obtain⟨h1,h2,h3,h5,h6⟩:=hj
    unfold iX Y3
    refine Ev2.cond rfl (fun _=>Ev2.jw (L2 _ _) fun f hf=>by subst hf;exact Ev2.pure (Z7 (by decide))) (fun e2=>?_)
    replace e2:=bx e2
    have hw:wr .i64 ((m:Int)-1)=(m:Int)-1:=H9 (by omega) (by omega)
    refine Ev2.MK ⟨N6 fun e3=>?_,N6 fun e3=>?_⟩ ?_
    ·replace e3:=bx e3
     rw[hw];omega
    ·replace e3:=bx e3
     rw[hw];omega
    refine Ev2.cond ?_ (fun _=>Ev2.jw (L2 _ _) fun f hf=>by subst hf;exact Ev2.pure (Z7 (by decide))) (fun e3=>Ev2.pure ?_)
    ·by_cases hm0:m=0
     ·subst hm0
      rw[h2 rfl]
      simp
      omega
     ·have h4:=h3 (m-1) (by omega)
      rw[h4,hw,show((m:Int)-1).toNat=m-1 by omega]
      simp
      omega
    ·replace e3:=bx e3
     refine⟨fun j hj=>?_,fun h=>by omega,fun j hj=>by rw[show j=m by omega],by omega,by omega⟩
     by_cases ej:j=m
     ·subst ej;omega
     ·exact h1 j (by omega)
   ·unfold iY Y4
    refine Ev2.pure ⟨vD hkn,fun i hi=>?_⟩
    by_cases ei:i=k
    ·subst ei;exact(ht.elim id False.elim).1
    ·exact hp i (by omega)
   ·cases r<;>cases r'<;>first|exact hr.elim|exact hr
  ·rw[hlen]at hr
   rcases hr with⟨h1,_⟩|⟨_,h2⟩
   ·cases h1
   ·exact absurd h2 hno
theorem Jr{par:Nat→List Int}{a b:Nat}:Anc par a b↔b=a∨∃p:Nat,(p:Int)∈par a∧Anc par p b:=by
 constructor
 ·intro h
  cases h with
  |refl=>exact .inl rfl
  |step h t=>exact .inr ⟨_,h,t⟩
 ·rintro(rfl|⟨p,h,t⟩)
  ·exact .refl _
  ·exact .step h t
theorem bG{α:Type}[Inhabited α](l:List α)(i:Nat)(v:α)(j:Nat):Am.get (l.set i v) j=if i=j∧i<l.length then v else Am.get l j:=by
 unfold Am.get
 simp only[List.getD_eq_getElem?_getD,List.getElem?_set]
 by_cases e:i=j
 ·subst e
  by_cases h:i<l.length
  ·simp[h]
  ·have:l[i]? =none:=List.getElem?_eq_none (by omega)
   simp[h,this]
 ·simp[e]
theorem vF{α:Type}[Inhabited α](n:Nat)(j:Nat):Am.get (List.replicate n (default:α)) j=default:=by
 unfold Am.get
 simp only[List.getD_eq_getElem?_getD,List.getElem?_replicate]
 split<;>rfl
def par(l:List x7)(i:Nat):List Int:=(Am.get l i).parents
theorem Js{l:List x7}(h:lC l):Low l.length (par l):=fun k hk p hp=>by
 obtain⟨j,hj,e⟩:=vB.1 hp
 have:=h.2.2 k hk j hj
 unfold par at e
 rw[e]at this
 exact this
structure EA(l:List x7)(t:B2):Prop where
 up:t.up.length=l.length
 down:t.down.length=l.length
 ups:∀i,i<l.length→Z6 l.length (Am.get t.up i) (Anc (par l) i)
 Oh:∀j,j<l.length→Z6 l.length (Am.get t.down j) (fun i=>i<l.length∧Anc (par l) i j)
theorem oM{l:List x7}(hl:lC l):Evt (fun _=>fH l) (EA l):=by
 have h60:=hl.1
 have hp:=hl.2.2
 unfold fH
 refine Evt.chk (by rw[bO];omega) ?_
 refine Evt.B5 (Evt.range (fun k s=>s.1.length=l.length∧s.2.length=l.length∧(∀i,i<k→Z6 l.length (Am.get s.1 i) (Anc (par l) i))∧∀j,j<l.length→Z6 l.length (Am.get s.2 j) (fun i=>i<k∧Anc (par l) i j)) (fun _=>False) (fun _=>False)
  ⟨by simp,by simp,fun i hi=>absurd hi (Nat.not_lt_zero _),fun j _=>by rw[vF];exact Z6.zero.congr fun i=>by simp⟩ (fun k s hk hi=>?_)) (fun t ht=>?_) (fun r hr=>hr.elim)
 ·obtain⟨i1,i2,i3,i4⟩:=hi
  unfold gY
  refine Evt.chk (by omega) (Evt.chk (by omega) (Evt.eE ?_))
  refine Evt.B5 (Evt.range (fun m s'=>s'.length=l.length∧(∀i,i<k→Z6 l.length (Am.get s' i) (Anc (par l) i))∧Z6 l.length (Am.get s' k) (fun j=>j=k∨∃q,q<m∧Anc (par l) (Am.get (par l k) q).toNat j)) (fun _=>False) (fun _=>False) ⟨by simp;exact i1,fun i hi=>?_,?_⟩ (fun m u hm hu=>?_)) (fun t ht=>?_) (fun r hr=>hr.elim)
  ·rw[bG,if_neg (by omega)];exact i3 i hi
  ·rw[bG,if_pos ⟨rfl,by omega⟩]
   exact(Z6.one h60 hk).congr fun j=>by simp
  ·obtain⟨u1,u2,u3⟩:=hu
   unfold gZ
   have:=hp k hk m hm
   refine Evt.chk (by omega) (Evt.chk (by omega) (Evt.eE (Evt.pure ⟨by simp;exact u1,fun i hi=>?_,?_⟩)))
   ·rw[bG,if_neg (by omega)];exact u2 i hi
   ·rw[bG,if_pos ⟨rfl,by omega⟩]
    refine(Z6.or h60 u3 (u2 _ (by omega))).congr fun j=>?_
    constructor
    ·rintro((h|⟨q,hq,h⟩)|h)
     ·exact .inl h
     ·exact .inr ⟨q,by omega,h⟩
     ·exact .inr ⟨m,by omega,h⟩
    ·rintro(h|⟨q,hq,h⟩)
     ·exact .inl (.inl h)
     ·by_cases eq:q=m
      ·subst eq;exact .inr h
      ·exact .inl (.inr ⟨q,by omega,h⟩)
  ·obtain⟨t1,t2,t3⟩:=ht.elim id False.elim
   have t3:Z6 l.length (Am.get t k) (Anc (par l) k):=t3.congr fun j=>by
    rw[Jr]
    constructor
    ·rintro(h|⟨q,hq,h⟩)
     ·exact .inl h
     ·refine .inr ⟨(Am.get (par l k) q).toNat,?_,h⟩
      have:=hp k hk q hq
      rw[show(((Am.get (par l k) q).toNat:Nat):Int)=Am.get (par l k) q by unfold par;omega]
      exact vB.2 ⟨q,hq,rfl⟩
    ·rintro(h|⟨p,h1,h2⟩)
     ·exact .inl h
     ·obtain⟨q,hq,e⟩:=vB.1 h1
      exact .inr ⟨q,hq,by rw[e,Int.toNat_natCast];exact h2⟩
   unfold hC
   refine Evt.B5 (Evt.range (fun m s'=>s'.length=l.length∧∀j,j<l.length→Z6 l.length (Am.get s' j) (fun i=>(i<k∨(i=k∧j<m))∧Anc (par l) i j)) (fun _=>False) (fun _=>False) ⟨i2,fun j hj=>(i4 j hj).congr fun i=>by simp⟩ (fun m u hm hu=>?_)) (fun t' ht'=>?_) (fun r hr=>hr.elim)
   ·obtain⟨u1,u2⟩:=hu
    unfold hJ
    have hbit:=t3.bit h60 (j:=m) (by omega)
    refine Evt.chk (by omega) (Evt.chk (by omega) (Evt.cond (fun e=>?_) (fun e=>Evt.pure ⟨u1,fun j hj=>?_⟩)))
    ·replace e:=bx e
     have e:=hbit.1 e
     refine Evt.chk (by omega) (Evt.eE (Evt.pure ⟨by simp;exact u1,fun j hj=>?_⟩))
     rw[bG]
     by_cases ej:m=j
     ·subst ej
      rw[if_pos ⟨rfl,by omega⟩]
      refine(Z6.or h60 (u2 m hm) (Z6.one h60 hk)).congr fun i=>?_
      constructor
      ·rintro(⟨h1|h1,h2⟩|rfl)
       ·exact⟨.inl h1,h2⟩
       ·omega
       ·exact⟨.inr ⟨rfl,by omega⟩,e⟩
      ·rintro⟨h1|⟨rfl,h1⟩,h2⟩
       ·exact .inl ⟨.inl h1,h2⟩
       ·exact .inr rfl
     ·rw[if_neg (by omega)]
      refine(u2 j hj).congr fun i=>?_
      constructor
      ·rintro⟨h1|⟨h1,h3⟩,h2⟩
       ·exact⟨.inl h1,h2⟩
       ·exact⟨.inr ⟨h1,by omega⟩,h2⟩
      ·rintro⟨h1|⟨h1,h3⟩,h2⟩
       ·exact⟨.inl h1,h2⟩
       ·exact⟨.inr ⟨h1,by omega⟩,h2⟩
    ·replace e:=bx e
     have e:¬Anc (par l) k m:=fun h=>e (hbit.2 h)
     refine(u2 j hj).congr fun i=>?_
     constructor
     ·rintro⟨h1|⟨h1,h3⟩,h2⟩
      ·exact⟨.inl h1,h2⟩
      ·exact⟨.inr ⟨h1,by omega⟩,h2⟩
     ·rintro⟨h1|⟨h1,h3⟩,h2⟩
      ·exact⟨.inl h1,h2⟩
      ·by_cases ej:j=m
       ·subst ej;subst h1;exact absurd h2 e
       ·exact⟨.inr ⟨h1,by omega⟩,h2⟩
   ·obtain⟨v1,v2⟩:=ht'.elim id False.elim
    unfold hY
    refine Evt.pure ⟨t1,v1,fun i hi=>?_,fun j hj=>(v2 j hj).congr fun i=>?_⟩
    ·by_cases ei:i=k
     ·subst ei;exact t3
     ·exact t2 i (by omega)
    ·constructor
     ·rintro⟨h1|⟨h1,_⟩,h2⟩
      ·exact⟨by omega,h2⟩
      ·exact⟨by omega,h2⟩
     ·rintro⟨h1,h2⟩
      by_cases ei:i=k
      ·exact⟨.inr ⟨ei,hj⟩,h2⟩
      ·exact⟨.inl (by omega),h2⟩
 ·obtain⟨t1,t2,t3,t4⟩:=ht.elim id False.elim
  unfold ig
  exact Evt.pure ⟨t1,t2,t3,t4⟩
open Classical in
noncomputable def Jt(l:List x7)(a b:Int):Bool:=decide (Anc (par l) a.toNat b.toNat)
theorem yx{l:List x7}(hl:lC l){t:B2}(h:EA l t){a b:Int}(ha:0≤a∧a<l.length)(hb:0≤b∧b<l.length):Evt (fun _=>cU t a b) (fun r=>r=Jt l a b):=by
 have:=h.up
 have h60:=hl.1
 unfold cU
 refine Evt.chk (by omega) (Evt.chk hb.1 (Evt.pure ?_))
 have:=(h.ups a.toNat (by omega)).bit h60 (j:=b.toNat) (by omega)
 unfold Jt
 exact decide_eq_decide.2 this
def Com(l:List x7)(a b i:Nat):Prop:=i<l.length∧Anc (par l) i a∧Anc (par l) i b
def Wrong(l:List x7)(a b:Nat):Prop:=∃m,Com l a b m∧(∀j,j<m→¬Com l a b j)∧∃i,Com l a b i∧¬Anc (par l) i m
theorem Oi:KB=Lib.deBruijn64tab.map (fun n:Nat=>(n:Int)):=by decide+kernel
theorem Ro{y k:Nat}(h1:y<64)(h3:Lib.deBruijn64tab.getD y 0=k):Am.get (Lib.deBruijn64tab.map fun n:Nat=>(n:Int)) y=(k:Int):=by
 unfold Am.get
 rw[List.getD_eq_getElem?_getD,List.getElem?_map]
 rw[List.getD_eq_getElem?_getD]at h3
 have hlen:y<Lib.deBruijn64tab.length:=h1
 rw[List.getElem?_eq_getElem hlen]at h3⊢
 simp only[Option.getD_some,Option.map_some]at h3⊢
 rw[h3]
theorem EB{x L:Nat}(h0:x≠0)(h:x<2^L)(hL:L≤60):Evt (fun _=>Z8 (x:Int)) (fun v=>v=(Lib.ctz L x:Nat)):=by
 have h2:=CQ hL
 unfold Z8
 refine Evt.cond (fun e=>?_) (fun _=>?_)
 ·replace e:=bx e
  omega
 have ML:x&&& (18446744073709551616-x)=2^Lib.ctz L x∧Lib.ctz L x<L:=by
  obtain⟨m,hm,hk⟩:=Lib.ctzFrom_spec L x (by omega) h
  have e:Lib.ctz L x=Lib.ctzFrom L x:=by simp[Lib.ctz,h0]
  rw[e]
  refine⟨?_,hk⟩
  have:=Lib.and_neg 64 (Lib.ctzFrom L x) m (by rw[←hm];omega)
  rw[←hm]at this
  exact this
 obtain⟨e1,hk⟩:=ML
 have e2:wr .u64 (0-(x:Int))=((18446744073709551616-x:Nat):Int):=by
  have:(((18446744073709551616-x:Nat):Int))=18446744073709551616-(x:Int):=by omega
  have e3:wr .u64 (0-(x:Int))=wr .u64 (18446744073709551616-(x:Int)):=by
   unfold wr IntKind.wrap
   have h1:IntKind.u64.signed=false:=by decide
   have h2:IntKind.u64.bits=64:=by decide
   simp only[h1,h2]
   have e4:(0-(x:Int))% (2:Int)^64=(18446744073709551616-(x:Int))% (2:Int)^64:=by omega
   simp only[e4]
  rw[e3, ←this]
  exact kL (by omega)
 have e3:cu .and .u64 (x:Int) (wr .u64 (0-(x:Int)))=((2^Lib.ctz L x:Nat):Int):=by
  rw[e2,rV (by omega) (by omega),e1]
 have hd:=Lib.deBruijn64_at (Lib.ctz L x) (by omega)
 have e4:wr .u64 (((2^Lib.ctz L x:Nat):Int)*285870213051353865)=((2^Lib.ctz L x*285870213051353865%18446744073709551616:Nat):Int):=by
  have:((2^Lib.ctz L x:Nat):Int)*285870213051353865=((2^Lib.ctz L x*285870213051353865:Nat):Int):=by simp
  rw[this]
  generalize 2^Lib.ctz L x*285870213051353865=y
  have e5:wr .u64 (y:Int)=wr .u64 ((y%18446744073709551616:Nat):Int):=by
   unfold wr IntKind.wrap
   have h1:IntKind.u64.signed=false:=by decide
   have h2:IntKind.u64.bits=64:=by decide
   simp only[h1,h2]
   have e4:(y:Int)% (2:Int)^64=((y%18446744073709551616:Nat):Int)% (2:Int)^64:=by omega
   simp only[e4]
  rw[e5]
  exact kL (Nat.mod_lt _ (by decide))
 have e5:Int.fdiv (((2^Lib.ctz L x*285870213051353865%18446744073709551616:Nat):Int)) (2^(min 58 64))=((2^Lib.ctz L x*285870213051353865%18446744073709551616 / 288230376151711744:Nat):Int):=by
  generalize 2^Lib.ctz L x*285870213051353865%18446744073709551616=y
  have:((2:Int)^(min 58 64))=288230376151711744:=by decide
  rw[this,Int.fdiv_eq_ediv_of_nonneg _ (by decide)]
  omega
 have e6:=Ro hd.1 hd.2
 rw[e3,e4,e5]
 have h1:=hd.1
 generalize 2^Lib.ctz L x*285870213051353865%18446744073709551616 / 288230376151711744=y at h1 e6
 clear e1 e2 e3 e4 e5 hd
 refine Evt.chk ⟨Int.natCast_nonneg _,Int.ofNat_lt.2 h1⟩ (Evt.pure ?_)
 rw[Int.toNat_natCast,Oi,e6,H9 (by omega) (by omega)]
theorem CS{l:List x7}(hl:lC l){t:B2}(h:EA l t){a b:Nat}(ha:a<l.length)(hb:b<l.length):Evt (fun _=>eL t (a:Int) (b:Int)) (fun r=>r.2.2=true↔Wrong l a b):=by
 have h60:=hl.1
 have ML:=Js hl
 have hd:=h.down
 unfold eL
 refine Evt.chk (by omega) (Evt.chk (by omega) ?_)
 rw[Int.toNat_natCast,Int.toNat_natCast]
 have hc:Z6 l.length (cu .and .u64 (Am.get t.down a) (Am.get t.down b)) (Com l a b):=(Z6.and h60 (h.Oh a ha) (h.Oh b hb)).congr fun i=>⟨fun h=>⟨h.1.1,h.1.2,h.2.2⟩,fun h=>⟨⟨h.1,h.2.1⟩,h.1,h.2.2⟩⟩
 generalize cu .and .u64 (Am.get t.down a) (Am.get t.down b)=c at hc
 refine Evt.cond (fun e=>Evt.pure ?_) (fun e=>?_)
 ·replace e:=bx e
  have hno:=hc.Og.1 e
  exact⟨fun h=>(by cases h),fun⟨m,hm,_⟩=>absurd hm (hno m)⟩
 ·replace e:=bx e
  obtain⟨x,rfl,hx,Oj⟩:=hc
  obtain⟨h1,h2,h3⟩:=Jp (by omega:x≠0) hx
  refine Evt.bind (EB (by omega) hx h60) fun v hv=>?_
  subst hv
  have hcm:Com l a b (Lib.ctz l.length x):=(Oj _).1 h1
  have MN:∀j,j<Lib.ctz l.length x→¬Com l a b j:=fun j hj hc=>by
   have:=(Oj j).2 hc
   rw[h2 j hj]at this;cases this
  have hsub:∀i,Anc (par l) i (Lib.ctz l.length x)→i<l.length→Com l a b i:=fun i hi hil=>⟨hil,hi.trans hcm.2.1,hi.trans hcm.2.2⟩
  have hext:=(h.Oh (Lib.ctz l.length x) h3).ext (y:=(x:Int)) (Q:=Com l a b) ⟨x,rfl,hx,Oj⟩
  have TU:∀m,Com l a b m→(∀j,j<m→¬Com l a b j)→m=Lib.ctz l.length x:=fun m hm hl'=>by
   rcases Nat.lt_trichotomy m (Lib.ctz l.length x)with h|h|h
   ·exact absurd hm (MN m h)
   ·exact h
   ·exact absurd hcm (hl' _ h)
  refine Evt.chk (by omega) (Evt.cond (fun e2=>Evt.pure ?_) (fun e2=>Evt.pure ?_))
  ·replace e2:=bx e2
   refine⟨fun _=>?_,fun _=>rfl⟩
   rw[Int.toNat_natCast]at e2
   refine⟨_,hcm,MN,Classical.byContradiction fun hno=>e2 (hext.2 fun i=>⟨fun h=>hsub i h.2 h.1,fun h=>⟨h.1,Classical.byContradiction fun hn=>hno ⟨i,h,hn⟩⟩⟩)⟩
  ·replace e2:=bx e2
   rw[Int.toNat_natCast]at e2
   refine⟨fun h=>(by cases h),fun⟨m,hm,hl',i,hi,hn⟩=>?_⟩
   have:=TU m hm hl'
   subst this
   exact absurd ((hext.1 e2 i).2 hi).2 hn
open Classical in
theorem yA{l:List x7}{a b:Int}:Jt l a b=true↔Anc (par l) a.toNat b.toNat:=by unfold Jt;exact decide_eq_true_iff
theorem rW{l:List x7}{i j:Nat}:Jt l (i:Int) (j:Int)=true↔Anc (par l) i j:=by
 rw[yA,Int.toNat_natCast,Int.toNat_natCast]
theorem vG{l:List x7}(hl:lC l){a b:Int}(ha:0≤a∧a<l.length)(hb:0≤b∧b<l.length):Evt (fun n=>F8 n l a b) (fun r=>r=Jt l a b):=by
 have h60:=hl.1
 have ML:=Js hl
 unfold F8
 refine Evt.chk ⟨by rw[bO];omega,by rw[bO];omega⟩ (Evt.chk ha (Evt.eE ?_))
 refine Evt.B5 (P:=ExP (fun m:List Bool=>m.length=l.length∧∀j,j<l.length→(Am.get m j=true↔j=b.toNat∧Anc (par l) a.toNat j)∨j≠b.toNat) (fun _=>False))
  ((Evt.loop (fun s:List Bool×Int=>s.2.toNat) (fun s=>s.1.length=l.length∧s.2≤a∧(b≤s.2∨s.2=a)∧(∀j,Am.get s.1 j=true→j<l.length∧Anc (par l) a.toNat j)∧Am.get s.1 a.toNat=true∧(∀q:Nat,s.2<q→q≤a→Am.get s.1 q=true→∀p:Nat,(p:Int)∈par l q→Am.get s.1 p=true))
    (fun m=>m.length=l.length∧(Am.get m b.toNat=true↔Anc (par l) a.toNat b.toNat)) (fun _=>False) ?_ (fun s hs=>?_)).mono fun e he=>?_) (fun t ht=>?_) (fun r hr=>hr.elim)
 ·refine⟨by simp,Int.le_refl _,.inr rfl,fun j hj=>?_,?_,fun q h1 h2=>by have:(a:Int)<q:=h1;omega⟩
  ·show j<_∧_
   rw[bG]at hj
   split at hj
   ·rename_i h;rw[←h.1];exact⟨by omega,.refl _⟩
   ·rw[vF]at hj;cases hj
  ·show Am.get ((List.replicate l.length (default:Bool)).set a.toNat true) a.toNat=true
   rw[bG,if_pos ⟨rfl,by simp;omega⟩]
 ·obtain⟨s1,s2,s3,s4,s5,s6⟩:=hs
  unfold eM
  refine Evt.cond (fun e=>?_) (fun e=>Evt.pure ?_)
  ·replace e:=bx e
   refine Evt.chk (by omega) (Evt.cond (fun e2=>?_) (fun e2=>Evt.pure ?_))
   ·refine Evt.chk (by omega) ?_
    have hq:s.2.toNat<l.length:=by omega
    refine Evt.B5 (Evt.range (fun m u=>u.length=l.length∧(∀j,Am.get u j=true→j<l.length∧Anc (par l) a.toNat j)∧(∀j,Am.get s.1 j=true→Am.get u j=true)∧(∀j:Nat,s.2≤(j:Int)→Am.get u j=true→Am.get s.1 j=true)∧∀i,i<m→Am.get u (Am.get (par l s.2.toNat) i).toNat=true) (fun _=>False) (fun _=>False)
     ⟨s1,s4,fun _ h=>h,fun _ _ h=>h,fun i hi=>absurd hi (Nat.not_lt_zero _)⟩ (fun m u hm hu=>?_)) (fun t ht=>?_) (fun r hr=>hr.elim)
    ·obtain⟨u1,u2,u3,u4,u5⟩:=hu
     have hp:=hl.2.2 _ hq m hm
     unfold eN
     refine Evt.chk (by omega) (Evt.eE (Evt.pure ⟨by simp;exact u1,fun j hj=>?_,fun j hj=>?_,fun j h1 hj=>?_,fun i hi=>?_⟩))
     ·rw[bG]at hj
      split at hj
      ·rename_i h
       rw[←h.1]
       refine⟨by omega,(s4 _ e2).2.trans (Anc.Jo ?_)⟩
       rw[show(((Am.get (Am.get l s.2.toNat).parents m).toNat:Nat):Int)=Am.get (Am.get l s.2.toNat).parents m by omega]
       exact vB.2 ⟨m,hm,rfl⟩
      ·exact u2 j hj
     ·rw[bG];split
      ·rfl
      ·exact u3 j hj
     ·rw[bG]at hj
      split at hj
      ·omega
      ·exact u4 j h1 hj
     ·rw[bG];split
      ·rfl
      ·by_cases ei:i=m
       ·subst ei
        rename_i h
        exact absurd ⟨rfl,by omega⟩ h
       ·exact u5 i (by omega)
    ·obtain⟨t1,t2,t3,t4,t5⟩:=ht.elim id False.elim
     have hw:wr .i64 (s.2-1)=s.2-1:=H9 (by omega) (by omega)
     unfold eO
     rw[hw]
     refine Evt.pure ⟨⟨t1,by show s.2-1≤a;omega,.inl (by show b≤s.2-1;omega),t2,t3 _ s5,fun q h1 h2 h3 p hp=>?_⟩,by show(s.2-1).toNat<s.2.toNat;omega⟩
     have h1:s.2-1<q:=h1
     by_cases eq:(q:Int)=s.2
     ·have hq2:q=s.2.toNat:=by omega
      obtain⟨i,hi,e3⟩:=vB.1 hp
      rw[hq2]at hi e3
      have:=t5 i hi
      rw[e3,Int.toNat_natCast]at this
      exact this
     ·exact t3 p (s6 q (by omega) h2 (t4 q (by omega) h3) p hp)
   ·have hw:wr .i64 (s.2-1)=s.2-1:=H9 (by omega) (by omega)
    rw[hw]
    refine⟨⟨s1,by show s.2-1≤a;omega,.inl (by show b≤s.2-1;omega),s4,s5,fun q h1 h2 h3 p hp=>?_⟩,by show(s.2-1).toNat<s.2.toNat;omega⟩
    have h1:s.2-1<q:=h1
    by_cases eq:(q:Int)=s.2
    ·rw[show s.2.toNat=q by omega,h3]at e2;cases e2
    ·exact s6 q (by omega) h2 h3 p hp
  ·replace e:=bx e
   refine⟨s1,Anc.marks ML (by omega) (fun j hj=>(s4 j hj).2) s5 (i:=0) fun q h1 h2 h3 p hp=>s6 q (by omega) (by omega) h3 p hp⟩
 ·cases e with
  |nxt m=>exact⟨he.1,fun j hj=>if h:j=b.toNat then .inl (by rw[h];exact⟨fun h2=>⟨rfl,he.2.1 h2⟩,fun h2=>he.2.2 h2.2⟩)else .inr h⟩
  |ret r=>exact he.elim
 ·obtain⟨t1,t2⟩:=ht
  unfold eP
  refine Evt.chk (by omega) (Evt.pure ?_)
  have:=(t2 b.toNat (by omega)).elim id (fun h=>absurd rfl h)
  exact Bool.eq_iff_iff.2 ⟨fun h=>yA.2 (this.1 h).2,fun h=>this.2 ⟨rfl,yA.1 h⟩⟩
theorem MO{α:Type}{f:Nat→Nat→Option α}{g:Nat→α}(L:Nat)(h:∀i,i<L→Evt (fun n=>f n i) (fun r=>r=g i)):∃N,∀n,N≤n→∀i,i<L→f n i=some (g i):=by
 induction L with
 |zero=>exact⟨0,fun n _ i hi=>absurd hi (Nat.not_lt_zero _)⟩
 |succ L ih=>
  obtain⟨N,hN⟩:=ih fun i hi=>h i (by omega)
  obtain⟨r,hr,M,hM⟩:=h L (by omega)
  subst hr
  refine⟨max N M,fun n hn i hi=>?_⟩
  by_cases e:i=L
  ·subst e;exact hM n (by omega)
  ·exact hN n (by omega) i (by omega)
theorem EC{l:List x7}(hl:lC l):Evt (fun n=>ug n l) (fun t=>t=tf l.length l.length fun i j=>Jt l (i:Int) (j:Int)):=by
 have h60:=hl.1
 obtain⟨N,hN⟩:=MO (f:=fun n i=>if ∀j,j<l.length→F8 n l (i:Int) (j:Int)=some (Jt l (i:Int) (j:Int))then some ()else none) (g:=fun _=>()) l.length fun i hi=>by
  obtain⟨N,hN⟩:=MO (f:=fun n j=>F8 n l (i:Int) (j:Int)) (g:=fun j=>Jt l (i:Int) (j:Int)) l.length fun j hj=>vG hl (by omega) (by omega)
  exact⟨(),rfl,N,fun n hn=>if_pos fun j hj=>hN n hn j hj⟩
 have key:∀n,N≤n→∀i,i<l.length→∀j,j<l.length→F8 n l (i:Int) (j:Int)=some (Jt l (i:Int) (j:Int)):=fun n hn i hi=>by
  have:=hN n hn i hi
  split at this
  ·assumption
  ·cases this
 refine⟨_,rfl,N,fun n hn=>?_⟩
 show ug n l=_
 unfold ug
 have h1:l.length*24≤top:=by rw[bO];omega
 have h2:(((List.range l.length).all fun i=>(List.range l.length).all fun j=>(F8 n l (i:Int) (j:Int)).isSome)=true):=by
  refine List.all_eq_true.2 fun i hi=>List.all_eq_true.2 fun j hj=>?_
  rw[key n hn i (List.mem_range.1 hi) j (List.mem_range.1 hj)];rfl
 unfold Am.chk
 rw[if_pos h1,if_pos h2]
 refine congrArg some (Bq fun i j hi hj=>?_)
 rw[key n hn i hi j hj];rfl
theorem CT{l:List x7}(hl:lC l):Evt (fun n=>cx n l) (fun r=>(r= -1∧∀b,b<l.length→∀a,a<b→¬Wrong l a b)∨∃b:Nat,r=b∧b<l.length∧(∃a,a<b∧Wrong l a b)∧∀c,c<b→∀a,a<c→¬Wrong l a c):=by
 have h60:=hl.1
 unfold cx
 refine Evt.bind (EC hl) fun t ht=>?_
 subst ht
 refine Evt.chk (by omega) ?_
 refine Evt.B5 (Evt.scan (fun b _=>∀c,c<b→∀a,a<c→¬Wrong l a c) (fun b (r:Int)=>r=(b:Int)∧∃a,a<b∧Wrong l a b) (fun c hc=>absurd hc (Nat.not_lt_zero _)) (fun b u hb hi=>?_)) (fun t ht=>?_) (fun r hr=>?_)
 ·unfold cG
  refine Evt.chk (by omega) ?_
  refine Evt.B5 (Evt.scan (fun a _=>∀c,c<a→¬Wrong l c b) (fun a (r:Ctl Int Unit Unit)=>r= .ret (b:Int)∧Wrong l a b) (fun c hc=>absurd hc (Nat.not_lt_zero _)) (fun a u ha hj=>?_)) (fun t ht=>?_) (fun r hr=>?_)
  ·unfold cH
   refine Evt.chk (by omega) ?_
   refine Evt.B5 (Evt.scan (fun i (s:Int)=>(s= -1∧∀j,j<i→¬Com l a b j)∨∃m:Nat,s=m∧m<i∧Com l a b m∧(∀j,j<m→¬Com l a b j)∧∀j,j<i→Com l a b j→Anc (par l) j m) (fun i (r:Ctl (Ctl Int Unit Unit) Unit Unit)=>r= .ret (.ret (b:Int))∧Wrong l a b) (.inl ⟨rfl,fun j hj=>absurd hj (Nat.not_lt_zero _)⟩) (fun i s hi2 hs=>?_)) (fun t ht=>?_) (fun r hr=>?_)
   ·unfold cI
    rw[FQ,MG hi2,Jf,FT (by omega),FT (by omega)]
    refine Evt.chk (by omega) (Evt.chk (by omega) (Evt.chk (N6 fun _=>by omega) (Evt.cond (fun e=>?_) (fun e=>Evt.pure ?_))))
    ·replace e:=bx e
     rw[rW,rW]at e
     refine Evt.cond (fun e2=>Evt.pure ?_) (fun e2=>?_)
     ·replace e2:=bx e2
      rcases hs with⟨rfl,h⟩|⟨m,rfl,_⟩
      ·exact .inr ⟨i,rfl,by omega,⟨hi2,e.1,e.2⟩,h,fun j hj hc=>by
        by_cases ej:j=i
        ·subst ej;exact .refl _
        ·exact absurd hc (h j (by omega))⟩
      ·omega
     ·replace e2:=bx e2
      rcases hs with⟨rfl,h⟩|⟨m,rfl,hm,hc,hl',hall⟩
      ·omega
      ·rw[Int.toNat_natCast,FT (by omega)]
       refine Evt.chk (by omega) (Evt.cond (fun e3=>Evt.pure ?_) (fun e3=>Evt.pure ?_))
       ·replace e3:=bx e3
        refine⟨rfl,m,hc,hl',i,⟨hi2,e.1,e.2⟩,fun h=>?_⟩
        rw[rW.2 h]at e3;cases e3
       ·replace e3:=bx e3
        exact .inr ⟨m,rfl,by omega,hc,hl',fun j hj hcj=>by
         by_cases ej:j=i
         ·subst ej;exact rW.1 e3
         ·exact hall j (by omega) hcj⟩
    ·have hno:¬Com l a b i:=fun h=>by
      rw[rW.2 h.2.1,rW.2 h.2.2]at e;cases e
     rcases hs with⟨rfl,h⟩|⟨m,rfl,hm,hc,hl',hall⟩
     ·exact .inl ⟨rfl,fun j hj hcj=>if ej:j=i then hno (ej▸hcj)else h j (by omega) hcj⟩
     ·exact .inr ⟨m,rfl,by omega,hc,hl',fun j hj hcj=>if ej:j=i then absurd (ej▸hcj) hno else hall j (by omega) hcj⟩
   ·unfold cJ
    refine Evt.pure fun c hc hw=>?_
    by_cases ec:c=a
    ·subst ec
     obtain⟨m,hm,hml,i,hic,hia⟩:=hw
     rcases ht with⟨_,h⟩|⟨m',_,hm',hc',hl',hall⟩
     ·exact h m hm.1 hm
     ·have:m=m':=by
       rcases Nat.lt_trichotomy m m' with h|h|h
       ·exact absurd hm (hl' m h)
       ·exact h
       ·exact absurd hc' (hml m' h)
      subst this
      exact hia (hall i hic.1 hic)
    ·exact hj c (by omega) hw
   ·obtain⟨k,s,hk,_,rfl,hw⟩:=hr
    exact⟨rfl,hw⟩
  ·unfold cK
   refine Evt.pure fun c hc a ha=>?_
   by_cases ec:c=b
   ·subst ec;exact ht a ha
   ·exact hi c (by omega) a ha
  ·obtain⟨k,s,hk,_,rfl,hw⟩:=hr
   exact⟨rfl,k,hk,hw⟩
 ·unfold cM
  exact Evt.pure (.inl ⟨rfl,ht⟩)
 ·obtain⟨k,s,hk,hi,rfl,hw⟩:=hr
  exact .inr ⟨k,rfl,hk,hw,hi⟩
structure yB(h:y6):Prop where
 types:lC h.types
 n:h.C1.length≤40
 C1:∀k,k<h.C1.length→(0≤(Am.get h.C1 k).of_∧(Am.get h.C1 k).of_<h.types.length)∧0≤(Am.get h.C1 k).value∧(Am.get h.C1 k).value<h.types.length
theorem Ju{h:y6}(h1:lC h.types)(h2:h.C1.length≤40):Ev2 (fun _=>cA h ()) (fun _=>B5 (F2 (M0 h) h.C1.length ()) (S9)) (ud (yB h)):=by
 unfold cA
 refine Ev2.B5 (Ev2.range (fun k s _=>Known (fun i=>(Am.get h.C1 i).name) k s∧∀i,i<k→(0≤(Am.get h.C1 i).of_∧(Am.get h.C1 i).of_<h.types.length)∧0≤(Am.get h.C1 i).value∧(Am.get h.C1 i).value<h.types.length) (fun _ _=>False) (ud (yB h)) ⟨vC,fun i hi=>absurd hi (Nat.not_lt_zero _)⟩ (fun k s t hk hi=>?_))
  (fun t u ht=>Ev2.pure ⟨rfl,fun _=>⟨h1,h2,(ht.elim id False.elim).2⟩⟩) (fun r r' hr=>hr)
 obtain⟨hkn,hp⟩:=hi
 unfold fA M0
 refine Ev2.jw (qt _) fun a ha=>Ev2.Ey (sU _) fun b hb=>?_
 subst ha hb
 refine Ev2.cond rfl (fun _=>Ev2.jw (L2 _ _) fun f hf=>by subst hf;exact Ev2.pure (Z7 (by decide))) (fun _=>?_)
 refine Ev2.MK (by omega) ?_
 have hlen:(h.C1.take k).length=k:=by rw[List.length_take];omega
 refine Ev2.Bz (fun e=>?_) (fun e=>?_)
 ·refine Ev2.zy (vE (fun i=>(Am.get h.C1 i).name) (Am.get h.C1 k).name ⟨7,(k:Int)⟩ (fun j hj=>?_)) (fun t ht=>?_) (fun r hr=>?_)
  ·rw[hlen]at hj
   unfold M1
   rw[oL hj]
   by_cases e2:(Am.get h.C1 j).name=(Am.get h.C1 k).name<;>simp[e2]
  ·rw[hlen]at ht
   rcases ht with⟨_,h2⟩|⟨h1,_⟩
   ·exact absurd ((hkn _).1 e) h2
   ·cases h1
  ·rw[hlen]at hr
   rcases hr with⟨h1,_⟩|⟨h1,_⟩
   ·cases h1
   ·cases h1
    exact Evt.bind (L2 _ _) fun f hf=>by subst hf;exact Evt.pure (Z7 (by decide))
 ·have hno:¬ ∃j,j<k∧(Am.get h.C1 j).name=(Am.get h.C1 k).name:=fun h=>by
   rw[(hkn _).2 h]at e;cases e
  refine Ev2.zy (vE (fun i=>(Am.get h.C1 i).name) (Am.get h.C1 k).name ⟨7,(k:Int)⟩ (fun j hj=>?_)) (fun t ht=>?_) (fun r hr=>?_)
  ·rw[hlen]at hj
   unfold M1
   rw[oL hj]
   by_cases e2:(Am.get h.C1 j).name=(Am.get h.C1 k).name<;>simp[e2]
  ·unfold T2
   refine Ev2.TS (Ev2.cond rfl (fun _=>Ev2.jw (L2 _ _) fun f hf=>by subst hf;exact Ev2.pure (Z7 (by decide))) (fun e3=>Ev2.pure ⟨vD hkn,fun i hi=>?_⟩))
   replace e3:=bx e3
   by_cases ei:i=k
   ·subst ei;omega
   ·exact hp i (by omega)
  ·rw[hlen]at hr
   rcases hr with⟨h1,_⟩|⟨_,h2⟩
   ·cases h1
   ·exact absurd h2 hno
theorem rE(h:y6):Ev2 (fun _=>fI h) (fun n=>Q0 n h) (ud (yB h)):=by
 unfold fI Q0
 obtain⟨f,hf,hl,hr⟩:∃f,(f.code=0→lC h.types)∧Evt (fun _=>gG h.types) (fun x=>x=f)∧Evt (fun _=>L8 h.types) (fun x=>x=f):=
  (uf h.types).eq
 refine Ev2.zx (fun e=>?_) (fun e=>?_)
 ·refine Ev2.Bz (fun _=>Ev2.jw (L2 _ _) fun f hf=>by subst hf;exact Ev2.pure (Z7 (by decide))) (fun e2=>?_)
  replace e:=bx e;replace e2:=bx e2
  omega
 ·refine Ev2.Ey hr fun f' e'=>?_
  subst e'
  refine Ev2.Bz (fun e2=>?_) (fun e2=>?_)
  ·have:f'=⟨2, -1⟩:=by
    obtain⟨x,hx,N,hN⟩:=hr
    have:=hN N (Nat.le_refl _)
    rw[hx]at this
    simp only[]at this
    unfold L8 at this
    rw[show(bif (decide ((↑h.types.length:Int)=0))then true else(decide (60<(↑h.types.length:Int))))=true by
     replace e:=bx e;replace e2:=bx e2
     by_cases h0:(↑h.types.length:Int)=0
     ·simp only[h0,decide_true,cond_true]
     ·simp only[h0,decide_false,cond_false,decide_eq_true_eq];omega]at this
    exact(Option.some.inj this).symm
   subst this
   exact Ev2.jw (L2 _ _) fun f hf=>by subst hf;exact Ev2.zx (fun _=>Ev2.pure (Z7 (by decide))) (fun e=>by cases e)
  ·refine Ev2.jw hl fun f e'=>?_
   subst e'
   refine Ev2.cond rfl (fun e3=>?_) (fun e3=>?_)
   ·replace e3:=bx e3
    exact Ev2.pure ⟨rfl,fun h=>absurd h e3⟩
   ·replace e3:=bx e3
    have ht:=hf e3
    have h60:=ht.1
    have h40:h.C1.length≤40:=by replace e:=bx e;omega
    refine Ev2.jw (oM ht) fun t VU=>Ev2.Ey (CT ht) fun u hu=>?_
    refine Ev2.Rl (by omega) ?_
    refine Ev2.Rn (Evt.scan (fun b _=>∀c,c<b→∀a,a<c→¬Wrong h.types a c) (fun b (r:w9)=>r=⟨16,(b:Int)⟩∧∃a,a<b∧Wrong h.types a b) (fun c hc=>absurd hc (Nat.not_lt_zero _)) (fun b s hb hi=>?_)) (fun t ht=>?_) (fun r hr=>?_)
    ·unfold fB
     refine Evt.chk (by omega) ?_
     refine Evt.B5 (Evt.scan (fun a _=>∀c,c<a→¬Wrong h.types c b) (fun a (r:Ctl w9 Unit Unit)=>r= .ret ⟨16,(b:Int)⟩∧Wrong h.types a b) (fun c hc=>absurd hc (Nat.not_lt_zero _)) (fun a s ha hj=>?_)) (fun t ht=>?_) (fun r hr=>?_)
     ·unfold fC
      refine Evt.bind (CS ht VU (by omega) hb) fun v hv=>?_
      refine Evt.cond (fun e4=>?_) (fun e4=>Evt.pure fun c hc hw=>?_)
      ·exact Evt.bind (L2 _ _) fun f hf=>by subst hf;exact Evt.pure ⟨rfl,hv.1 e4⟩
      ·by_cases ec:c=a
       ·subst ec;rw[hv.2 hw]at e4;cases e4
       ·exact hj c (by omega) hw
     ·unfold fD
      refine Evt.pure fun c hc a ha=>?_
      by_cases ec:c=b
      ·subst ec;exact ht a ha
      ·exact hi c (by omega) a ha
     ·obtain⟨k,s,hk,_,rfl,hw⟩:=hr
      exact⟨rfl,k,hk,hw⟩
    ·rcases hu with⟨rfl,_⟩|⟨b,rfl,hb,⟨a,ha,hw⟩,_⟩
     ·exact Ev2.zx (fun e=>by cases e) (fun _=>Ju (by assumption) h40)
     ·exact absurd hw (ht b hb a ha)
    ·obtain⟨k,s,hk,hi,rfl,a,ha,hw⟩:=hr
     rcases hu with⟨rfl,hno⟩|⟨b,rfl,hb,⟨a',ha',hw'⟩,hmin⟩
     ·exact absurd hw (hno k hk a ha)
     ·have:k=b:=by
       rcases Nat.lt_trichotomy k b with h|h|h
       ·exact absurd hw (hmin k h a ha)
       ·exact h
       ·exact absurd hw' (hi b h a' ha')
      subst this
      refine Evt.cond (fun _=>Evt.pure (Z7 (by decide))) (fun e=>?_)
      replace e:=bx e
      omega
def lk(g:B3)(k j:Nat):G5:=Am.get (Am.get g.nodes k).links j
structure Jv(h:y6)(g:B3)(k j:Nat):Prop where
 kV:0≤(lk g k j).kV∧(lk g k j).kV<h.C1.length
 to_:0≤(lk g k j).to_∧(lk g k j).to_<g.nodes.length
 asc:∀i,i<j→(lk g k i).kV<(lk g k j).kV
structure dW(h:y6)(g:B3):Prop where
 some:0<g.nodes.length
 few:g.nodes.length≤60
 type:∀k,k<g.nodes.length→0≤(Am.get g.nodes k).type∧(Am.get g.nodes k).type<h.types.length
 link:∀k,k<g.nodes.length→∀j,j<(Am.get g.nodes k).links.length→Jv h g k j
theorem zA{h:y6}{g:B3}(hlen:∀k,k<g.nodes.length→(Am.get g.nodes k).links.length≤9223372036854775807):Ev2 (fun _=>pQ h g) (fun _=>W1 h g) (ud (dW h g)):=by
 unfold pQ W1
 refine Ev2.cond rfl (fun _=>Ev2.jw (iU _ _) fun f hf=>by subst hf;exact Ev2.pure (Z7 (by decide))) (fun e=>?_)
 replace e:=bx e
 refine Ev2.B5 (Ev2.range (fun k _ _=>(∀i,i<k→0≤(Am.get g.nodes i).type∧(Am.get g.nodes i).type<h.types.length)∧∀i,i<k→∀j,j<(Am.get g.nodes i).links.length→Jv h g i j) (fun _ _=>False) (ud (dW h g)) ⟨fun i hi=>absurd hi (Nat.not_lt_zero _),fun i hi=>absurd hi (Nat.not_lt_zero _)⟩ (fun k s t hk hi=>?_))
  (fun t u ht=>Ev2.pure ⟨rfl,fun _=>⟨by omega,by omega,(ht.elim id False.elim).1,(ht.elim id False.elim).2⟩⟩) (fun r r' hr=>hr)
 unfold mU Y5
 refine Ev2.cond rfl (fun _=>Ev2.jw (iU _ _) fun f hf=>by subst hf;exact Ev2.pure (Z7 (by decide))) (fun e2=>?_)
 replace e2:=bx e2
 refine Ev2.B5 (Ev2.range (fun m s _=>(∀j,j<m→Jv h g k j)∧(m=0→s= -1)∧(0<m→s=(lk g k (m-1)).kV)) (fun _ _=>False) (fun a b=>∃x y,a= .ret x∧b= .ret y∧ud (dW h g) x y) ⟨fun i hi=>absurd hi (Nat.not_lt_zero _),fun _=>rfl,fun h=>absurd h (Nat.not_lt_zero _)⟩ (fun m s t hm hj=>?_)) (fun t u ht=>?_) (fun r r' hr=>?_)
 ·obtain⟨hj1,hj2,hj3⟩:=hj
  have hl:=hlen k hk
  unfold mV Y6
  refine Ev2.cond rfl (fun _=>Ev2.jw (iU _ _) fun f hf=>by subst hf;exact Ev2.pure ⟨_,_,rfl,rfl,Z7 (by decide)⟩) (fun e3=>?_)
  replace e3:=bx e3
  have hw:0<m→wr .i64 ((m:Int)-1)=((m-1:Nat):Int):=fun h=>by
   rw[H9 (by omega) (by omega)];omega
  refine Ev2.MK ⟨N6 fun e=>?_,N6 fun e=>?_⟩ (Ev2.cond ?_ (fun _=>Ev2.jw (iU _ _) fun f hf=>by subst hf;exact Ev2.pure ⟨_,_,rfl,rfl,Z7 (by decide)⟩) (fun e4=>Ev2.pure ⟨fun j hj=>?_,fun h=>by omega,fun _=>rfl⟩))
  ·replace e:=bx e
   rw[hw (by omega)];omega
  ·replace e:=bx e
   rw[hw (by omega)];omega
  ·by_cases h0:m=0
   ·subst h0
    rw[hj2 rfl]
    simp only[Int.cast_ofNat_Int,Int.lt_irrefl,decide_false,cond_false,decide_eq_false_iff_not]
    omega
   ·rw[hw (by omega),hj3 (by omega),Int.toNat_natCast]
    have:decide (0<(m:Int))=true:=decide_eq_true (by omega)
    rw[this];rfl
  ·replace e4:=bx e4
   by_cases ej:j=m
   ·subst ej
    refine⟨by unfold lk;omega,by unfold lk;omega,fun i hi=>?_⟩
    have h1:=hj3 (by omega)
    have h2:(lk g k (j-1)).kV<(lk g k j).kV:=by rw[←h1];exact e4
    by_cases ei:i=j-1
    ·rw[ei];exact h2
    ·have:=(hj1 (j-1) (by omega)).asc i (by omega)
     omega
   ·exact hj1 j (by omega)
 ·obtain⟨h1,_⟩:=ht.elim id False.elim
  unfold mW Y7
  refine Ev2.pure ⟨fun i hi2=>?_,fun i hi2=>?_⟩
  ·by_cases ei:i=k
   ·subst ei;omega
   ·exact hi.1 i (by omega)
  ·by_cases ei:i=k
   ·subst ei;exact h1
   ·exact hi.2 i (by omega)
 ·obtain⟨x,y,rfl,rfl,h⟩:=hr
  exact h
inductive Rch(g:B3):Nat→Prop
 |zero:Rch g 0
 |step {a j:Nat} (h:Rch g a) (hj:j<(Am.get g.nodes a).links.length):Rch g (lk g a j).to_.toNat
open Classical in
noncomputable def Ol(g:B3):List Bool:=(List.range g.nodes.length).map fun i=>decide (Rch g i)
theorem Jw{g:B3}{m:List Bool}(h1:m.length=g.nodes.length)(h2:∀j,Am.get m j=true→Rch g j)(h0:Am.get m 0=true)(h3:∀j,Am.get m j=true→∀i,i<(Am.get g.nodes j).links.length→Am.get m (lk g j i).to_.toNat=true):m=Ol g:=by
 have key:∀j,Rch g j→Am.get m j=true:=fun j hj=>by
  induction hj with
  |zero=>exact h0
  |step _ hj ih=>exact h3 _ ih _ hj
 apply List.ext_getElem?
 intro i
 unfold Ol
 by_cases hi:i<g.nodes.length
 ·have e:m[i]? =some (Am.get m i):=by
   unfold Am.get
   rw[List.getD_eq_getElem?_getD,List.getElem?_eq_getElem (by omega)];rfl
  rw[e,List.getElem?_map,List.getElem?_range hi]
  refine congrArg some ?_
  by_cases hr:Rch g i
  ·rw[key i hr];simp[hr]
  ·have:Am.get m i=false:=by
    cases h:Am.get m i with
    |false=>rfl
    |true=>exact absurd (h2 i h) hr
   rw[this];simp[hr]
 ·rw[List.getElem?_eq_none (by omega),List.getElem?_eq_none (by simp;omega)]
theorem count_set:∀(l:List Bool) (i:Nat),i<l.length→Am.get l i=false→(l.set i true).count false+1=l.count false
 | [],i,h,_=>absurd h (Nat.not_lt_zero _)
 |b::l,0,_,e=>by
  have e:b=false:=e
  subst e
  simp
 |b::l,i+1,h,e=>by
  have ih:=count_set l i (by simpa using h) e
  simp only[List.set_cons_succ,List.count_cons]
  omega
theorem uh{α:Type}[Inhabited α]{l m:List α}{i:Nat}(h:i<l.length):Am.get (l++m) i=Am.get l i:=by
 unfold Am.get
 rw[List.getD_eq_getElem?_getD,List.getD_eq_getElem?_getD,List.getElem?_append_left h]
theorem qw{α:Type}[Inhabited α]{l:List α}{x:α}:Am.get (l++[x]) l.length=x:=by
 unfold Am.get
 rw[List.getD_eq_getElem?_getD,List.getElem?_append_right (Nat.le_refl _)]
 simp
structure Search(g:B3)(s:List Bool×List Int×Nat):Prop where
 seen:s.1.length=g.nodes.length
 ln:s.2.2≤s.2.1.length
 stack:∀i,i<s.2.2→0≤Am.get s.2.1 i∧Am.get s.2.1 i<g.nodes.length∧Am.get s.1 (Am.get s.2.1 i).toNat=true
 few:s.2.2+s.1.count false≤g.nodes.length
 rch:∀j,Am.get s.1 j=true→Rch g j
 zero:Am.get s.1 0=true
def Done(g:B3)(m:List Bool)(j:Nat):Prop:=∀i,i<(Am.get g.nodes j).links.length→Am.get m (lk g j i).to_.toNat=true
theorem Done.set{g:B3}{m:List Bool}{j x:Nat}(h:Done g m j):Done g (m.set x true) j:=fun i hi=>by
 rw[bG];split
 ·rfl
 ·exact h i hi
theorem LG(l:List Bool)(b:Bool):Evt (fun _=>P6 l b) (fun _=>True):=by
 unfold P6
 refine Evt.B5 (Evt.range (fun _ _=>True) (fun _=>True) (fun _=>True) trivial (fun k s _ _=>?_)) (fun t _=>Evt.pure trivial) (fun _ _=>trivial)
 unfold dH
 exact Evt.cond (fun _=>Evt.pure trivial) (fun _=>Evt.pure trivial)
theorem Al(l:List Bool)(b:Bool):∃r,P6 l b=some r:=by
 obtain⟨r,_,N,hN⟩:=LG l b
 exact⟨r,hN N (Nat.le_refl _)⟩
theorem vH{h:y6}{g:B3}(hg:dW h g):Evt (fun n=>gH n g) (fun r=>P6 (Ol g) false=some r):=by
 have h60:=hg.few
 have h1:=hg.some
 unfold gH
 refine Evt.chk (by rw[bO];omega) (Evt.chk (by omega) (Evt.eE ?_))
 refine Evt.B5 (Evt.loop (fun s:List Bool×List Int×Nat=>2*s.1.count false+s.2.2) (fun s=>Search g s∧∀j,Am.get s.1 j=true→(∃i,i<s.2.2∧(Am.get s.2.1 i).toNat=j)∨Done g s.1 j) (fun m=>m=Ol g) (fun _=>False) ?_ (fun s hs=>?_)) (fun t ht=>?_) (fun _ hr=>hr.elim)
 ·have hz:Am.get ((List.replicate g.nodes.length (default:Bool)).set 0 true) 0=true:=by
   rw[bG,if_pos ⟨rfl,by simp;omega⟩]
  have Hz:∀j,Am.get ((List.replicate g.nodes.length (default:Bool)).set 0 true) j=true→j=0:=fun j hj=>by
   rw[bG,vF]at hj
   split at hj
   ·rename_i e;exact e.1.symm
   ·cases hj
  refine⟨⟨by simp,by simp,fun i hi=>?_,?_,fun j hj=>?_,hz⟩,fun j hj=>?_⟩
  ·have:i=0:=by
    have:i<1:=hi
    omega
   subst this
   show(0:Int)≤0∧(0:Int)<_∧_
   exact⟨by omega,by omega,hz⟩
  ·have e:=count_set (List.replicate g.nodes.length (default:Bool)) 0 (by simp;exact h1) (vF _ _)
   have e2:(List.replicate g.nodes.length (default:Bool)).count false≤g.nodes.length:=by
    have:=List.count_le_length (a:=false) (l:=List.replicate g.nodes.length (default:Bool))
    rwa[List.length_replicate]at this
   show 1+((List.replicate g.nodes.length (default:Bool)).set 0 true).count false≤_
   omega
  ·rw[Hz j hj];exact .zero
  ·rw[Hz j hj];exact .inl ⟨0,Nat.lt_succ_self 0,rfl⟩
 ·obtain⟨⟨hs1,hs2,hs3,hs4,hs5,hs6⟩,hs7⟩:=hs
  unfold iZ
  refine Evt.cond (fun hc=>?_) (fun hc=>Evt.pure ?_)
  ·replace hc:=bx hc
   have hw:wr .i64 ((s.2.2:Int)-1)=((s.2.2-1:Nat):Int):=by
    rw[H9 (by omega) (by omega)]
    omega
   have h3:=hs3 (s.2.2-1) (by omega)
   refine Evt.chk hs2 (Evt.chk (by rw[hw];omega) (Evt.chk (by rw[hw,Int.toNat_natCast];omega) (Evt.chk (by rw[hw,Int.toNat_natCast];exact⟨h3.1,h3.2.1⟩) ?_)))
   refine Evt.B5 (Evt.range (fun m u=>Search g u∧(∀j,Am.get u.1 j=true→j=(Am.get s.2.1 (s.2.2-1)).toNat∨(∃i,i<u.2.2∧(Am.get u.2.1 i).toNat=j)∨Done g u.1 j)∧(∀i,i<m→Am.get u.1 (lk g (Am.get s.2.1 (s.2.2-1)).toNat i).to_.toNat=true)∧2*u.1.count false+u.2.2<2*s.1.count false+s.2.2) (fun _=>False) (fun _=>False) ⟨⟨hs1,?_,?_,?_,hs5,hs6⟩,?_,fun i hi=>absurd hi (Nat.not_lt_zero _),?_⟩ (fun m u hm hu=>?_)) (fun u hu=>?_) (fun r hr=>hr.elim)
   ·rw[hw,Int.toNat_natCast];show s.2.2-1≤s.2.1.length;omega
   ·rw[hw,Int.toNat_natCast];intro i hi;exact hs3 i (by have:i<s.2.2-1:=hi;omega)
   ·rw[hw,Int.toNat_natCast];show s.2.2-1+s.1.count false≤_;omega
   ·rw[hw,Int.toNat_natCast]
    intro j hj
    rcases hs7 j hj with⟨i,hi,e⟩|h
    ·by_cases ei:i=s.2.2-1
     ·subst ei;exact .inl e.symm
     ·exact .inr (.inl ⟨i,by show i<s.2.2-1;omega,e⟩)
    ·exact .inr (.inr h)
   ·rw[hw,Int.toNat_natCast];show 2*s.1.count false+(s.2.2-1)<2*s.1.count false+s.2.2;omega
   ·obtain⟨⟨u1,u2,u3,u4,u6,u7⟩,u8,u9,u5⟩:=hu
    unfold jc
    rw[hw,Int.toNat_natCast]at hm⊢
    have hlt:(Am.get s.2.1 (s.2.2-1)).toNat<g.nodes.length:=by omega
    have ht:=(hg.link _ hlt m hm).to_
    have Sy:Rch g (lk g (Am.get s.2.1 (s.2.2-1)).toNat m).to_.toNat:=.step (hs5 _ h3.2.2) hm
    have hx:Am.get (Am.get g.nodes (Am.get s.2.1 (s.2.2-1)).toNat).links m=lk g (Am.get s.2.1 (s.2.2-1)).toNat m:=rfl
    rw[hx]
    generalize hxe:(lk g (Am.get s.2.1 (s.2.2-1)).toNat m).to_=x at ht Sy⊢
    refine Evt.chk (by omega) (Evt.cond (fun e=>?_) (fun e=>Evt.pure ⟨⟨u1,u2,u3,u4,u6,u7⟩,u8,fun i hi=>?_,u5⟩))
    ·replace e:=bx e
     have DA:=count_set u.1 x.toNat (by omega) e
     have hcl:((u.2.1.take u.2.2)++[x]).length=u.2.2+1:=by simp;omega
     have hnew:Am.get (u.2.1.take u.2.2++[x]) u.2.2=x:=by
      have:=qw (l:=u.2.1.take u.2.2) (x:=x)
      rwa[show(u.2.1.take u.2.2).length=u.2.2 by simp;omega]at this
     have hold:∀i,i<u.2.2→Am.get (u.2.1.take u.2.2++[x]) i=Am.get u.2.1 i:=fun i hi=>by
      rw[uh (by simp;omega),oL hi]
     have hin:Am.get (u.1.set x.toNat true) x.toNat=true:=by rw[bG,if_pos ⟨rfl,by omega⟩]
     have Om:∀j,Am.get u.1 j=true→Am.get (u.1.set x.toNat true) j=true:=fun j hj=>by
      rw[bG];split
      ·rfl
      ·exact hj
     refine Evt.eE (Evt.chk u2 (Evt.eE (Evt.chk (by rw[hcl,bO];omega) (Evt.pure ⟨⟨by simp;exact u1,Nat.le_refl _,?_,?_,fun j hj=>?_,Om _ u7⟩,fun j hj=>?_,fun i hi=>?_,?_⟩))))
     ·intro i hi
      rw[hcl]at hi
      have hi:i<u.2.2+1:=hi
      by_cases ei:i=u.2.2
      ·subst ei
       show 0≤Am.get (u.2.1.take u.2.2++[x]) u.2.2∧Am.get (u.2.1.take u.2.2++[x]) u.2.2<_∧Am.get (u.1.set x.toNat true) (Am.get (u.2.1.take u.2.2++[x]) u.2.2).toNat=true
       rw[hnew];exact⟨ht.1,ht.2,hin⟩
      ·show 0≤Am.get (u.2.1.take u.2.2++[x]) i∧Am.get (u.2.1.take u.2.2++[x]) i<_∧Am.get (u.1.set x.toNat true) (Am.get (u.2.1.take u.2.2++[x]) i).toNat=true
       rw[hold i (by omega)]
       have:=u3 i (by omega)
       exact⟨this.1,this.2.1,Om _ this.2.2⟩
     ·show((u.2.1.take u.2.2)++[x]).length+_≤_
      rw[hcl];show _+(u.1.set x.toNat true).count false≤_;omega
     ·have hj:Am.get (u.1.set x.toNat true) j=true:=hj
      rw[bG]at hj
      split at hj
      ·rename_i e;rw[←e.1];exact Sy
      ·exact u6 j hj
     ·have hj:Am.get (u.1.set x.toNat true) j=true:=hj
      show _∨(∃i,i<((u.2.1.take u.2.2)++[x]).length∧(Am.get (u.2.1.take u.2.2++[x]) i).toNat=j)∨Done g (u.1.set x.toNat true) j
      rw[bG]at hj
      split at hj
      ·rename_i e;exact .inr (.inl ⟨u.2.2,by rw[hcl];omega,by rw[hnew];exact e.1⟩)
      ·rcases u8 j hj with h|⟨i,hi,e⟩|h
       ·exact .inl h
       ·exact .inr (.inl ⟨i,by rw[hcl];omega,by rw[hold i hi];exact e⟩)
       ·exact .inr (.inr h.set)
     ·show Am.get (u.1.set x.toNat true) _=true
      by_cases ei:i=m
      ·subst ei;rw[hxe];exact hin
      ·exact Om _ (u9 i (by omega))
     ·show 2*(u.1.set x.toNat true).count false+((u.2.1.take u.2.2)++[x]).length<_
      rw[hcl];omega
    ·replace e:=bx e
     by_cases ei:i=m
     ·subst ei;rw[hxe];exact e
     ·exact u9 i (by omega)
   ·obtain⟨v1,v2,v3,v4⟩:=hu.elim id False.elim
    rw[hw,Int.toNat_natCast]at v3
    unfold jd
    refine Evt.pure ⟨⟨v1,fun j hj=>?_⟩,v4⟩
    rcases v2 j hj with rfl|h|h
    ·exact .inr fun i hi=>v3 i hi
    ·exact .inl h
    ·exact .inr h
  ·replace hc:=bx hc
   refine Jw hs1 hs5 hs6 fun j hj=>?_
   rcases hs7 j hj with⟨i,hi,_⟩|h
   ·omega
   ·exact h
 ·subst ht
  unfold je
  obtain⟨r,hr⟩:=Al (Ol g) false
  rw[hr]
  exact Evt.pure rfl
theorem LH{m:List Bool}{x:Nat}(h:Am.get m x=true):m.set x true=m:=by
 apply List.ext_getElem?
 intro i
 rw[List.getElem?_set]
 split
 ·rename_i e
  subst e
  unfold Am.get at h
  rw[List.getD_eq_getElem?_getD]at h
  split
  ·rename_i hx
   rw[List.getElem?_eq_getElem hx]at h⊢
   exact congrArg some h.symm
  ·rename_i hx
   rw[List.getElem?_eq_none (by omega)]
 ·rfl
structure Mark(g:B3)(m:List Bool):Prop where
 seen:m.length=g.nodes.length
 rch:∀j,Am.get m j=true→Rch g j
 zero:Am.get m 0=true
def Closed(g:B3)(m:List Bool):Prop:=∀j,Am.get m j=true→Done g m j
structure Round(g:B3)(m u:List Bool):Prop where
 mark:Mark g u
 sub:∀j,Am.get m j=true→Am.get u j=true
 more:u=m∨(u.count false<m.count false∧¬Closed g m)
theorem Round.set{h:y6}{g:B3}(hg:dW h g){m u:List Bool}{k j:Nat}(hr:Round g m u)(hk:k<g.nodes.length)(hj:j<(Am.get g.nodes k).links.length)(hu:Am.get u k=true):Round g m (u.set (lk g k j).to_.toNat true):=by
 have ht:=(hg.link k hk j hj).to_
 obtain⟨⟨h1,h2,h3⟩,h4,h5⟩:=hr
 have Sy:Rch g (lk g k j).to_.toNat:=.step (h2 k hu) hj
 refine⟨⟨by simp;exact h1,fun i hi=>?_,?_⟩,fun i hi=>?_,?_⟩
 ·rw[bG]at hi
  split at hi
  ·rename_i e;rw[←e.1];exact Sy
  ·exact h2 i hi
 ·rw[bG];split
  ·rfl
  ·exact h3
 ·rw[bG];split
  ·rfl
  ·exact h4 i hi
 ·cases hx:Am.get u (lk g k j).to_.toNat with
  |true=>rw[LH hx];exact h5
  |false=>
   have hc:=count_set u _ (by omega) hx
   rcases h5 with rfl|⟨h5,h6⟩
   ·exact .inr ⟨by omega,fun hcl=>by rw[hcl k hu j hj]at hx;cases hx⟩
   ·exact .inr ⟨by omega,h6⟩
theorem wF{h:y6}{g:B3}(hg:dW h g):Evt (fun _=>S2 g) (fun r=>P6 (Ol g) false=some r):=by
 have h60:=hg.few
 have h1:=hg.some
 unfold S2
 refine Evt.chk (by rw[bO];omega) (Evt.chk (by omega) (Evt.eE (Evt.chk (by omega) ?_)))
 refine Evt.B5 (Evt.range (fun k m=>Mark g m∧(Closed g m∨m.count false+k+1≤g.nodes.length)) (fun _=>False) (fun _=>False) ⟨⟨by simp,fun j hj=>?_,?_⟩,.inr ?_⟩ (fun k m hk hm=>?_)) (fun t ht=>?_) (fun _ hr=>hr.elim)
 ·rw[bG,vF]at hj
  split at hj
  ·rename_i e;rw[←e.1];exact .zero
  ·cases hj
 ·rw[bG,if_pos ⟨rfl,by simp;omega⟩]
 ·have e:=count_set (List.replicate g.nodes.length (default:Bool)) 0 (by simp;exact h1) (vF _ _)
  have e2:(List.replicate g.nodes.length (default:Bool)).count false≤g.nodes.length:=by
   have:=List.count_le_length (a:=false) (l:=List.replicate g.nodes.length (default:Bool))
   rwa[List.length_replicate]at this
  omega
 ·unfold Z9
  refine Evt.B5 (Evt.range (fun j u=>Round g m u∧∀i,i<j→Am.get m i=true→Done g u i) (fun _=>False) (fun _=>False) ⟨⟨hm.1,fun _ h=>h,.inl rfl⟩,fun i hi=>absurd hi (Nat.not_lt_zero _)⟩ (fun j u hj hu=>?_)) (fun u hu=>?_) (fun _ hr=>hr.elim)
  ·unfold ah
   refine Evt.B5 (Evt.range (fun q v=>Round g m v∧(∀i,i<j→Am.get m i=true→Done g v i)∧(Am.get m j=true→∀i,i<q→Am.get v (lk g j i).to_.toNat=true)) (fun _=>False) (fun _=>False) ⟨hu.1,hu.2,fun _ i hi=>absurd hi (Nat.not_lt_zero _)⟩ (fun q v hq hv=>?_)) (fun v hv=>?_) (fun _ hr=>hr.elim)
   ·obtain⟨hv1,hv2,hv3⟩:=hv
    have hlen:=hv1.mark.seen
    unfold aj
    have ht:=(hg.link j hj q hq).to_
    refine Evt.chk (by omega) (Evt.cond (fun e=>?_) (fun e=>Evt.pure ⟨hv1,hv2,fun hmj=>?_⟩))
    ·refine Evt.chk (by rw[hlen];exact ht) (Evt.eE (Evt.pure ⟨hv1.set hg hj hq e,fun i hi hmi=>(hv2 i hi hmi).set,fun hmj i hi=>?_⟩))
     show Am.get (v.set (lk g j q).to_.toNat true) _=true
     rw[bG]
     split
     ·rfl
     ·rename_i hne
      by_cases ei:i=q
      ·subst ei
       exact absurd ⟨rfl,by omega⟩ hne
      ·exact hv3 hmj i (by omega)
    ·rw[hv1.sub j hmj]at e;cases e
   ·obtain⟨hv1,hv2,hv3⟩:=hv.elim id False.elim
    unfold ak
    refine Evt.pure ⟨hv1,fun i hi hmi=>?_⟩
    by_cases ei:i=j
    ·subst ei;exact hv3 hmi
    ·exact hv2 i (by omega) hmi
  ·obtain⟨hu1,hu2⟩:=hu.elim id False.elim
   unfold aq
   refine Evt.pure ⟨hu1.mark,?_⟩
   rcases hu1.more with rfl|⟨h5,h6⟩
   ·refine .inl fun j hj=>hu2 j ?_ hj
    rcases Nat.lt_or_ge j g.nodes.length with h|h
    ·exact h
    ·unfold Am.get at hj
     rw[List.getD_eq_getElem?_getD,List.getElem?_eq_none (by have:=hu1.mark.seen;omega)]at hj
     cases hj
   ·rcases hm.2 with h|h
    ·exact absurd h h6
    ·exact .inr (by omega)
 ·obtain⟨hm,hc⟩:=ht.elim id False.elim
  have hc:Closed g t:=by
   rcases hc with h|h
   ·exact h
   ·omega
  have:=Jw hm.seen hm.rch hm.zero hc
  subst this
  unfold au
  obtain⟨r,hr⟩:=Al (Ol g) false
  rw[hr]
  exact Evt.pure rfl
theorem BA{h:y6}{g:B3}(hg:dW h g):Ev2 (fun n=>gH n g) (fun _=>S2 g) (fun a b=>a=b):=
 (Ev2.both (vH hg) (wF hg)).mono fun _ _ ⟨h1,h2⟩=>Option.some.inj (h1.symm.trans h2)
theorem nL{h:y6}(hh:yB h){t:B2}(ht:EA h.types t){g:B3}(hlen:∀k,k<g.nodes.length→(Am.get g.nodes k).links.length≤9223372036854775807):Ev2 (fun n=>jP n h t g) (fun n=>L1 n h g) (ud (dW h g)):=by
 unfold jP L1
 refine Ev2.bind (zA hlen) fun f f' hf=>?_
 obtain⟨rfl,hf⟩:=hf
 refine Ev2.cond rfl (fun e=>?_) (fun e=>?_)
 ·replace e:=bx e
  exact Ev2.pure ⟨rfl,fun h=>absurd h e⟩
 ·replace e:=bx e
  have hg:=hf e
  refine Ev2.B5 (Ev2.range (fun _ _ _=>True) (fun _ _=>False) (ud (dW h g)) trivial (fun k s t hk _=>?_)) (fun s t _=>?_) (fun r r' hr=>hr)
  ·unfold lI W7
   refine Ev2.B5 (Ev2.range (fun _ _ _=>True) (fun _ _=>False) (fun a b=>∃x y,a= .ret x∧b= .ret y∧ud (dW h g) x y) trivial (fun j s t hj _=>?_)) (fun s t _=>?_) (fun r r' hr=>?_)
   ·have hl:=hg.link k hk j hj
    have hk1:=hg.type k hk
    have hf1:=hh.C1 (lk g k j).kV.toNat (by have:=hl.kV;omega)
    have hn1:=hg.type (lk g k j).to_.toNat (by have:=hl.to_;omega)
    unfold lJ W8
    refine Ev2.Rl hl.kV (Ev2.MK hl.kV (Ev2.jw (yx hh.types ht hk1 hf1.1) fun v hv=>Ev2.Ey (vG hh.types hk1 hf1.1) fun w hw=>?_))
    subst hv hw
    refine Ev2.Rl ⟨N6 fun _=>hl.to_.1,N6 fun _=>hl.to_.2⟩ (Ev2.MK ⟨N6 fun _=>hl.to_.1,N6 fun _=>hl.to_.2⟩ ?_)
    refine Ev2.bind (P:=fun a b=>a=b) ?_ fun a b hab=>?_
    ·generalize (!!Jt h.types (Am.get g.nodes k).type (Am.get h.C1 (Am.get (Am.get g.nodes k).links j).kV.toNat).of_)=G
     cases G with
     |false=>exact Ev2.pure rfl
     |true=>exact(Ev2.both (yx hh.types ht hn1 hf1.2) (vG hh.types hn1 hf1.2)).mono fun _ _ ⟨h1,h2⟩=>h1.trans h2.symm
    ·subst hab
     exact Ev2.cond rfl (fun _=>Ev2.jw (iU _ _) fun f hf=>by subst hf;exact Ev2.pure ⟨_,_,rfl,rfl,Z7 (by decide)⟩) (fun _=>Ev2.pure trivial)
   ·unfold lK W9
    exact Ev2.pure trivial
   ·obtain⟨x,y,rfl,rfl,h⟩:=hr
    exact h
  ·unfold lM X0
   refine Ev2.bind (BA hg) fun a b hab=>?_
   subst hab
   exact Ev2.cond rfl (fun _=>Ev2.jw (iU _ _) fun f hf=>by subst hf;exact Ev2.pure (Z7 (by decide))) (fun _=>Ev2.pure ⟨rfl,fun _=>hg⟩)
theorem uj(a b:Int):Evt (fun _=>T7 a b) (fun r=>r=if a<b then -1 else if b<a then 1 else 0):=by
 unfold T7
 refine Evt.bind (P:=fun x=>x=false) (Evt.pure rfl) fun u hu=>Evt.bind (P:=fun x=>x=false) (Evt.pure rfl) fun v hv=>?_
 subst hu hv
 refine Evt.cond (fun h=>by cases h) (fun _=>Evt.cond (fun h=>by cases h) (fun _=>Evt.cond (fun e=>Evt.pure ?_) (fun e=>Evt.cond (fun e2=>Evt.pure ?_) (fun e2=>Evt.pure ?_))))
 ·replace e:=bx e
  rw[if_pos e]
 ·replace e:=bx e;replace e2:=bx e2
  rw[if_neg (by omega),if_pos e2]
 ·replace e:=bx e;replace e2:=bx e2
  rw[if_neg (by omega),if_neg (by omega)]
theorem Ao(a:G5)(b:Int):Evt (fun _=>kj a b) (fun r=>r=if a.kV<b then -1 else if b<a.kV then 1 else 0):=by
 unfold kj
 refine Evt.bind (uj _ _) fun v hv=>Evt.pure hv
theorem half{i j:Int}(h0:0≤i)(h1:i<j)(h2:j≤4611686018427387904):wr .i64 (Int.fdiv (wr .u64 (wr .i64 (i+j))) (2^(min 1 64)))=(i+j) / 2:=by
 have e1:wr .i64 (i+j)=i+j:=H9 (by omega) (by omega)
 have e2:wr .u64 (i+j)=i+j:=by
  obtain⟨n,hn⟩:∃n:Nat,i+j=n:=⟨(i+j).toNat,by omega⟩
  rw[hn]
  exact kL (by omega)
 have e3:((2:Int)^(min 1 64))=2:=by decide
 rw[e1,e2,e3,Int.fdiv_eq_ediv_of_nonneg _ (by decide),H9 (by omega) (by omega)]
def Asc(l:List G5):Prop:=∀j,j<l.length→∀i,i<j→(Am.get l i).kV<(Am.get l j).kV
theorem Asc.lt{l:List G5}(h:Asc l){i j:Nat}(hj:j<l.length)(e:(Am.get l i).kV<(Am.get l j).kV)(hi:i<l.length):i<j:=by
 rcases Nat.lt_trichotomy i j with h1|h1|h1
 ·exact h1
 ·subst h1;omega
 ·have:=h i hi j h1;omega
theorem yC{l:List G5}(hl:l.length≤1000)(ha:Asc l)(a:Int):Evt (fun n=>I0 n l a) (fun r=>(r.2=true∧0≤r.1∧r.1<l.length∧(Am.get l r.1.toNat).kV=a)∨(r.2=false∧∀j,j<l.length→(Am.get l j).kV≠a)):=by
 unfold I0
 refine Evt.B5 (P:=ExP (fun t:Int=>0≤t∧t≤l.length∧(∀j:Nat,(j:Int)<t→(Am.get l j).kV<a)∧(∀j:Nat,t≤(j:Int)→j<l.length→a≤(Am.get l j).kV)) (fun _:Int×Bool=>False)) (Evt.loop (fun s:Int×Int=>(s.1-s.2).toNat) (fun s=>(0≤s.2∧s.2≤s.1∧s.1≤l.length)∧(∀j:Nat,(j:Int)<s.2→(Am.get l j).kV<a)∧(∀j:Nat,s.1≤(j:Int)→j<l.length→a≤(Am.get l j).kV)) _ _ ⟨⟨?_,?_,?_⟩,fun j hj=>?_,fun j hj hj2=>?_⟩ (fun s hs=>?_)) (fun t ht=>?_) (fun r hr=>hr.elim)
 ·show(0:Int)≤0;omega
 ·show(0:Int)≤(l.length:Int);omega
 ·show(l.length:Int)≤(l.length:Int);omega
 ·have:(j:Int)<0:=hj
  omega
 ·have:(l.length:Int)≤j:=hj
  omega
 ·obtain⟨hs,hlo,hhi⟩:=hs
  unfold J5
  refine Evt.cond (fun e=>?_) (fun e=>Evt.pure ?_)
  ·replace e:=bx e
   rw[half (by omega) e (by omega)]
   have hw:wr .i64 ((s.2+s.1) / 2+1)=(s.2+s.1) / 2+1:=H9 (by omega) (by omega)
   refine Evt.chk (by omega) (Evt.bind (Ao _ _) fun v hv=>Evt.cond (fun e2=>Evt.pure ?_) (fun e2=>Evt.pure ?_))
   ·replace e2:=bx e2
    have hm:(Am.get l ((s.2+s.1) / 2).toNat).kV<a:=by
     rw[hv]at e2
     split at e2
     ·assumption
     ·split at e2<;>omega
    rw[hw]
    refine⟨⟨⟨by show(0:Int)≤_;omega,by show _≤s.1;omega,hs.2.2⟩,fun j hj=>?_,hhi⟩,by show(s.1-((s.2+s.1) / 2+1)).toNat<_;omega⟩
    have hj:(j:Int)<(s.2+s.1) / 2+1:=hj
    by_cases ej:j=((s.2+s.1) / 2).toNat
    ·rw[ej];exact hm
    ·have:=ha ((s.2+s.1) / 2).toNat (by omega) j (by omega)
     omega
   ·replace e2:=bx e2
    have hm:a≤(Am.get l ((s.2+s.1) / 2).toNat).kV:=by
     rw[hv]at e2
     split at e2
     ·omega
     ·omega
    refine⟨⟨⟨hs.1,by show s.2≤(s.2+s.1) / 2;omega,by show(s.2+s.1) / 2≤_;omega⟩,hlo,fun j hj hj2=>?_⟩,by show((s.2+s.1) / 2-s.2).toNat<_;omega⟩
    have hj:(s.2+s.1) / 2≤(j:Int):=hj
    by_cases ej:j=((s.2+s.1) / 2).toNat
    ·rw[ej];exact hm
    ·have:=ha j hj2 ((s.2+s.1) / 2).toNat (by omega)
     omega
  ·replace e:=bx e
   have:s.1=s.2:=by omega
   exact⟨hs.1,by omega,hlo,fun j hj=>hhi j (by omega)⟩
 ·obtain⟨h1,h2,h3,h4⟩:=ht
  unfold J6
  refine Evt.chk ⟨N6 fun _=>h1,N6 fun e=>by simpa using e⟩ (Evt.bind (P:=fun v=>decide (t<(l.length:Int))=true→v=if(Am.get l t.toNat).kV<a then -1 else if a<(Am.get l t.toNat).kV then 1 else 0) (Evt.gd (fun _=>(Ao _ _).mono fun r hr _=>hr) (fun e e2=>by rw[e]at e2;cases e2)) fun v hv=>Evt.pure ?_)
  by_cases ht:t<(l.length:Int)
  ·have hd:decide (t<(l.length:Int))=true:=decide_eq_true ht
   have hv:=hv hd
   have hge:=h4 t.toNat (by omega) (by omega)
   rw[if_neg (by omega)]at hv
   by_cases he:(Am.get l t.toNat).kV=a
   ·rw[if_neg (by omega)]at hv
    subst hv
    exact .inl ⟨by simp only[hd];rfl,h1,ht,he⟩
   ·rw[if_pos (by omega)]at hv
    subst hv
    refine .inr ⟨by simp only[hd];rfl,fun j hj e=>?_⟩
    by_cases hjt:(j:Int)<t
    ·have:=h3 j hjt;omega
    ·by_cases ej:j=t.toNat
     ·rw[ej]at e;exact he e
     ·have:=ha j hj t.toNat (by omega);omega
  ·have hd:decide (t<(l.length:Int))=false:=decide_eq_false ht
   refine .inr ⟨by simp only[hd];rfl,fun j hj e=>?_⟩
   have:=h3 j (by omega);omega
def yD(g:B3)(a:Nat)(f r:Int):Prop:=(∃j,j<(Am.get g.nodes a).links.length∧(lk g a j).kV=f∧r=(lk g a j).to_)∨(r= -1∧∀j,j<(Am.get g.nodes a).links.length→(lk g a j).kV≠f)
theorem dW.asc{h:y6}{g:B3}(hg:dW h g){a:Nat}(ha:a<g.nodes.length):Asc (Am.get g.nodes a).links:=fun j hj i hi=>(hg.link a ha j hj).asc i hi
theorem dW.len{h:y6}{g:B3}(hg:dW h g)(hh:h.C1.length≤40){a:Nat}(ha:a<g.nodes.length):(Am.get g.nodes a).links.length≤40:=by
 have key:∀j,j<(Am.get g.nodes a).links.length→(j:Int)≤(lk g a j).kV:=by
  intro j
  induction j with
  |zero=>intro hj;exact(hg.link a ha 0 hj).kV.1
  |succ j ih=>
   intro hj
   have:=(hg.link a ha (j+1) hj).asc j (by omega)
   have:=ih (by omega)
   omega
 rcases Nat.eq_zero_or_pos (Am.get g.nodes a).links.length with h0|h0
 ·omega
 ·have h1:=key ((Am.get g.nodes a).links.length-1) (by omega)
  have h2:=(hg.link a ha ((Am.get g.nodes a).links.length-1) (by omega)).kV
  omega
theorem yD.uniq{h:y6}{g:B3}(hg:dW h g){a:Nat}(ha:a<g.nodes.length){f r r':Int}(h1:yD g a f r)(h2:yD g a f r'):r=r':=by
 rcases h1 with⟨j,hj,e1,e2⟩|⟨e1,e2⟩
 ·rcases h2 with⟨i,hi,e3,e4⟩|⟨e3,e4⟩
  ·have:i=j:=by
    rcases Nat.lt_trichotomy i j with h|h|h
    ·have:=(hg.link a ha j hj).asc i h;omega
    ·exact h
    ·have:=(hg.link a ha i hi).asc j h;omega
   subst this
   exact e2.trans e4.symm
  ·exact absurd e1 (e4 j hj)
 ·rcases h2 with⟨i,hi,e3,e4⟩|⟨e3,e4⟩
  ·exact absurd e3 (e2 i hi)
  ·omega
theorem yD.lt{h:y6}{g:B3}(hg:dW h g){a:Nat}(ha:a<g.nodes.length){f r:Int}(h1:yD g a f r):r<g.nodes.length:=by
 rcases h1 with⟨j,hj,e1,e2⟩|⟨e1,e2⟩
 ·have:=(hg.link a ha j hj).to_;omega
 ·omega
theorem sH{h:y6}{g:B3}(hg:dW h g)(hh:h.C1.length≤40){a:Int}(ha:0≤a∧a<g.nodes.length)(f:Int):Evt (fun n=>nM n g a f) (yD g a.toNat f):=by
 have hlen:=hg.len hh (a:=a.toNat) (by omega)
 unfold nM
 refine Evt.chk ha (Evt.bind (yC (by omega) (hg.asc (by omega)) f) fun v hv=>?_)
 rcases hv with⟨e,h1,h2,h3⟩|⟨e,h1⟩
 ·rw[e]
  exact Evt.cond (fun h=>by cases h) (fun _=>Evt.chk ⟨h1,h2⟩ (Evt.pure (.inl ⟨v.1.toNat,by omega,h3,rfl⟩)))
 ·rw[e]
  exact Evt.cond (fun _=>Evt.pure (.inr ⟨rfl,h1⟩)) (fun h=>by cases h)
theorem BD{g:B3}{a:Int}(ha:0≤a∧a<g.nodes.length)(f:Int):Evt (fun _=>bH g a f) (yD g a.toNat f):=by
 unfold bH
 refine Evt.chk ha (Evt.B5 (Evt.scan (fun k _=>∀j,j<k→(lk g a.toNat j).kV≠f) (fun k (r:Int)=>(lk g a.toNat k).kV=f∧r=(lk g a.toNat k).to_) (fun j hj=>absurd hj (Nat.not_lt_zero _)) (fun k s hk hi=>?_)) (fun t ht=>?_) (fun r hr=>?_))
 ·unfold bP
  refine Evt.cond (fun e=>Evt.pure ?_) (fun e=>Evt.pure fun j hj=>?_)
  ·replace e:=bx e
   exact⟨e,rfl⟩
  ·replace e:=bx e
   by_cases ej:j=k
   ·subst ej;exact e
   ·exact hi j (by omega)
 ·unfold bQ
  exact Evt.pure (.inr ⟨rfl,ht⟩)
 ·obtain⟨k,s,hk,_,h1,h2⟩:=hr
  exact .inl ⟨k,hk,h1,h2⟩
theorem GX{h:y6}{g:B3}(hg:dW h g)(hh:h.C1.length≤40)(kids:Int){r:x6}(e1:r.graph=g)(e2:r.kids=kids):
 Ev2 (fun n=>fV n g kids) (fun _=>F2 (K0 r) 4 ()) (fun b e=>(b=true∧e= .nxt ())∨(b=false∧e= .ret 5)):=by
 subst e1 e2
 have h1:=hg.some
 have key:∀k:Nat,Ev2 (fun n=>bY n r.graph r.kids k ()) (fun _=>K0 r k ()) (fun a b=>(a= .nxt ()∧b= .nxt ())∨(a= .ret false∧b= .ret 5)):=by
  intro k
  unfold bY K0
  refine Ev2.bind ((Ev2.both (sH hg hh (a:=0) (by omega) k) (BD (g:=r.graph) (a:=0) (by omega) k)).mono fun a b h=>h.1.uniq hg (by simpa using h1) h.2) fun a b hab=>?_
  subst hab
  exact Ev2.cond rfl (fun _=>Ev2.pure (.inr ⟨rfl,rfl⟩)) (fun _=>Ev2.pure (.inl ⟨rfl,rfl⟩))
 unfold fV
 have hrun:=Ev2.range (b1:=fun n=>bY n r.graph r.kids) (b2:=fun _=>K0 r) (m:=4) (s0:=()) (t0:=()) (fun _ _ _=>True) (fun _ _=>False) (fun a b=>a=false∧b=5) trivial (fun k s t _ _=>(key k).mono fun a b hab=>by
  rcases hab with⟨rfl,rfl⟩|⟨rfl,rfl⟩
  ·exact trivial
  ·exact⟨rfl,rfl⟩)
 obtain⟨a,b,hab,N,hN⟩:=hrun
 cases a with
 |nxt u=>
  cases b with
  |nxt v=>exact⟨true,.nxt (),.inl ⟨rfl,rfl⟩,N,fun n hn=>⟨by simp only[(hN n hn).1,Am.B5,jG],(hN n hn).2⟩⟩
  |ret v=>exact hab.elim
 |ret u=>
  cases b with
  |nxt v=>exact hab.elim
  |ret v=>
   obtain⟨rfl,rfl⟩:=hab
   exact⟨false,.ret 5,.inr ⟨rfl,rfl⟩,N,fun n hn=>⟨by simp only[(hN n hn).1,Am.B5],(hN n hn).2⟩⟩
end Go.Proofs.YtfogbhjeihkliaaGreatDoor
