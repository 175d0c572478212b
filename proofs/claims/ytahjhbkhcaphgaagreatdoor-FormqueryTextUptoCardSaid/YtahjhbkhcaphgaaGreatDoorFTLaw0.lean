import Derived.Lib.TrailingZeros
import Derived.Test.YtahjhbkhcaphgaaGreatDoorFTMirrors
set_option linter.unusedVariables false
set_option linter.unusedSimpArgs false
namespace Go.Am
open Go
theorem bx{A B:Prop}(h:A)(e:A→B:=by intro h;simp only[Bool.cond_true_left,Bool.cond_false_right,Bool.not_eq_true',Bool.not_eq_false',Bool.or_eq_true,Bool.or_eq_false_iff,Bool.and_eq_true,Bool.and_eq_false_imp,Bool.not_true,Bool.not_false,decide_eq_true_eq,decide_eq_false_iff_not,Decidable.not_not,Int.not_lt,Int.not_le,Nat.not_lt,Nat.not_le,not_or,Bool.not_not,Bool.not_eq_true,Bool.true_eq_false,Bool.false_eq_true,Bool.or_true,Bool.true_or,Bool.and_true,Bool.true_and]at h;exact h):B:=e h
def Ev2{α β:Type}(x:Nat→Option α)(y:Nat→Option β)(P:α→β→Prop):Prop:=∃a b,P a b∧∃N,∀n,N≤n→x n=some a∧y n=some b
section
variable {α β γ δ ρ σ τ ρ' σ' τ':Type} {P:α→β→Prop} {Q:γ→δ→Prop}
theorem Ev2.mono{x:Nat→Option α}{y:Nat→Option β}{P':α→β→Prop}(h:Ev2 x y P)(hp:∀a b,P a b→P' a b):Ev2 x y P':=by
 obtain⟨a,b,hr,hN⟩:=h
 exact⟨a,b,hp a b hr,hN⟩
theorem Ev2.pure{a:α}{b:β}(h:P a b):Ev2 (fun _=>some a) (fun _=>some b) P:=⟨a,b,h,0,fun _ _=>⟨rfl,rfl⟩⟩
theorem Ev2.both{x:Nat→Option α}{y:Nat→Option β}{A:α→Prop}{B:β→Prop}(h:Evt x A)(k:Evt y B):Ev2 x y (fun a b=>A a∧B b):=by
 obtain⟨a,ha,N,hN⟩:=h
 obtain⟨b,hb,M,hM⟩:=k
 exact⟨a,b,⟨ha,hb⟩,max N M,fun n hn=>⟨hN n (by omega),hM n (by omega)⟩⟩
theorem Ev2.swap{x:Nat→Option α}{y:Nat→Option β}(h:Ev2 x y P):Ev2 y x (fun b a=>P a b):=by
 obtain⟨a,b,hr,N,hN⟩:=h
 exact⟨b,a,hr,N,fun n hn=>⟨(hN n hn).2,(hN n hn).1⟩⟩
theorem Ev2.bind{x:Nat→Option α}{y:Nat→Option β}{f:Nat→α→Option γ}{g:Nat→β→Option δ}(h:Ev2 x y P)(hf:∀a b,P a b→Ev2 (fun n=>f n a) (fun n=>g n b) Q):Ev2 (fun n=>(x n).bind (f n)) (fun n=>(y n).bind (g n)) Q:=by
 obtain⟨a,b,hp,N,hN⟩:=h
 obtain⟨c,d,hc,M,hM⟩:=hf a b hp
 exact⟨c,d,hc,max N M,fun n hn=>⟨by show(x n).bind (f n)=_;rw[(hN n (by omega)).1];exact(hM n (by omega)).1,by show(y n).bind (g n)=_;rw[(hN n (by omega)).2];exact(hM n (by omega)).2⟩⟩
theorem Ev2.cond{c d:Bool}{x x':Nat→Option α}{y y':Nat→Option β}(e:c=d)(h1:c=true→Ev2 x y P)(h2:c=false→Ev2 x' y' P):Ev2 (fun n=>bif c then x n else x' n) (fun n=>bif d then y n else y' n) P:=by
 subst e
 cases c
 ·exact h2 rfl
 ·exact h1 rfl
def KU(I:σ→σ'→Prop)(B:τ→τ'→Prop)(R:ρ→ρ'→Prop):Ctl ρ σ τ→Ctl ρ' σ' τ'→Prop
 | .nxt s,.nxt s'=>I s s'
 | .brk t,.brk t'=>B t t'
 | .ret x,.ret x'=>R x x'
 | _,_=>False
def KV(B:τ→τ'→Prop)(R:ρ→ρ'→Prop):Ex ρ τ→Ex ρ' τ'→Prop
 | .nxt t,.nxt t'=>B t t'
 | .ret x,.ret x'=>R x x'
 | _,_=>False
theorem Ev2.B2{x:Nat→Option (Ex ρ τ)}{y:Nat→Option (Ex ρ' τ')}{k:Nat→τ→Option ρ}{l:Nat→τ'→Option ρ'}{B:τ→τ'→Prop}{R Q:ρ→ρ'→Prop}(h:Ev2 x y (KV B R))
 (hn:∀t t',B t t'→Ev2 (fun n=>k n t) (fun n=>l n t') Q) (hr:∀r r',R r r'→Q r r'):Ev2 (fun n=>B2 (x n) (k n)) (fun n=>B2 (y n) (l n)) Q:=by
 obtain⟨a,b,hp,N,hN⟩:=h
 cases a with
 |nxt t=>
  cases b with
  |nxt t'=>
   obtain⟨c,d,hc,M,hM⟩:=hn t t' hp
   exact⟨c,d,hc,max N M,fun n hn=>⟨by simp only[(hN n (by omega)).1,Am.B2];exact(hM n (by omega)).1,by simp only[(hN n (by omega)).2,Am.B2];exact(hM n (by omega)).2⟩⟩
  |ret r'=>exact hp.elim
 |ret r=>
  cases b with
  |nxt t'=>exact hp.elim
  |ret r'=>exact⟨r,r',hr r r' hp,N,fun n hn=>⟨by simp only[(hN n hn).1,Am.B2],by simp only[(hN n hn).2,Am.B2]⟩⟩
theorem Ev2.range{b1:Nat→Nat→σ→Option (Ctl ρ σ σ)}{b2:Nat→Nat→σ'→Option (Ctl ρ' σ' σ')}{m:Nat}{s0:σ}{t0:σ'}(I:Nat→σ→σ'→Prop)(B:σ→σ'→Prop)(R:ρ→ρ'→Prop)(h0:I 0 s0 t0)
 (hs:∀k s t,k<m→I k s t→Ev2 (fun n=>b1 n k s) (fun n=>b2 n k t) (KU (I (k+1)) B R)):
 Ev2 (fun n=>G2 (b1 n) m s0) (fun n=>G2 (b2 n) m t0) (KV (fun s t=>I m s t∨B s t) R):=by
 unfold G2
 have key:∀j k s t,k+j=m→I k s t→Ev2 (fun n=>Y3 (b1 n) j k s) (fun n=>Y3 (b2 n) j k t) (KV (fun s t=>I m s t∨B s t) R):=by
  intro j
  induction j with
  |zero=>
   intro k s t e hi
   have:k=m:=by omega
   subst this
   exact Ev2.pure (.inl hi)
  |succ j ih=>
   intro k s t e hi
   obtain⟨c,d,hc,N,hN⟩:=hs k s t (by omega) hi
   cases c with
   |nxt s'=>
    cases d with
    |nxt t'=>
     obtain⟨r,r',hr,M,hM⟩:=ih (k+1) s' t' (by omega) hc
     exact⟨r,r',hr,max N M,fun n hn=>⟨by simp only[Y3,(hN n (by omega)).1];exact(hM n (by omega)).1,by simp only[Y3,(hN n (by omega)).2];exact(hM n (by omega)).2⟩⟩
    |brk t'=>exact hc.elim
    |ret x=>exact hc.elim
   |brk s'=>
    cases d with
    |nxt t'=>exact hc.elim
    |brk t'=>exact⟨.nxt s',.nxt t',.inr hc,N,fun n hn=>⟨by simp only[Y3,(hN n hn).1],by simp only[Y3,(hN n hn).2]⟩⟩
    |ret x=>exact hc.elim
   |ret x=>
    cases d with
    |nxt t'=>exact hc.elim
    |brk t'=>exact hc.elim
    |ret x'=>exact⟨.ret x,.ret x',hc,N,fun n hn=>⟨by simp only[Y3,(hN n hn).1],by simp only[Y3,(hN n hn).2]⟩⟩
 exact key m 0 s0 t0 (by omega) h0
theorem Ev2.eq{x y:Nat→Option α}{A:α→Prop}(h:Ev2 x y (fun a b=>a=b∧A a)):∃r,A r∧Evt x (fun a=>a=r)∧Evt y (fun a=>a=r):=by
 obtain⟨a,b,⟨e,ha⟩,N,hN⟩:=h
 subst e
 exact⟨a,ha,⟨a,rfl,N,fun n hn=>(hN n hn).1⟩,⟨a,rfl,N,fun n hn=>(hN n hn).2⟩⟩
theorem Evt.eq{x:Nat→Option α}{A:α→Prop}(h:Evt x A):∃r,A r∧Evt x (fun a=>a=r):=by
 obtain⟨a,ha,N,hN⟩:=h
 exact⟨a,ha,a,rfl,N,hN⟩
theorem Evt.scan{body:Nat→Nat→σ→Option (Ctl ρ σ σ)}{m:Nat}{s0:σ}(I:Nat→σ→Prop)(R:Nat→ρ→Prop)(h0:I 0 s0)
 (hs:∀k s,k<m→I k s→Evt (fun n=>body n k s) (zC (I (k+1)) (fun _=>False) (R k))):
 Evt (fun n=>G2 (body n) m s0) (ExP (I m) (fun r=>∃k s,k<m∧I k s∧R k r)):=by
 refine(Evt.range (fun k s=>I k s) (fun _=>False) (fun r=>∃k s,k<m∧I k s∧R k r) h0 fun k s hk hi=>(hs k s hk hi).mono fun c hc=>?_).mono fun e he=>?_
 ·cases c with
  |nxt s'=>exact hc
  |brk t=>exact hc
  |ret x=>exact⟨k,s,hk,hi,hc⟩
 ·cases e with
  |nxt t=>exact he.elim id False.elim
  |ret x=>exact he
end
inductive Anc(par:Nat→List Int):Nat→Nat→Prop
 |refl (a:Nat):Anc par a a
 |step {a p b:Nat} (h:(p:Int)∈par a) (t:Anc par p b):Anc par a b
def Low(n:Nat)(par:Nat→List Int):Prop:=∀k,k<n→∀p∈par k,0≤p∧p<k
section
variable {n:Nat} {par:Nat→List Int}
theorem Anc.le(h:Low n par){a b:Nat}(t:Anc par a b)(ha:a<n):b≤a:=by
 induction t with
 |refl a=>exact Nat.le_refl _
 |step hp _ ih=>
  have:=h _ ha _ hp
  have:=ih (by omega)
  omega
theorem Anc.trans{a b c:Nat}(t:Anc par a b)(u:Anc par b c):Anc par a c:=by
 induction t with
 |refl a=>exact u
 |step hp _ ih=>exact .step hp (ih u)
end
theorem bT{α:Type}[Inhabited α]{l:List α}{x:α}:x∈l↔ ∃j,j<l.length∧get l j=x:=by
 constructor
 ·intro h
  obtain⟨j,hj,e⟩:=List.getElem_of_mem h
  refine⟨j,hj,?_⟩
  unfold get
  rw[List.getD_eq_getElem?_getD,List.getElem?_eq_getElem hj]
  exact e
 ·rintro⟨j,hj,rfl⟩
  unfold get
  rw[List.getD_eq_getElem?_getD,List.getElem?_eq_getElem hj]
  exact List.getElem_mem hj
theorem fD{x:Nat}(hx:x<18446744073709551616):(BitVec.ofInt 64 (x:Int)).toNat=x:=by
 simp only[BitVec.ofInt_natCast,BitVec.toNat_ofNat]
 exact Nat.mod_eq_of_lt hx
theorem oG{x:Nat}(hx:x<18446744073709551616):IntKind.u64.wrap (x:Int)=x:=by
 have h1:IntKind.u64.min=0:=by decide
 have h2:IntKind.u64.max=18446744073709551615:=by decide
 exact tX ⟨by omega,by omega⟩
theorem xE{x y:Nat}(hx:x<18446744073709551616)(hy:y<18446744073709551616):qA .and .u64 (x:Int) (y:Int)=((x&&&y:Nat):Int):=by
 show IntKind.u64.wrap ((BitVec.ofInt 64 (x:Int)&&&BitVec.ofInt 64 (y:Int)).toNat:Int)=_
 rw[BitVec.toNat_and,fD hx,fD hy]
 exact oG (Nat.lt_of_le_of_lt Nat.and_le_left hx)
theorem zI{x y:Nat}(hx:x<18446744073709551616)(hy:y<18446744073709551616):qA .or .u64 (x:Int) (y:Int)=((x|||y:Nat):Int):=by
 show IntKind.u64.wrap ((BitVec.ofInt 64 (x:Int)|||BitVec.ofInt 64 (y:Int)).toNat:Int)=_
 rw[BitVec.toNat_or,fD hx,fD hy]
 exact oG (Nat.or_lt_two_pow (n:=64) hx hy)
theorem zJ{L:Nat}(h:L≤60):2^L≤1152921504606846976:=Nat.pow_le_pow_right (n:=2) (by decide) h
def bI(L:Nat)(x:Int)(P:Nat→Prop):Prop:=∃n:Nat,x=n∧n<2^L∧∀i,n.testBit i=true↔P i
section
variable {L:Nat} {x y:Int} {P Q:Nat→Prop}
theorem bI.congr(h:bI L x P)(e:∀i,P i↔Q i):bI L x Q:=by
 obtain⟨n,h1,h2,h3⟩:=h
 exact⟨n,h1,h2,fun i=>(h3 i).trans (e i)⟩
theorem bI.lt(h:bI L x P){i:Nat}(hi:P i):i<L:=by
 obtain⟨n,_,h2,h3⟩:=h
 have:=Nat.testBit_lt_two_pow (x:=n) (i:=i)
 rcases Nat.lt_or_ge i L with h|h
 ·exact h
 ·have:=Nat.testBit_lt_two_pow (Nat.lt_of_lt_of_le h2 (Nat.pow_le_pow_right (n:=2) (by decide) h))
  rw[(h3 i).2 hi]at this
  cases this
theorem bI.and(hL:L≤60)(h:bI L x P)(k:bI L y Q):bI L (qA .and .u64 x y) (fun i=>P i∧Q i):=by
 have h60:=zJ hL
 obtain⟨n,rfl,h2,h3⟩:=h
 obtain⟨m,rfl,k2,k3⟩:=k
 refine⟨n&&&m,xE (by omega) (by omega),Nat.lt_of_le_of_lt Nat.and_le_left h2,fun i=>?_⟩
 rw[Nat.testBit_and,Bool.and_eq_true,h3,k3]
theorem bI.or(hL:L≤60)(h:bI L x P)(k:bI L y Q):bI L (qA .or .u64 x y) (fun i=>P i∨Q i):=by
 have h60:=zJ hL
 obtain⟨n,rfl,h2,h3⟩:=h
 obtain⟨m,rfl,k2,k3⟩:=k
 refine⟨n|||m,zI (by omega) (by omega),Nat.or_lt_two_pow h2 k2,fun i=>?_⟩
 rw[Nat.testBit_or,Bool.or_eq_true,h3,k3]
theorem bI.one(hL:L≤60){k:Nat}(hk:k<L):bI L (wr .u64 (1*2^(min k 64))) (fun i=>i=k):=by
 have h60:=zJ hL
 have h1:(2:Nat)^k<2^L:=Nat.pow_lt_pow_right (by decide) hk
 refine⟨2^k,?_,h1,fun i=>?_⟩
 ·have:min k 64=k:=by omega
  rw[this,Int.one_mul]
  have e2:((2:Int)^k)=((2^k:Nat):Int):=by simp
  rw[e2]
  exact oG (by omega)
 ·rw[Nat.testBit_two_pow]
  simp[eq_comm]
theorem bI.zero:bI L 0 (fun _=>False):=⟨0,rfl,Nat.pow_pos (by decide),fun i=>by simp⟩
theorem bI.ext(h:bI L x P)(k:bI L y Q):x=y↔ ∀i,P i↔Q i:=by
 obtain⟨n,rfl,_,h3⟩:=h
 obtain⟨m,rfl,_,k3⟩:=k
 constructor
 ·intro e i
  have:n=m:=by omega
  subst this
  exact(h3 i).symm.trans (k3 i)
 ·intro e
  have:n=m:=by
   refine Nat.eq_of_testBit_eq fun i=>?_
   have:=(h3 i).trans ((e i).trans (k3 i).symm)
   cases hb:n.testBit i with
   |false=>
    cases hc:m.testBit i with
    |false=>rfl
    |true=>rw[this.2 hc]at hb;cases hb
   |true=>exact(this.1 hb).symm
  rw[this]
end
end Go.Am
namespace Go.Proofs.YtahjhbkhcaphgaaGreatDoor
open Go Go.Am
theorem eL:top=140737488355328:=rfl
theorem aR{G:Bool}{p:Prop}(h:G=true→p):cg G p:=h
def OkC(c:Int):Prop:=(97≤c∧c≤122)∨(48≤c∧c≤57)∨c=95∨c=45
def A8(s:Bs):Prop:=1≤s.length∧s.length≤30∧(97≤B3 s 0∧B3 s 0≤122)∧∀k,k<s.length→OkC (B3 s (k:Int))
open Classical in
noncomputable def mI(s:Bs):Bool:=decide (A8 s)
theorem jl{s:Bs}(h:A8 s):mI s=true:=by unfold mI;simp[h]
theorem bq{s:Bs}(h:¬A8 s):mI s=false:=by unfold mI;simp[h]
theorem eM(s:Bs):Evt (fun _=>termName s) (fun b=>b=mI s):=by
 unfold termName
 refine Evt.chk (aR fun h=>?_) ?_
 ·replace h:=bx h
  omega
 refine Evt.chk (aR fun h=>?_) ?_
 ·replace h:=bx h
  omega
 refine Evt.cond (fun h=>Evt.pure (bq fun hn=>?_).symm) (fun h=>?_)
 ·obtain⟨h1,h2,h3,_⟩:=hn
  replace h:=bx h
  omega
 replace h:=bx h
 refine Evt.chk (by omega) ?_
 refine(Evt.B2 (Q:=fun b=>b=mI s) (Evt.scan (fun k _=>∀j,j<k→OkC (B3 s (j:Int))) (fun k b=>b=false∧¬OkC (B3 s (k:Int))) (fun j hj=>absurd hj (Nat.not_lt_zero _)) (fun k u hk hi=>?_)) (fun t ht=>?_) (fun r hr=>?_))
 ·unfold gT
  refine Evt.cond (fun e=>Evt.pure ?_) (fun e=>Evt.pure ?_)
  ·replace e:=bx e
   refine⟨rfl,?_⟩
   unfold OkC
   omega
  ·replace e:=bx e
   intro j hj
   by_cases ej:j=k
   ·subst ej;unfold OkC;omega
   ·exact hi j (by omega)
 ·unfold gU
  refine Evt.pure (jl ⟨by omega,by omega,by omega,ht⟩).symm
 ·obtain⟨k,_,hk,_,rfl,h2⟩:=hr
  exact(bq fun hn=>h2 (hn.2.2.2 k hk)).symm
theorem CB{α:Type}[Inhabited α]{l:List α}{n i:Nat}(h:i<n):Am.get (l.take n) i=Am.get l i:=by
 unfold Am.get
 rw[List.getD_eq_getElem?_getD,List.getD_eq_getElem?_getD,List.getElem?_take,if_pos h]
theorem uM{α:Type}[Inhabited α]{l:List α}{x:α}:Am.get (l++[x]) l.length=x:=by
 unfold Am.get
 rw[List.getD_eq_getElem?_getD,List.getElem?_append_right (Nat.le_refl _)]
 simp
end Go.Proofs.YtahjhbkhcaphgaaGreatDoor
