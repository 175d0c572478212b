import Derived.Lib.TrailingZeros
import Derived.Lib.ItoaMem
import Derived.Lib.ItoaLen
import Derived.Test.YtchbmngmmdeenaaGreatDoorTMMirrors
open Classical renaming byContradiction->cp,epsilon->MM,epsilon_spec->MT
open False renaming elim->gh
open Go.IntKind renaming u64->tc
open Go.Lib renaming compact->la,keeps->Do,compact_length_le->n9,decDigits->cb,itoa_nonneg->GB
open Int renaming le_refl->IR,toNat_natCast->ai
open List renaming getD_eq_getElem?_getD->ac,getElem?_eq_getElem->b7,getElem_mem->bt,getElem?_append_right->c8,drop_eq_getElem_cons->kz,length->ph,length_take->db,take->JS,length_append->aa,mem_cons_self->az,mem_cons_of_mem->aw,length_cons->an,cons_append->di,mem_map->bj,mem_cons->ce,drop_length->lm,length_map->bc,length_reverse->z6,length_drop->iv,length_nil->cz,take_length->cj,reverse_cons->Be,map_append->cm,append_assoc->bl,singleton_append->r4,take_append_drop->ew,nil_append->fw,mem_append->al,mem_singleton->ao,getElem?_append_left->cy,flatMap_append->kn,getElem?_take_of_lt->wy,length_singleton->lz,append_nil->gf,foldl_cons->wa,foldl_nil->fS0,zip_cons_cons->te,map_cons->bv,map_congr_left->e8
open List.cons renaming inj->en
open Nat renaming le_refl->ae,lt_of_le_of_lt->A7,and_le_left->FO,pow_le_pow_right->zt,testBit_lt_two_pow->ya,not_lt_zero->co,add_assoc->da,min_eq_left->Fs,zero_add->dq,lt_trichotomy->tz,add_zero->ky,zero_le->li
open Option renaming bind_some->ax,bind_assoc->zz
open SizeOf renaming sizeOf->am
namespace Go.Am
open Go
theorem bx{yn AD:Prop}(h:yn)(e:yn->AD:=by intro h;simp only[Bool.cond_true_left,Bool.cond_false_right,Bool.not_eq_true',Bool.not_eq_false',Bool.or_eq_true,Bool.or_eq_false_iff,Bool.and_eq_true,Bool.and_eq_false_imp,Bool.not_true,Bool.not_false,decide_eq_true_eq,decide_eq_false_iff_not,Decidable.not_not,Int.not_lt,Int.not_le,Nat.not_lt,Nat.not_le,not_or,Bool.not_not,Bool.not_eq_true,Bool.true_eq_false,Bool.false_eq_true,Bool.or_true,Bool.true_or,Bool.and_true,Bool.true_and]at h;exact h):AD:=e h
theorem ab{yn AD:Prop}(h:yn->AD:=by intro e;replace e:=bx e;omega):yn->AD:=h
def yK{α β:Type}(x:Nat->Option α)(y:Nat->Option β)(P:α->β->Prop):Prop:=∃a b,P a b/\∃N,∀n,N<=n->x n=some a/\y n=some b
section
variable {α β γ δ ρ σ τ ρ' σ' τ':Type} {P:α->β->Prop} {BE:γ->δ->Prop}
theorem yK.mono{x:Nat->Option α}{y:Nat->Option β}{P':α->β->Prop}(h:yK x y P)(hp:∀a b,P a b->P' a b):yK x y P':=by have⟨a,b,hr,hN⟩:=h;exact⟨a,b,hp a b hr,hN⟩
theorem yK.bind{x:Nat->Option α}{y:Nat->Option β}{f:Nat->α->Option γ}{g:Nat->β->Option δ}(h:yK x y P)(hf:∀a b,P a b->yK (fun n=>f n a) (fun n=>g n b) BE):yK (fun n=>(x n).bind (f n)) (fun n=>(y n).bind (g n)) BE:=by have⟨a,b,hp,N,hN⟩:=h;have⟨c,d,K,yb,hM⟩:=hf a b hp;exact⟨c,d,K,max N yb,fun n hn=>⟨by show(x n).bind (f n)=_;rw[(hN n M).1];exact(hM n M).1,by show(y n).bind (g n)=_;rw[(hN n M).2];exact(hM n M).2⟩⟩
theorem Z.scan{body:Nat->Nat->σ->Option (C1 ρ σ σ)}{m:Nat}{Y:σ}(tl:Nat->σ->Prop)(R:Nat->ρ->Prop)(h0:tl 0 Y)
 (hs:∀k s,k<m->tl k s->Z (fun n=>body n k s) (cU (tl (k+1)) (fun _=>False) (R k))):
 Z (fun n=>K6 (body n) m Y) (L2 (tl m) (fun r=>∃k s,k<m/\tl k s/\R k r)):=by
 refine(Z.range (fun k s=>tl k s) (fun _=>False) (fun r=>∃k s,k<m/\tl k s/\R k r) h0 fun k s S u=>(hs k s S u).mono fun c K=>?_).mono fun e he=>?_
 ·cases c with
  |B7 s'=>exact K
  |brk t=>exact K
  |ret x=>exact⟨k,s,S,u,K⟩
 ·grind
end
inductive sG(par:Nat->List Int):Nat->Nat->Prop
 |refl (a:Nat):sG par a a
 |step {a p b:Nat} (h:(p:Int)∈par a) (t:sG par p b):sG par a b
def Low(n:Nat)(par:Nat->List Int):Prop:=∀k,k<n->∀p∈par k,0<=p/\p<k
section
variable {n:Nat} {par:Nat->List Int}
theorem sG.le(h:Low n par){a b:Nat}(t:sG par a b)(ha:a<n):b<=a:=by
 induction t with
 |refl a=>exact ae _
 |step hp _ ih=>have:=h _ ha _ hp;have:=ih M;omega
theorem sG.trans{a b c:Nat}(t:sG par a b)(C':sG par b c):sG par a c:=by
 induction t with
 |refl a=>exact C'
 |step hp _ ih=>exact .step hp (ih C')
end
theorem U0{α:Type}[Inhabited α]{l:List α}{x:α}:x∈l↔ ∃j,j<l.length/\get l j=x:=by
 constructor
 ·intro h;have⟨j,L,e⟩:=List.getElem_of_mem h;refine⟨j,L,?_⟩;unfold get;rw[ac,b7 L];exact e
 ·rintro⟨j,L,rfl⟩;unfold get;rw[ac,b7 L];exact bt L
theorem d3u{x:Nat}(A:x<18446744073709551616):(BitVec.ofInt 64 (x:Int)).toNat=x:=by grind
theorem d3v{x:Nat}(A:x<18446744073709551616):tc.wrap (x:Int)=x:=by
 have U:tc.min=0:=by decide
 have X:tc.max=18446744073709551615:=by decide
 exact Py ⟨by omega,by omega⟩
theorem i6E{x y:Nat}(A:x<18446744073709551616)(hy:y<18446744073709551616):xK .and .u64 (x:Int) (y:Int)=((x&&&y:Nat):Int):=by show tc.wrap ((BitVec.ofInt 64 (x:Int)&&&BitVec.ofInt 64 (y:Int)).toNat:Int)=_;rw[BitVec.toNat_and,d3u A,d3u hy];exact d3v (A7 FO A)
theorem d3w{AM:Nat}(h:AM<=60):2^AM<=1152921504606846976:=zt (n:=2) D5 h
def mO(AM:Nat)(x:Int)(P:Nat->Prop):Prop:=∃n:Nat,x=n/\n<2^AM/\∀i,n.testBit i=true↔P i
section
variable {AM:Nat} {x y:Int} {P BE:Nat->Prop}
theorem mO.lt(h:mO AM x P){i:Nat}(u:P i):i<AM:=by
 have⟨n,_,X,h3⟩:=h;have:=ya (x:=n) (i:=i);rcases Nat.lt_or_ge i AM with h|h
 ·exact h
 ·have:=ya (Nat.lt_of_lt_of_le X (zt (n:=2) D5 h));rw[(h3 i).2 u]at this;cases this
theorem mO.and(hL:AM<=60)(h:mO AM x P)(k:mO AM y BE):mO AM (xK .and .u64 x y) (fun i=>P i/\BE i):=by have h60:=d3w hL;obtain⟨n,rfl,X,h3⟩:=h;obtain⟨m,rfl,k2,k3⟩:=k;refine⟨n&&&m,i6E M M,A7 FO X,fun i=>?_⟩;rw[Nat.testBit_and,Bool.and_eq_true,h3,k3]
theorem mO.one(hL:AM<=60){k:Nat}(S:k<AM):mO AM (wr .u64 (1*2^(min k 64))) (fun i=>i=k):=by
 have h60:=d3w hL;have U:(2:Nat)^k<2^AM:=Nat.pow_lt_pow_right D5 S;refine⟨2^k,?_,U,fun i=>?_⟩
 ·have:min k 64=k:=by omega
  rw[this,Int.one_mul];have e2:((2:Int)^k)=((2^k:Nat):Int):=by simp
  rw[e2];exact d3v M
 ·grind
theorem mO.zero:mO AM 0 (fun _=>False):=⟨0,rfl,Nat.pow_pos D5,fun i=>by simp⟩
theorem mO.ext(h:mO AM x P)(k:mO AM y BE):x=y↔ ∀i,P i↔BE i:=by
 obtain⟨n,rfl,_,h3⟩:=h;obtain⟨m,rfl,_,k3⟩:=k;constructor
 ·grind
 ·intro e;have:n=m:=by
   refine Nat.eq_of_testBit_eq fun i=>?_;have:=(h3 i).trans ((e i).trans (k3 i).symm);cases H:n.testBit i with
   |false=>grind
   |true=>exact(this.1 H).symm
  rw[this]
end
end Go.Am
namespace Go.Proofs.YtchbmngmmdeenaaGreatDoor
open Go Go.Am
theorem Y7:top=140737488355328:=rfl
theorem lT{yn:Prop}(h:yn:=by rw[Y7];simp only[List.length_append,List.length_cons,List.length_nil,List.length_take,List.nil_append,List.length_map];omega):yn:=h
theorem z0{BE:O->Prop}:∀f,am f<=0->BE f:=fun f h=>by cases f;simp only[O.mk.sizeOf_spec]at h;omega
theorem W1{G:Bool}{p:Prop}(h:G=true->p):L1 G p:=h
def mP(c:Int):Prop:=(97<=c/\c<=122)\/(48<=c/\c<=57)\/c=95\/c=45
def M0(s:J):Prop:=1<=s.length/\s.length<=30/\(97<=P0 s 0/\P0 s 0<=122)/\∀k,k<s.length->mP (P0 s (k:Int))
open Classical in
noncomputable def nT(s:J):Bool:=decide (M0 s)
theorem Sj{s:J}(h:M0 s):nT s=true:=by unfold nT;simp[h]
theorem yL{s:J}(h:¬M0 s):nT s=false:=by unfold nT;simp[h]
theorem Sk(s:J):Z (fun _=>termName s) (fun b=>b=nT s):=by
 unfold termName;refine Z.w6 (W1 fun h=>?_) ?_
 ·replace h:=bx h;omega
 refine Z.w6 (W1 fun h=>?_) ?_
 ·replace h:=bx h;omega
 refine Z.cond (fun h=>Z.pure (yL fun hn=>?_).symm) (fun h=>?_)
 ·have⟨U,X,h3,_⟩:=hn;replace h:=bx h;omega
 replace h:=bx h;refine Z.w6 M ?_;refine(Z.B3 (BE:=fun b=>b=nT s) (Z.scan (fun k _=>∀j,j<k->mP (P0 s (j:Int))) (fun k b=>b=false/\¬mP (P0 s (k:Int))) (fun j L=>absurd L (co _)) (fun k C' S u=>?_)) (fun t F=>?_) (fun r hr=>?_))
 ·unfold Sl;refine Z.cond (fun e=>Z.pure ?_) (fun e=>Z.pure ?_)
  ·replace e:=bx e;refine⟨rfl,?_⟩;unfold mP;omega
  ·replace e:=bx e;intro j L;by_cases ej:j=k
   ·subst ej;unfold mP;omega
   ·exact u j M
 ·unfold Sm;refine Z.pure (Sj ⟨by omega,by omega,by omega,F⟩).symm
 ·obtain⟨k,_,S,_,rfl,X⟩:=hr;exact(yL fun hn=>X (hn.2.2.2 k S)).symm
theorem i6G{α:Type}[Inhabited α]{l:List α}{n i:Nat}(h:i<n):Am.get (l.take n) i=Am.get l i:=by unfold Am.get;rw[ac,ac,List.getElem?_take,if_pos h]
theorem i6H{α:Type}[Inhabited α]{l:List α}{x:α}:Am.get (l++[x]) l.length=x:=by unfold Am.get;rw[ac,c8 (ae _)];simp
end Go.Proofs.YtchbmngmmdeenaaGreatDoor
namespace Go.Am
open Go
section
variable {σ ρ τ:Type} {body:Nat->σ->Option (C1 ρ σ τ)} {s s' s'':σ} {e:Ex ρ τ}
def gy(body:Nat->σ->Option (C1 ρ σ τ))(s s':σ):Prop:=∃k N,∀n,N<=n->∀f,D9 (body n) (f+k) s=D9 (body n) f s'
def gX(body:Nat->σ->Option (C1 ρ σ τ))(s:σ)(e:Ex ρ τ):Prop:=∃k N,∀n,N<=n->∀f,D9 (body n) (f+k) s=some e
theorem gy.refl:gy body s s:=⟨0,0,fun _ _ _=>rfl⟩
theorem gy.trans(h:gy body s s')(k:gy body s' s''):gy body s s'':=by have⟨a,N,h⟩:=h;have⟨b,yb,k⟩:=k;exact⟨b+a,max N yb,fun n hn f=>by rw[<-da,h n M,k n M]⟩
theorem gy.ends(h:gy body s s')(k:gX body s' e):gX body s e:=by have⟨a,N,h⟩:=h;have⟨b,yb,k⟩:=k;exact⟨b+a,max N yb,fun n hn f=>by rw[<-da,h n M,k n M]⟩
theorem gy.one(h:Z (fun n=>body n s) (fun c=>c= .B7 s')):gy body s s':=by obtain⟨c,rfl,N,h⟩:=h;exact⟨1,N,fun n hn f=>by show D9 (body n) (f+1) s=_;simp only[D9,h n hn]⟩
theorem gX.brk{t:τ}(h:Z (fun n=>body n s) (fun c=>c= .brk t)):gX body s (.B7 t):=by obtain⟨c,rfl,N,h⟩:=h;exact⟨1,N,fun n hn f=>by show D9 (body n) (f+1) s=_;simp only[D9,h n hn]⟩
theorem gX.ret{r:ρ}(h:Z (fun n=>body n s) (fun c=>c= .ret r)):gX body s (.ret r):=by obtain⟨c,rfl,N,h⟩:=h;exact⟨1,N,fun n hn f=>by show D9 (body n) (f+1) s=_;simp only[D9,h n hn]⟩
theorem gX.Ky(h:gX body s e):Z (fun n=>D9 (body n) n s) (fun x=>x=e):=by
 have⟨k,N,h⟩:=h;exact⟨e,rfl,max N k,fun n hn=>by have:=h n M (n-k);rwa[show n-k+k=n by omega]at this⟩
end
end Go.Am
namespace Go.Proofs.YtchbmngmmdeenaaGreatDoor
open Go Go.Am
theorem get_mem{α:Type}[Inhabited α]{l:List α}{k:Nat}(h:k<l.length):Am.get l k∈l:=by unfold Am.get;rw[ac,b7 h];exact bt h
theorem Sn{α:Type}[Inhabited α]{l:List α}{k:Nat}(h:k<l.length):l.drop k=Am.get l k::l.drop (k+1):=by rw[kz h];unfold Am.get;rw[ac,b7 h];rfl
def Live{α:Type}(st:List α×Int×Nat)(l:List α)(c:Int):Prop:=st.1.take st.2.2=l/\st.2.2=l.length/\st.2.1=c
section
variable {α:Type} {st:List α×Int×Nat} {rest:List α} {x:α} {c:Int}
theorem Live.le{l:List α}(h:Live st l c):st.2.2<=st.1.length:=by have U:=congrArg ph h.1;rw[db]at U;have X:=h.2.1;omega
theorem Live.sp(h:Live st (rest++[x]) c):st.2.2=rest.length+1:=by rw[h.2.1];simp
theorem Live.top[Inhabited α](h:Live st (rest++[x]) c):Am.get st.1 rest.length=x:=by have U:Am.get (st.1.take st.2.2) rest.length=Am.get st.1 rest.length:=i6G (by rw[h.sp];omega);rw[<-U,h.1];exact i6H
theorem Live.pop(h:Live st (rest++[x]) c):st.1.take rest.length=rest:=by have U:=congrArg (JS rest.length) h.1;rw[List.take_take,List.take_left,h.sp,Fs M]at U;exact U
end
theorem d3x(s:J):Z (fun n=>BJ n s) (fun b=>b=nT s):=by
 unfold BJ;refine Z.cond (fun h=>Z.pure (yL fun hn=>?_).symm) (fun h=>?_)
 ·have⟨U,X,h3,_⟩:=hn;replace h:=bx h;omega
 replace h:=bx h;refine Z.B3 (P:=L2 (fun _=>nT s=true) (fun b=>b=false/\nT s=false)) (Z.loop (fun i:Int=>(s.length-i).toNat) (fun i=>0<=i/\i<=s.length/\∀j:Nat,(j:Int)<i->mP (P0 s (j:Int))/\(j=0->97<=P0 s 0/\P0 s 0<=122)) _ _ ⟨IR _,by omega,fun j L=>by omega⟩ (fun i u=>?_)) (fun t F=>Z.pure F.symm) (fun r hr=>by rw[hr.1,hr.2]);have⟨h0,U,X⟩:=u;unfold Sp;refine Z.cond (fun e=>?_) (fun e=>Z.pure ?_)
 ·replace e:=bx e;have hw:wr .i64 (i+1)=i+1\/True:=.inr trivial;refine Z.w6 ⟨h0,e⟩ (Z.cond (fun e2=>Z.pure ⟨rfl,yL fun hn=>?_⟩) (fun e2=>Z.pure ?_))
  ·replace e2:=bx e2;have h3:=hn.2.2.2 i.toNat M;rw[show((i.toNat:Nat):Int)=i by omega]at h3;unfold mP at h3;have h4:=hn.2.2.1;by_cases hi0:i=0
   ·subst hi0;omega
   ·omega
  ·replace e2:=bx e2;have hl:s.length<=30:=by omega
   rw[F9 M M];refine⟨⟨by omega,by omega,fun j L=>?_⟩,by omega⟩;by_cases ej:(j:Int)=i
   ·rw[ej];unfold mP;by_cases hi0:i=0
    ·grind
    ·grind
   ·exact X j M
 ·replace e:=bx e;exact Sj ⟨by omega,by omega,(X 0 M).2 rfl,fun k S=>(X k M).1⟩
end Go.Proofs.YtchbmngmmdeenaaGreatDoor
namespace Go.Am
open Go
theorem Z.R5{σ ρ τ:Type}{body:Nat->σ->Option (C1 ρ σ τ)}{Y:σ}(N:Nat)(tl:Nat->σ->Prop)(AD:τ->Prop)(R:ρ->Prop)(h0:tl 0 Y)
 (hs:∀k s,k<N->tl k s->Z (fun n=>body n s) (cU (tl (k+1)) AD R)) (he:∀s,tl N s->Z (fun n=>body n s) (cU (fun _=>False) AD R)):
 Z (fun n=>D9 (body n) n Y) (L2 AD R):=by
 have key:∀j k s,k+j=N->tl k s->∃e,L2 AD R e/\∃yb,∀n,yb<=n->∀f,j<f->D9 (body n) f s=some e:=by
  intro j;induction j with
  |zero=>
   intro k s S u;obtain rfl:k=N:=by omega
   have⟨c,K,yb,hM⟩:=he s u;cases c with
   |B7 s'=>exact K.elim
   |brk t=>refine⟨.B7 t,K,yb,fun n hn f hf=>?_⟩;obtain⟨g,rfl⟩:∃g,f=g+1:=⟨f-1,by omega⟩;simp only[D9,hM n hn]
   |ret x=>refine⟨.ret x,K,yb,fun n hn f hf=>?_⟩;obtain⟨g,rfl⟩:∃g,f=g+1:=⟨f-1,by omega⟩;simp only[D9,hM n hn]
  |succ j ih=>
   intro k s S u;have⟨c,K,yb,hM⟩:=hs k s M u;cases c with
   |B7 s'=>have⟨e,he,AM,hL⟩:=ih (k+1) s' M K;refine⟨e,he,max yb AM,fun n hn f hf=>?_⟩;obtain⟨g,rfl⟩:∃g,f=g+1:=⟨f-1,by omega⟩;simp only[D9,hM n M];exact hL n M g M
   |brk t=>refine⟨.B7 t,K,yb,fun n hn f hf=>?_⟩;obtain⟨g,rfl⟩:∃g,f=g+1:=⟨f-1,by omega⟩;simp only[D9,hM n hn]
   |ret x=>refine⟨.ret x,K,yb,fun n hn f hf=>?_⟩;obtain⟨g,rfl⟩:∃g,f=g+1:=⟨f-1,by omega⟩;simp only[D9,hM n hn]
 have⟨e,he,yb,hM⟩:=key N 0 Y M h0
 exact⟨e,he,max yb (N+1),fun n hn=>hM n M n M⟩
end Go.Am
namespace Go.Proofs.YtchbmngmmdeenaaGreatDoor
open Go Go.Am
variable {α ρ:Type} {r:F1} {C:List J} {C' v:Nat} {a:Option (List C4)} {c:UInt8}
def QK(k:Int):Prop:=k=8\/k=9
instance(k:Int):Decidable (QK k):=inferInstanceAs (Decidable (_\/_))
mutual
def w9:O->Nat
 | .mk _ _ _ s=>1+B8 s
def B8:List O->Nat
 | []=>0
 |x::l=>w9 x+B8 l
end
mutual
def R0:O->Nat
 | .mk _ _ _ s=>1+N4 s
def N4:List O->Nat
 | []=>0
 |x::l=>max (R0 x) (N4 l)
end
mutual
def nq:O->Nat
 | .mk k _ _ s=>(if QK k then 1 else 0)+K2 s
def K2:List O->Nat
 | []=>0
 |x::l=>nq x+K2 l
end
mutual
def qs:O->List J
 | .mk k n _ s=>(if QK k then [n]else [])++J6 s
def J6:List O->List J
 | []=>[]
 |x::l=>qs x++J6 l
end
theorem Y8(f:O):w9 f=1+B8 f.subs:=by cases f;rw[w9];rfl
theorem d3y(f:O):R0 f=1+N4 f.subs:=by cases f;rw[R0];rfl
theorem Kz(f:O):nq f=(if QK f.kind then 1 else 0)+K2 f.subs:=by cases f;rw[nq];rfl
theorem dH(f:O):qs f=(if QK f.kind then [f.name]else [])++J6 f.subs:=by cases f;rw[qs];rfl
mutual
theorem ji:∀f:O,(qs f).length=nq f
 | .mk k n w s=>by rw[qs,nq,aa,Sq];split<;>rfl
theorem Sq:∀l:List O,(J6 l).length=K2 l
 | []=>by rw[J6,K2];rfl
 |x::l=>by rw[J6,K2,aa,ji,Sq]
end
mutual
theorem jj:∀f:O,nq f<=w9 f
 | .mk k n w s=>by rw[nq,w9];have:=Sr s;split<;>omega
theorem Sr:∀l:List O,K2 l<=B8 l
 | []=>by rw[K2];omega
 |x::l=>by rw[K2,B8];have U:=jj x;have X:=Sr l;omega
end
theorem W3{f:O}{k:Nat}(h:k<f.subs.length):am (Am.get f.subs k)<am f:=by
 cases f with
 |mk a b c s=>
  have X:Am.get s k∈s:=by unfold Am.get;have h3:k<s.length:=h;rw[ac,b7 h3];exact bt h3
  have:=List.sizeOf_lt_of_mem X;show am (Am.get s k)<_;simp only[O.mk.sizeOf_spec];omega
def R2(k:Int):Int:=if k=1\/k=2\/k=3 then 0 else if k=4\/k=8\/k=9 then 1 else if k=5\/k=6\/k=7 then 2 else -1
def eM(k:Int)(n:Nat):Prop:=if k=2 then n<=3 else if k=3 then n=2 else n=0
instance(k:Int)(n:Nat):Decidable (eM k n):=by unfold eM;infer_instance
open Classical in
noncomputable def ay(f:O):Int:=
 if R2 f.kind<0 then 4
 else if(f.subs.length:Int)≠R2 f.kind\/¬eM f.kind f.words.length then 9
 else if(f.kind=2\/QK f.kind)/\¬M0 f.name then 10
 else if ¬(f.kind=2\/QK f.kind)/\f.name≠ []then 5
 else if ∃w∈f.words,¬M0 w then 10
 else 0
mutual
noncomputable def cH:O->Int->Int->Int×Int
 | .mk k n w s,d,b=>if 200<b+1\/40<d then(1,b)else if ay (.mk k n w s)=0 then dI s (d+1) (b+1)else(ay (.mk k n w s),b)
noncomputable def dI:List O->Int->Int->Int×Int
 | [],_,b=>(0,b)
 |x::l,d,b=>if(cH x d b).1=0 then dI l d (cH x d b).2 else cH x d b
end
theorem d3z(f:O)(d b:Int):cH f d b=if 200<b+1\/40<d then(1,b)else if ay f=0 then dI f.subs (d+1) (b+1)else(ay f,b):=by cases f;rw[cH];rfl
mutual
def M1:O->Prop
 | .mk k n w s=>ay (.mk k n w s)=0/\cx s
def cx:List O->Prop
 | []=>True
 |x::l=>M1 x/\cx l
end
theorem dR(f:O):M1 f↔ay f=0/\cx f.subs:=by cases f;rw[M1];rfl
theorem lB:∀ {l:List O},cx l↔ ∀x∈l,M1 x
 | []=>by simp[cx]
 |x::l=>by rw[cx,lB];simp
mutual
theorem Ss:∀(f:O)(d b:Int),(cH f d b).1=0->M1 f/\(cH f d b).2=b+w9 f/\b+w9 f<=200/\d-1+R0 f<=40
 | .mk k n w s,d,b,h=>by
   rw[cH]at h⊢;split at h
   ·cases h
   ·rename_i U;rw[if_neg U];split at h
    ·rename_i X;rw[if_pos X];have⟨w1,w2,w3,w4⟩:=d3A s (d+1) (b+1) h M M;rw[M1,w9,R0];refine⟨⟨X,w1⟩,?_,?_,?_⟩<;>omega
    ·exact absurd h (by assumption)
theorem d3A:∀(l:List O)(d b:Int),(dI l d b).1=0->b<=200->d-1<=40->cx l/\(dI l d b).2=b+B8 l/\b+B8 l<=200/\d-1+N4 l<=40
 | [],d,b,_,H,hd=>by rw[dI,cx,B8,N4];refine⟨trivial,?_,?_,?_⟩<;>first|omega|(show b=_;omega)
 |x::l,d,b,h,H,hd=>by
  rw[dI]at h⊢;split at h
  ·rename_i U;rw[if_pos U];have⟨w1,w2,w3,w4⟩:=Ss x d b U;rw[w2]at h⊢;have⟨v1,v2,v3,v4⟩:=d3A l d (b+w9 x) h w3 hd;rw[cx,B8,N4];refine⟨⟨w1,v1⟩,?_,?_,?_⟩<;>omega
  ·exact absurd h (by assumption)
end
mutual
theorem d3B:∀(f:O)(d b:Int),M1 f->b+w9 f<=200->d-1+R0 f<=40->cH f d b=(0,b+w9 f)
 | .mk k n w s,d,b,U,X,h3=>by rw[M1]at U;rw[w9]at X⊢;rw[R0]at h3;rw[cH,if_neg M,if_pos U.1,d3C s (d+1) (b+1) U.2 M M];congr 1;omega
theorem d3C:∀(l:List O)(d b:Int),cx l->b+B8 l<=200->d-1+N4 l<=40->dI l d b=(0,b+B8 l)
 | [],d,b,_,_,_=>by rw[dI,B8];congr 1;omega
 |x::l,d,b,U,X,h3=>by rw[cx]at U;rw[B8]at X⊢;rw[N4]at h3;rw[dI,d3B x d b U.1 M M,if_pos rfl,d3C l d _ U.2 M M];congr 1;omega
end
def Y0(f:O):Prop:=M1 f/\w9 f<=200/\R0 f<=40
theorem d3D(f:O):(cH f 1 0).1=0↔Y0 f:=by
 refine⟨fun h=>?_,fun h=>?_⟩
 ·have⟨U,X,h3,h4⟩:=Ss f 1 0 h;exact⟨U,by omega,by omega⟩
 ·rw[d3B f 1 0 h.1 (by have:=h.2.1;omega) (by have:=h.2.2;omega)]
theorem kg{f:O}(h:ay f=0):(f.subs.length:Int)=R2 f.kind/\eM f.kind f.words.length/\(f.kind=2\/QK f.kind->M0 f.name)/\(¬(f.kind=2\/QK f.kind)->f.name=[])/\∀w∈f.words,M0 w:=by
 unfold ay at h;split at h
 ·cases h
 split at h
 ·cases h
 split at h
 ·cases h
 split at h
 ·cases h
 split at h
 ·cases h
 rename_i U X h3 h4 h5;refine⟨cp fun e=>X (.inl e),cp fun e=>X (.inr e),fun h=>cp fun e=>h3 ⟨h,e⟩,fun h=>cp fun e=>h4 ⟨h,e⟩,fun w hw=>cp fun e=>h5 ⟨w,hw,e⟩⟩
def sub(env:List (J×J))(w:J):J:=((env.find? (fun p=>p.1==w)).map (·.2)).getD w
theorem vJ(w:J):sub [] w=w:=rfl
theorem kh(a b w:J)(env:List (J×J)):sub ((a,b)::env) w=if a=w then b else sub env w:=by
 unfold sub;rw[List.find?_cons];by_cases h:a=w
 ·simp[h]
 ·grind
theorem Sv{env:List (J×J)}{w:J}(h:∀p∈env,p.1≠w):sub env w=w:=by
 induction env with
 |nil=>rfl
 |cons p env ih=>have⟨a,b⟩:=p;rw[kh,if_neg (h (a,b) (az ..)),ih fun q hq=>h q (aw _ hq)]
theorem d3E{env:List (J×J)}{w:J}(h:w∈env.map (·.1)):sub env w∈env.map (·.2):=by
 induction env with
 |nil=>cases h
 |cons p env ih=>
  have⟨a,b⟩:=p;rw[kh];split
  ·exact az ..
  ·grind
mutual
def F8(N:Nat->J):O->List (J×J)->Nat->O
 | .mk k n w s,env,i=>.mk k (if QK k then N i else n) (w.map (sub env)) (L4 N s (if QK k then(n,N i)::env else env) (i+if QK k then 1 else 0))
def L4(N:Nat->J):List O->List (J×J)->Nat->List O
 | [],_,_=>[]
 |x::l,env,i=>F8 N x env i::L4 N l env (i+nq x)
end
theorem BK(N:Nat->J)(f:O)(env:List (J×J))(i:Nat):F8 N f env i= .mk f.kind (if QK f.kind then N i else f.name) (f.words.map (sub env)) (L4 N f.subs (if QK f.kind then(f.name,N i)::env else env) (i+if QK f.kind then 1 else 0)):=by cases f;rw[F8];rfl
theorem qU(N:Nat->J):∀(l:List O) (env:List (J×J)) (i:Nat),(L4 N l env i).length=l.length
 | [],_,_=>by rw[L4]
 |x::l,env,i=>by rw[L4,an,an,qU N l]
mutual
theorem Fa(N:Nat->J):∀(f:O) (env:List (J×J)) (i:Nat),w9 (F8 N f env i)=w9 f
 | .mk k n w s,env,i=>by rw[F8,w9,w9,d3F N s]
theorem d3F(N:Nat->J):∀(l:List O) (env:List (J×J)) (i:Nat),B8 (L4 N l env i)=B8 l
 | [],env,i=>by rw[L4]
 |x::l,env,i=>by rw[L4,B8,B8,Fa N x,d3F N l]
end
def nms(N:Nat->J):Nat->Nat->List J
 | _,0=>[]
 |i,m+1=>N i::nms N (i+1) m
theorem d3G(N:Nat->J):∀(a b i:Nat),nms N i (a+b)=nms N i a++nms N (i+a) b
 |0,b,i=>by rw[dq];rfl
 |a+1,b,i=>by rw[show a+1+b=(a+b)+1 by omega,nms,nms,d3G N a b,di,show i+1+a=i+(a+1)by omega]
mutual
def E5:O->List J->J->Prop
 | .mk k n w s,W,x=>(x∈w/\x∉W)\/F5 s (if QK k then n::W else W) x
def F5:List O->List J->J->Prop
 | [],_,_=>False
 |f::l,W,x=>E5 f W x\/F5 l W x
end
theorem oZ(f:O)(W:List J)(x:J):E5 f W x↔(x∈f.words/\x∉W)\/F5 f.subs (if QK f.kind then f.name::W else W) x:=by cases f;rw[E5];rfl
theorem Sw:∀ {l:List O} {W:List J} {x:J},F5 l W x↔ ∃f∈l,E5 f W x
 | [],W,x=>by simp[F5]
 |f::l,W,x=>by rw[F5,Sw];simp
mutual
theorem KA:∀(f:O)(W:List J)(x:J),E5 f W x->x∉W
 | .mk k n w s,W,x,h=>by
   rw[E5]at h;rcases h with h|h
   ·exact h.2
   ·have:=d3H s _ x h;split at this
    ·grind
    ·exact this
theorem d3H:∀(l:List O)(W:List J)(x:J),F5 l W x->x∉W
 | [],W,x,h=>by rw[F5]at h;exact h.elim
 |f::l,W,x,h=>by rw[F5]at h;exact h.elim (KA f W x) (d3H l W x)
end
mutual
theorem d3I(N:Nat->J)(si:J->Prop)(hN:∀i,¬si (N i)):∀(f:O) (env:List (J×J)) (i:Nat),(∀x,E5 f (env.map (·.1)) x->si x)->(∀p∈env,∃j,p.2=N j)->∀x,E5 (F8 N f env i) (env.map (·.2)) x↔E5 f (env.map (·.1)) x
 | .mk k n w s,env,i,hU,he,x=>by
   have key:∀y∈w,(sub env y∉env.map (·.2)↔y∉env.map (·.1))/\(y∉env.map (·.1)->sub env y=y):=fun y hy=>by
    by_cases H:y∈env.map (·.1)
    ·exact⟨⟨fun h=>absurd (d3E H) h,fun h=>absurd H h⟩,fun h=>absurd H h⟩
    ·have e:sub env y=y:=Sv fun p hp e=>H (bj.2 ⟨p,hp,e⟩);rw[e];refine⟨⟨fun _=>H,fun _ h=>?_⟩,fun _=>rfl⟩;have⟨p,hp,e2⟩:=bj.1 h;have⟨j,L⟩:=he p hp;exact hN j (by rw[<-L,e2];exact hU y (by rw[E5];exact .inl ⟨hy,H⟩))
   have hs:F5 (L4 N s (if QK k then(n,N i)::env else env) (i+if QK k then 1 else 0)) (if QK k then N i::env.map (·.2)else env.map (·.2)) x↔F5 s (if QK k then n::env.map (·.1)else env.map (·.1)) x:=by
    by_cases hq:QK k
    ·simp only[if_pos hq];exact Sy N si hN s ((n,N i)::env) (i+1) (fun y hy=>hU y (by rw[E5,if_pos hq];exact .inr hy)) (fun p hp=>by
      rcases ce.1 hp with rfl|hp
      ·exact⟨i,rfl⟩
      ·exact he p hp) x
    ·simp only[if_neg hq];exact Sy N si hN s env _ (fun y hy=>hU y (by rw[E5,if_neg hq];exact .inr hy)) he x
   rw[F8,E5,E5];have hn:(if QK k then(if QK k then N i else n)::env.map (·.2)else env.map (·.2))=(if QK k then N i::env.map (·.2)else env.map (·.2)):=by grind
   rw[hn,hs];refine or_congr_left ⟨fun h=>?_,fun h=>?_⟩
   ·grind
   ·grind
theorem Sy(N:Nat->J)(si:J->Prop)(hN:∀i,¬si (N i)):∀(l:List O) (env:List (J×J)) (i:Nat),(∀x,F5 l (env.map (·.1)) x->si x)->(∀p∈env,∃j,p.2=N j)->∀x,F5 (L4 N l env i) (env.map (·.2)) x↔F5 l (env.map (·.1)) x
 | [],env,i,_,_,x=>by rw[L4];simp[F5]
 |f::l,env,i,hU,he,x=>by rw[L4,F5,F5,d3I N si hN f env i (fun y hy=>hU y (by rw[F5];exact .inl hy)) he x,Sy N si hN l env _ (fun y hy=>hU y (by rw[F5];exact .inr hy)) he x]
end
theorem i6I(k:Int):Fe k=some (R2 k):=by
 by_cases U:k=1
 ·subst U;rfl
 by_cases X:k=2
 ·subst X;rfl
 by_cases h3:k=3
 ·subst h3;rfl
 by_cases h4:k=4
 ·subst h4;rfl
 by_cases h5:k=5
 ·subst h5;rfl
 by_cases h6:k=6
 ·subst h6;rfl
 by_cases h7:k=7
 ·subst h7;rfl
 by_cases h8:k=8
 ·subst h8;rfl
 by_cases h9:k=9
 ·subst h9;rfl
 simp[Fe,BM,BN,BO,R2,U,X,h3,h4,h5,h6,h7,h8,h9]
theorem nU(f:O):kj f=some (decide (QK f.kind)):=by unfold kj QK;by_cases h:f.kind=8<;>simp[h]
def nV(c:Int×Int)(b:Int)(r:F1×Int):Prop:=r.1.code=c.1/\(c.1=0->r=(⟨0,0⟩,c.2)/\b<=c.2/\c.2<=200)/\(c.1≠0->r.1=⟨c.1,c.2⟩)
theorem nV.bad{c b x:Int}{r:F1×Int}(K:c≠0)(hr:r.1=⟨c,x⟩):nV (c,x) b r:=⟨by rw[hr],fun h=>absurd h K,fun _=>hr⟩
theorem d3J(k:Int):R2 k<=2:=by unfold R2;repeat' split<;>omega
theorem d3K{f:O}(h:R2 f.kind<0):ay f=4:=by unfold ay;rw[if_pos h]
theorem d3L{f:O}(h0:¬R2 f.kind<0)(h:(f.subs.length:Int)≠R2 f.kind\/¬eM f.kind f.words.length):ay f=9:=by unfold ay;rw[if_neg h0,if_pos h]
theorem d3M{f:O}(h0:¬R2 f.kind<0)(U:¬((f.subs.length:Int)≠R2 f.kind\/¬eM f.kind f.words.length))(h:(f.kind=2\/QK f.kind)/\¬M0 f.name):ay f=10:=by unfold ay;rw[if_neg h0,if_neg U,if_pos h]
theorem d3N{f:O}(h0:¬R2 f.kind<0)(U:¬((f.subs.length:Int)≠R2 f.kind\/¬eM f.kind f.words.length))(X:¬((f.kind=2\/QK f.kind)/\¬M0 f.name))(h:¬(f.kind=2\/QK f.kind)/\f.name≠ []):ay f=5:=by unfold ay;rw[if_neg h0,if_neg U,if_neg X,if_pos h]
open Classical in
theorem d3O{f:O}(h0:¬R2 f.kind<0)(U:¬((f.subs.length:Int)≠R2 f.kind\/¬eM f.kind f.words.length))(X:¬((f.kind=2\/QK f.kind)/\¬M0 f.name))(h3:¬(¬(f.kind=2\/QK f.kind)/\f.name≠ [])):ay f=if ∃w∈f.words,¬M0 w then 10 else 0:=by unfold ay;rw[if_neg h0,if_neg U,if_neg X,if_neg h3]
theorem qV{s:J}{b:Bool}(h:b=nT s):b=true↔M0 s:=by rw[h];unfold nT;simp
theorem d3P{l:List J}(h:∀j,j<l.length->M0 (Am.get l j)):¬ ∃w∈l,¬M0 w:=fun⟨w,hw,hn⟩=>by obtain⟨j,L,rfl⟩:=U0.1 hw;exact hn (h j L)
theorem i6J:∀(m:Nat)(f:O),am f<=m->∀d b:Int,0<=d->d<=41->0<=b->b<=200->Z (fun n=>pe n f d b false) (nV (cH f d b) b):=by
 intro m;induction m with
 |zero=>exact z0
 |succ m ih=>
  intro f hf d b mq hd hb0 H;have hw1:wr .i64 (d+1)=d+1:=F9 M M;have sF:wr .i64 (b+1)=b+1:=F9 M M;refine Z.succ ?_;simp only[pe,sF,i6I,ax];rw[d3z];refine Z.cond (fun e=>?_) (fun e=>?_)
  ·replace e:=bx e;rw[if_pos M];exact Z.pure (nV.bad D5 rfl)
  replace e:=bx e;rw[if_neg M];have key:Z (fun n=>BP (pe n) b f d false (R2 f.kind)) (nV (if ay f=0 then dI f.subs (d+1) (b+1)else(ay f,b)) b):=by
   unfold BP;refine Z.cond (fun e=>?_) (fun e=>?_)
   ·replace e:=bx e;rw[d3K e,if_neg D5];exact Z.pure (nV.bad D5 rfl)
   replace e:=bx e;have e0:¬R2 f.kind<0:=by omega
   have k1:∀c:Bool,(c=true↔eM f.kind f.words.length)->Z (fun n=>yM (pe n) f (R2 f.kind) b d false c) (nV (if ay f=0 then dI f.subs (d+1) (b+1)else(ay f,b)) b):=by
    intro c K;unfold yM;refine Z.cond (fun e=>?_) (fun e=>?_)
    ·replace e:=bx e;rw[d3L e0 (by
      rcases e with e|e
      ·exact .inl e
      ·exact .inr fun h=>by rw[K.2 h]at e;cases e),if_neg D5]
     exact Z.pure (nV.bad D5 (by simp only[]))
    replace e:=bx e;have e1:¬((f.subs.length:Int)≠R2 f.kind\/¬eM f.kind f.words.length):=fun h=>h.elim (fun h=>h e.1) (fun h=>h (K.1 e.2));have RK:f.kind≠10:=fun h=>by rw[h]at e0;exact e0 D5
    simp only[nU];refine Z.bind (P:=fun v=>v=(!(decide (f.kind=2))&&decide (QK f.kind))) (Z.gd (fun g=>Z.pure (by replace g:=bx g;simp[g])) (fun g=>by replace g:=bx g;simp[g])) fun v5 KB=>?_;have hn:(bif bif decide (f.kind=2)then true else v5 then true else decide (f.kind=10))=decide (f.kind=2\/QK f.kind):=by grind
    rw[hn];refine Z.bind (P:=fun v=>(f.kind=2\/QK f.kind)->(v=true↔M0 f.name)) (Z.gd (fun g=>(Sk f.name).mono fun v Q _=>qV Q) (fun g h=>absurd h (by simpa using g))) fun v6 jk=>?_;refine Z.cond (fun e=>?_) (fun e=>?_)
    ·replace e:=bx e;rw[d3M e0 e1 ⟨e.1,fun h=>by rw[(jk e.1).2 h]at e;cases e.2⟩,if_neg D5];exact Z.pure (nV.bad D5 (by simp only[]))
    have e2:¬((f.kind=2\/QK f.kind)/\¬M0 f.name):=fun⟨U,X⟩=>by grind
    refine Z.cond (fun e=>?_) (fun e=>?_)
    ·replace e:=bx e;rw[d3N e0 e1 e2 ⟨by simpa using e.1,e.2⟩,if_neg D5];exact Z.pure (nV.bad D5 (by simp only[]))
    have e3:¬(¬(f.kind=2\/QK f.kind)/\f.name≠ []):=fun⟨U,X⟩=>by simp[U,X]at e
    have Fg:=d3O e0 e1 e2 e3;refine Z.B3 (Z.scan (fun k _=>∀j,j<k->M0 (Am.get f.words j)) (fun k r=>r.1=⟨10,b⟩/\∃w∈f.words,¬M0 w) (fun j L=>absurd L (co _)) (fun k C' S u=>?_)) (fun t F=>?_) (fun r hr=>?_)
    ·unfold Sz;refine Z.bind (Sk _) fun v Q=>Z.cond (fun e=>?_) (fun e=>Z.pure ?_)
     ·replace e:=bx e;exact Z.pure ⟨rfl,_,get_mem S,fun h=>by rw[(qV Q).2 h]at e;cases e⟩
     ·replace e:=bx e;intro j L;by_cases ej:j=k
      ·subst ej;exact(qV Q).1 e
      ·exact u j M
    ·have hall:=d3P F;rw[Fg,if_neg hall,if_pos rfl];unfold SC;rw[sF];have hsl:f.subs.length<=2:=by have:=d3J f.kind;have:(f.subs.length:Int)=R2 f.kind:=cp fun h=>e1 (.inl h);omega
     refine Z.B3 (Z.range (fun k c=>dI (f.subs.drop k) (d+1) c=dI f.subs (d+1) (b+1)/\b+1<=c/\c<=200) (fun _=>False) (fun r=>nV (dI f.subs (d+1) (b+1)) b r) ⟨rfl,by omega,by omega⟩ (fun k c S L=>?_)) (fun t F=>Z.pure ?_) (fun r hr=>hr)
     ·have⟨U,X,h3⟩:=L;unfold SD;have hsz:=W3 S;rw[hw1];rw[Sn S,dI]at U;refine Z.bind (ih _ M _ _ M M M h3) fun v Q=>Z.cond (fun e=>Z.pure ?_) (fun e=>Z.pure ?_)
      ·replace e:=bx e;rw[Q.1]at e;rw[if_neg e]at U;rw[<-U];exact⟨Q.1,fun h=>absurd h e,Q.2.2⟩
      ·replace e:=bx e;rw[Q.1]at e;rw[if_pos e]at U;have⟨hv1,hv2,W4⟩:=Q.2.1 e;rw[hv1];exact⟨U,by show b+1<=(cH _ _ _).2;omega,W4⟩
     ·have⟨U,X,h3⟩:=F.elim id gh;rw[lm,dI]at U;unfold SE at*
      rw[<-U];exact⟨rfl,fun _=>⟨rfl,by show b<=t;omega,h3⟩,fun h=>absurd rfl h⟩
    ·have⟨k,_,_,_,U,X⟩:=hr;rw[Fg,if_pos X,if_neg D5];exact nV.bad D5 U
   refine Z.cond (fun e=>k1 _ ?_) (fun e=>Z.cond (fun e2=>k1 _ ?_) (fun e2=>k1 _ ?_))
   ·replace e:=bx e;unfold eM;simp[e];omega
   ·replace e:=bx e;replace e2:=bx e2;unfold eM;simp[e2];omega
   ·replace e:=bx e;replace e2:=bx e2;unfold eM;simp[e,e2]
  refine Z.cond (fun e=>?_) (fun e=>key);simp at e
noncomputable def eN(f:O):F1:=if(cH f 1 0).1=0 then⟨0,0⟩else⟨(cH f 1 0).1,(cH f 1 0).2⟩
theorem nW(f:O):(eN f).code=0↔Y0 f:=by
 rw[<-d3D];unfold eN;split
 ·simp[*]
 ·simp[*]
theorem d3Q{f:O}(h:Y0 f):eN f=⟨0,0⟩:=by unfold eN;rw[if_pos ((d3D f).2 h)]
theorem SF(f:O):Z (fun n=>yN n f) (fun r=>r=eN f):=by
 unfold yN KC;simp only[zz,ax];refine Z.bind (i6J _ f (ae _) 1 0 M M M M) fun v Q=>Z.pure ?_;unfold eN;split
 ·rename_i h;rw[(Q.2.1 h).1]
 ·rename_i h;exact Q.2.2 h
theorem i6K(k:Int):Z (fun _=>Fh k) (fun r=>r=R2 k):=by
 unfold Fh;refine Z.cond (fun e=>Z.pure ?_) (fun e=>?_)
 ·replace e:=bx e;unfold R2;rw[if_neg M,if_neg M,if_neg M]
 ·replace e:=bx e;refine Z.w6 M (Z.pure ?_);have:k=1\/k=2\/k=3\/k=4\/k=5\/k=6\/k=7\/k=8\/k=9:=by omega
  rcases this with rfl|rfl|rfl|rfl|rfl|rfl|rfl|rfl|rfl<;>rfl
abbrev FA:=eK
def sH(d:Int)(f:O):FA:=⟨f,d⟩
abbrev sI:Nat->List FA×Int×Nat->Option (C1 F1 (List FA×Int×Nat) Unit):=fun n=>Fi n false
theorem SG(f:O):ay f=0->f.subs.length<=2:=fun h=>by have U:=(kg h).1;have:=d3J f.kind;omega
section
variable {rest:List FA} {f:O} {d c:Int} {st:List FA×Int×Nat}
theorem i6L(jd:Live st (rest++[⟨f,d⟩]) c)(mq:0<=d)(hd:d<=41)(hc0:0<=c)(K:c<=200)(hr:(rest.length:Int)<=2*c)(hs:f.subs.length<=2){BE:C1 F1 (List FA×Int×Nat) Unit->Prop}
 (q:∀st',Live st' (rest++f.subs.reverse.map (sH (d+1))) (c+1)->BE (.B7 st')):Z (fun n=>nX n st 0) BE:=by
 have hsp:=jd.sp
 have sJ:=jd.top
 have r0r:=jd.pop
 have KD:=jd.2.2
 have hw:wr .i64 ((st.2.2:Int)-1)=(rest.length:Int):=by rw[F9 M M];omega
 have sK:wr .i64 (d+1)=d+1:=F9 M M
 have hwc:wr .i64 (st.2.1+1)=c+1:=by rw[KD];exact F9 M M
 have pz:wr .i64 ((f.subs.length:Int)-1)=(f.subs.length:Int)-1:=F9 M M
 unfold nX
 refine Z.cond (fun e=>by simp at e) (fun _=>?_)
 simp only[hw,ai,sJ,pz]
 refine Z.B3 (P:=L2 (fun t=>t.1.take t.2=rest++f.subs.reverse.map (sH (d+1))/\t.2=(rest++f.subs.reverse.map (sH (d+1))).length) (fun _=>False))
  (Z.loop (fun s:List FA×Int×Nat=>(s.2.1+1).toNat) (fun s=> -1<=s.2.1/\s.2.1<f.subs.length/\s.1.take s.2.2=rest++(f.subs.drop (s.2.1+1).toNat).reverse.map (sH (d+1))/\s.2.2=(rest++(f.subs.drop (s.2.1+1).toNat).reverse.map (sH (d+1))).length) _ _ ?_ (fun s u=>?_)) (fun t F=>?_) (fun r hr=>hr.elim)
 ·refine⟨by show -1<=(f.subs.length:Int)-1;omega,by show(f.subs.length:Int)-1<_;omega,?_,?_⟩
  ·simp_all
  ·grind
 ·have⟨l,i,p⟩:=s;have⟨h0,U,X,h3⟩:=u;simp only at h0 U X h3;unfold SH;simp only[hw,ai,sJ,sK];refine Z.cond (fun e=>?_) (fun e=>?_)
  ·replace e:=bx e;have dx:i.toNat<f.subs.length:=by omega
   have hp:p<=l.length:=by grind
   refine Z.w6 ⟨e,U⟩ (Z.w6 hp (Z.B9 (Z.w6 ?_ (Z.pure ?_))))
   ·rw[X,Y7];simp only[aa,bc,z6,iv,an,cz];omega
   ·have hi1:wr .i64 (i-1)=i-1:=F9 M M;rw[hi1,X];have hd1:f.subs.drop (i-1+1).toNat=Am.get f.subs i.toNat::f.subs.drop (i+1).toNat:=by rw[show(i-1+1).toNat=i.toNat by omega,Sn dx,show(i+1).toNat=i.toNat+1 by omega]
    refine⟨⟨by show -1<=i-1;omega,by show i-1<_;omega,?_,?_⟩,by show(i-1+1).toNat<(i+1).toNat;omega⟩
    ·show JS _ _=_;rw[cj,hd1,Be,cm,bl];rfl
    ·simp_all
  ·replace e:=bx e;have u:i= -1:=by omega
   subst u;refine Z.pure ⟨?_,?_⟩
   ·simpa using X
   ·simpa using h3
 ·have⟨U,X⟩:=F;unfold SI;rw[hwc];exact Z.pure (q _ ⟨U,X,rfl⟩)
theorem SJ(jd:Live st (rest++[⟨f,d⟩]) c)(mq:0<=d)(hd:d<=41)(hc0:0<=c)(K:c<=200)(hr:(rest.length:Int)<=2*c){BE:C1 F1 (List FA×Int×Nat) Unit->Prop}
 (q1:200<c+1\/40<d->BE (.ret ⟨1,c⟩)) (q2:¬(200<c+1\/40<d)->ay f≠0->BE (.ret ⟨ay f,c⟩)) (q3:¬(200<c+1\/40<d)->ay f=0->∀st',Live st' (rest++f.subs.reverse.map (sH (d+1))) (c+1)->BE (.B7 st')):
 Z (fun n=>sI n st) BE:=by
 have hsp:=jd.sp
 have hle:=jd.le
 have sJ:=jd.top
 have KD:=jd.2.2
 have hw:wr .i64 ((st.2.2:Int)-1)=(rest.length:Int):=by rw[F9 M M];omega
 have BQ:∀x:Int,x≠0->BE (.ret ⟨x,c⟩)->Z (fun n=>nX n st x) BE:=fun x A h=>by unfold nX;refine Z.cond (fun e=>Z.pure (by rw[KD];exact h)) (fun e=>?_);simp[A]at e
 unfold sI Fi
 simp only[hw,ai,sJ]
 refine Z.cond (fun _=>?_) ab
 refine Z.w6 hle (Z.w6 M (Z.w6 M (Z.bind (i6K _) fun v Q=>?_)))
 subst Q
 refine Z.cond (fun e=>by simp at e) (fun _=>?_)
 have key:∀most least:Int,((f.words.length:Int)<least\/most<(f.words.length:Int)↔ ¬eM f.kind f.words.length)->Z (fun n=>BR n st (R2 f.kind) (most,least)) BE:=by
  intro most least sK;unfold BR;simp only[hw,ai,sJ,KD];refine Z.cond (fun e=>BQ 1 D5 (q1 (by replace e:=bx e;omega))) (fun e=>?_);replace e:=bx e;have hn:¬(200<c+1\/40<d):=by omega
  refine Z.cond (fun e=>?_) (fun e=>?_)
  ·replace e:=bx e;have h:=d3K e;exact BQ 4 D5 (by rw[<-h];exact q2 hn (by rw[h];decide))
  have e0:¬R2 f.kind<0:=by replace e:=bx e;omega
  refine Z.cond (fun e=>?_) (fun e=>?_)
  ·replace e:=bx e;have h:=d3L e0 (by
    rcases e with(e|e)|e
    ·exact .inl e
    ·exact .inr (sK.1 (.inl e))
    ·exact .inr (sK.1 (.inr e)))
   exact BQ 9 D5 (by rw[<-h];exact q2 hn (by rw[h];decide))
  replace e:=bx e;have e1:¬((f.subs.length:Int)≠R2 f.kind\/¬eM f.kind f.words.length):=fun h=>h.elim (fun h=>h e.1.1) (fun h=>by have:=sK.2 h;omega)
  have RK:f.kind≠10:=fun h=>by rw[h]at e0;exact e0 D5
  have hnm:(bif bif bif decide (f.kind=2)then true else decide (f.kind=8)then true else decide (f.kind=9)then true else decide (f.kind=10))=decide (f.kind=2\/QK f.kind):=by
   unfold QK;by_cases X:f.kind=2
   ·simp[X]
   ·grind
  rw[hnm];refine Z.bind (P:=fun v=>(f.kind=2\/QK f.kind)->(v=true↔M0 f.name)) (Z.gd (fun g=>(d3x f.name).mono fun v Q _=>qV Q) (fun g h=>absurd h (by simpa using g))) fun v6 jk=>?_;refine Z.cond (fun e=>?_) (fun e=>?_)
  ·replace e:=bx e;have h:=d3M e0 e1 ⟨e.1,fun h=>by rw[(jk e.1).2 h]at e;cases e.2⟩;exact BQ 10 D5 (by rw[<-h];exact q2 hn (by rw[h];decide))
  have e2:¬((f.kind=2\/QK f.kind)/\¬M0 f.name):=fun⟨U,X⟩=>by grind
  refine Z.cond (fun e=>?_) (fun e=>?_)
  ·replace e:=bx e;have h:=d3N e0 e1 e2 ⟨by simpa using e.1,e.2⟩;exact BQ 5 D5 (by rw[<-h];exact q2 hn (by rw[h];decide))
  have e3:¬(¬(f.kind=2\/QK f.kind)/\f.name≠ []):=fun⟨U,X⟩=>by simp[U,X]at e
  have Fg:=d3O e0 e1 e2 e3;refine Z.B3 (P:=L2 (fun t:Int=>t=ay f) (fun _=>False)) ((Z.range (fun k s=>(s=0/\∀j,j<k->M0 (Am.get f.words j))\/(s=10/\∃w∈f.words,¬M0 w)) (fun _=>False) (fun _=>False) (.inl ⟨rfl,fun j L=>absurd L (co _)⟩) (fun k s S u=>?_)).mono fun x A=>?_) (fun t F=>?_) (fun r hr=>hr.elim)
  ·unfold SK;simp only[hw,ai,sJ];refine Z.bind (d3x _) fun v Q=>Z.cond (fun e=>Z.pure (.inr ⟨rfl,_,get_mem S,fun h=>?_⟩)) (fun e=>Z.pure ?_)
   ·replace e:=bx e;rw[(qV Q).2 h]at e;cases e
   ·replace e:=bx e;rcases u with⟨U,X⟩|h
    ·refine .inl ⟨U,fun j L=>?_⟩;by_cases ej:j=k
     ·subst ej;exact(qV Q).1 e
     ·exact X j M
    ·exact .inr h
  ·cases x with
   |ret r=>exact A
   |B7 t=>
    rcases A.elim id gh with⟨U,X⟩|⟨U,X⟩
    ·show t=ay f;rw[Fg,if_neg (d3P X)];exact U
    ·show t=ay f;rw[Fg,if_pos X];exact U
  ·have F:t=ay f:=F;subst F;unfold SL;by_cases h0:ay f=0
   ·rw[h0];exact i6L jd mq hd hc0 K hr (SG f h0) (q3 hn h0)
   ·exact BQ _ h0 (q2 hn h0)
 unfold Fj
 simp only[hw,ai,sJ]
 refine Z.cond (fun e=>?_) (fun e=>?_)
 ·replace e:=bx e;unfold BS;simp only[hw,ai,sJ];refine Z.cond ab (fun e2=>key _ _ ?_);have vK:eM f.kind f.words.length↔f.words.length<=3:=by unfold eM;simp[e]
  rw[vK];omega
 ·replace e:=bx e;unfold BS;simp only[hw,ai,sJ];refine Z.cond (fun e2=>key _ _ ?_) (fun e2=>key _ _ ?_)
  ·replace e2:=bx e2;have vK:eM f.kind f.words.length↔f.words.length=2:=by unfold eM;simp[e2]
   rw[vK];omega
  ·replace e2:=bx e2;have vK:eM f.kind f.words.length↔f.words.length=0:=by unfold eM;simp[e,e2]
   rw[vK];omega
end
theorem i6N(f:O)(d b:Int)(h:(cH f d b).1=0):b<=(cH f d b).2/\(cH f d b).2<=200:=by have⟨_,X,h3,_⟩:=Ss f d b h;omega
theorem i6O:∀(m:Nat)(f:O),am f<=m->∀(rest:List FA)(d c:Int)(st:List FA×Int×Nat),Live st (rest++[⟨f,d⟩]) c->0<=d->d<=41->(rest.length:Int)<=2*c->0<=c->c<=200->
 ((cH f d c).1=0->∃st',Live st' rest (cH f d c).2/\gy sI st st')/\((cH f d c).1≠0->gX sI st (.ret ⟨(cH f d c).1,(cH f d c).2⟩)):=by
 intro m
 induction m with
 |zero=>exact z0
 |succ m ih=>
  intro f hf rest d c st jd mq hd hr hc0 K;rw[d3z];by_cases U:200<c+1\/40<d
  ·rw[if_pos U];exact⟨fun h=>absurd (show(1:Int)=0 from h) D5,fun _=>gX.ret (SJ jd mq hd hc0 K hr (fun _=>rfl) (fun h=>absurd U h) (fun h=>absurd U h))⟩
  rw[if_neg U];by_cases X:ay f=0
  ·rw[if_pos X];have parts:∀(l:List O),(∀x∈l,am x<=m)->∀(c:Int)(st:List FA×Int×Nat),Live st (rest++l.reverse.map (sH (d+1))) c->(rest.length:Int)+l.length<=2*c+1->0<=c->c<=200->
    ((dI l (d+1) c).1=0->∃st',Live st' rest (dI l (d+1) c).2/\gy sI st st')/\((dI l (d+1) c).1≠0->gX sI st (.ret ⟨(dI l (d+1) c).1,(dI l (d+1) c).2⟩)):=by
    intro l
    induction l with
    |nil=>intro _ c st hl _ _ _;rw[dI];refine⟨fun _=>⟨st,by simpa using hl,gy.refl⟩,fun h=>absurd rfl h⟩
    |cons x l ihl=>
     intro A c st hl hr hc0 K;have hl2:Live st ((rest++l.reverse.map (sH (d+1)))++[⟨x,d+1⟩]) c:=by rw[Be,cm, <-bl]at hl;exact hl
     simp only[an]at hr;have i0:=ih x (A x (az ..)) _ (d+1) c st hl2 M M (by simp only[aa,bc,z6];omega) hc0 K;rw[dI];by_cases h0:(cH x (d+1) c).1=0
     ·rw[if_pos h0];have hbd:=i6N x (d+1) c h0;have⟨st',iI,hst⟩:=i0.1 h0;have i1:=ihl (fun y hy=>A y (aw _ hy)) _ st' iI M M hbd.2;refine⟨fun h=>?_,fun h=>hst.ends (i1.2 h)⟩;have⟨oE,Fl,i6P⟩:=i1.1 h;exact⟨oE,Fl,hst.trans i6P⟩
     ·grind
   have hsz:∀x∈f.subs,am x<=m:=fun x A=>by obtain⟨j,L,rfl⟩:=U0.1 A;have:=W3 L;omega
   have V1:=SG f X;obtain⟨c1,⟨st',rfl,hl'⟩,hN⟩:=SJ (BE:=fun c'=>∃st',c'= .B7 st'/\Live st' (rest++f.subs.reverse.map (sH (d+1))) (c+1)) jd mq hd hc0 K hr (fun h=>absurd h U) (fun _ h=>absurd X h) (fun _ _ st' h=>⟨st',rfl,h⟩);have hstep:gy sI st st':=gy.one ⟨_,rfl,hN⟩;have ip:=parts f.subs hsz (c+1) st' hl' M M M;refine⟨fun h=>?_,fun h=>hstep.ends (ip.2 h)⟩;have⟨oE,h4,h5⟩:=ip.1 h;exact⟨oE,h4,hstep.trans h5⟩
  ·rw[if_neg X];exact⟨fun h=>absurd h X,fun _=>gX.ret (SJ (BE:=fun c'=>c'= .ret ⟨ay f,c⟩) jd mq hd hc0 K hr (fun h=>absurd h U) (fun _ _=>rfl) (fun _ h=>absurd h X))⟩
theorem SM(f:O):Z (fun n=>yO n f) (fun r=>r=eN f):=by
 unfold yO;refine Z.bind (P:=fun r=>r=eN f) ?_ fun v Q=>Z.pure Q;unfold KE;have h:=i6O _ f (ae _) [] 1 0 ([eK.mk f 1],0,1) ⟨rfl,rfl,rfl⟩ M M B5 M M;unfold eN;by_cases h0:(cH f 1 0).1=0
 ·rw[if_pos h0];have⟨st',hl,hst⟩:=h.1 h0;have hend:gX sI st' (.B7 ()):=gX.brk (by have:=hl.2.1;unfold sI Fi;refine Z.cond (fun e=>?_) (fun _=>Z.pure rfl);replace e:=bx e;have X:st'.2.2=0:=this;omega)
  exact Z.B3 (hst.ends hend).Ky (fun t F=>Z.pure rfl) (fun r hr=>by cases hr)
 ·rw[if_neg h0];exact Z.B3 (h.2 h0).Ky (fun t F=>by cases F) (fun r hr=>by cases hr;rfl)
theorem H8{α:Type}[Inhabited α]{l:List α}{k:Nat}(h:k<l.length):l.take (k+1)=l.take k++[Am.get l k]:=by rw[List.take_add_one,b7 h];simp[Am.get,h]
theorem qW(xs:List J)(body:List J×Int->Option (C1 ρ (List J×Int) (List J)))
 (H:∀s,body s=bif decide (s.2<(xs.length:Int))then w6 (0<=s.2/\s.2<(xs.length:Int)) <| Am.B9 (s.1++[Am.get xs s.2.toNat]) fun c=>w6 (c.length*16<=top/\c.length<=top) <| some (.B7 (c,wr .i64 (s.2+1)))else some (.brk s.1))
 (l0:List J) (h:l0.length+xs.length<=1000000):Z (fun n=>D9 body n (l0,0)) (L2 (fun t=>t=l0++xs) (fun _:ρ=>False)):=by
 refine Z.R5 xs.length (fun k s=>s=(l0++xs.take k,(k:Int))) _ _ B5 (fun k s S hs=>?_) (fun s hs=>?_)
 ·subst hs;rw[H];refine Z.cond (fun _=>Z.w6 M (Z.B9 (Z.w6 ?_ (Z.pure ?_)))) ab
  ·rw[Y7];simp only[aa,db,an,cz];omega
  ·show(_,_)=(_,_);rw[F9 M M,H8 S,bl];rfl
 ·subst hs;rw[H];refine Z.cond ab (fun _=>Z.pure ?_);show l0++xs.take xs.length=_;rw[cj]
abbrev IT:=L7
mutual
def D4:O->List J->Nat->List IT
 | .mk k n w s,ar,b=>⟨k,n,w,w.map (fun x=>decide (x∈ar)),((b+(1+B8 s):Nat):Int)⟩::O9 s (if QK k then n::ar else ar) (b+1)
def O9:List O->List J->Nat->List IT
 | [],_,_=>[]
 |x::l,ar,b=>D4 x ar b++O9 l ar (b+w9 x)
end
theorem yP(f:O)(ar:List J)(b:Nat):D4 f ar b=⟨f.kind,f.name,f.words,f.words.map (fun x=>decide (x∈ar)),((b+w9 f:Nat):Int)⟩::O9 f.subs (if QK f.kind then f.name::ar else ar) (b+1):=by cases f;rw[D4,w9];rfl
mutual
theorem dS:∀(f:O)(ar:List J)(b:Nat),(D4 f ar b).length=w9 f
 | .mk k n w s,ar,b=>by rw[D4,w9,an,qX s];omega
theorem qX:∀(l:List O)(ar:List J)(b:Nat),(O9 l ar b).length=B8 l
 | [],_,_=>by rw[O9,B8];rfl
 |x::l,ar,b=>by rw[O9,B8,aa,dS x,qX l]
end
theorem lC:∀(l:List O)(x:O),B8 (l++[x])=B8 l+w9 x
 | [],x=>by simp[B8]
 |a::l,x=>by rw[di,B8,B8,lC l x];omega
theorem d3R:∀(l m:List O),B8 (l++m)=B8 l+B8 m
 | [],m=>by simp[B8]
 |a::l,m=>by rw[di,B8,B8,d3R l m];omega
theorem Fm:∀(l:List O)(x:O)(ar:List J)(b:Nat),O9 (l++[x]) ar b=O9 l ar b++D4 x ar (b+B8 l)
 | [],x,ar,b=>by simp[O9,B8]
 |a::l,x,ar,b=>by rw[di,O9,O9,B8,Fm l x,bl,da]
theorem eO{l:List O}{k:Nat}(h:k<l.length):B8 (l.take k)+w9 (Am.get l k)<=B8 l:=by
 have e:l=(l.take k++[Am.get l k])++l.drop (k+1):=by rw[bl,r4, <-Sn h];exact(ew k l).symm
 have X:B8 l=B8 (l.take k)+w9 (Am.get l k)+B8 (l.drop (k+1)):=by
  conv=>lhs;rw[e]
  rw[d3R,lC]
 omega
theorem vL{f:O}(h:M1 f):f.words.length<=3:=by
 have X:=(kg ((dR f).1 h).1).2.1;unfold eM at X;split at X
 ·exact X
 ·split at X<;>omega
theorem vM{f:O}(h:M1 f){k:Nat}(S:k<f.subs.length):M1 (Am.get f.subs k):=lB.1 ((dR f).1 h).2 _ (get_mem S)
theorem Fo{f:O}(h:M1 f):f.subs.length<=2:=SG f ((dR f).1 h).1
theorem KF(ar:List J)(x:J)(body:Bool×Int->Option (C1 (C1 (List IT) (List Bool×Int) (List Bool)) (Bool×Int) Bool))(p q:Bool×Int->Prop)[∀s,Decidable (p s)][∀s,Decidable (q s)]
 (H:∀s,body s=bif decide (s.2<(ar.length:Int))then w6 (p s) <| w6 (q s) <| some (.B7 (bif s.1 then true else decide (Am.get ar s.2.toNat=x),wr .i64 (s.2+1)))else some (.brk s.1))
 (hp:∀s,0<=s.2->s.2<(ar.length:Int)->p s) (hq:∀s,q s) (h:ar.length<=1000000):Z (fun n=>D9 body n (false,0)) (L2 (fun t=>t=decide (x∈ar)) (fun _=>False)):=by
 refine Z.R5 ar.length (fun k s=>s=(decide (x∈ar.take k),(k:Int))) _ _ B5 (fun k s S hs=>?_) (fun s hs=>?_)
 ·subst hs;rw[H];refine Z.cond (fun _=>Z.w6 (hp _ B5 (by simpa using S)) (Z.w6 (hq _) (Z.pure ?_))) ab;show(_,_)=(_,_);rw[F9 M M,H8 S,ai];congr 1;by_cases U:x∈ar.take k
  ·simp[U]
  ·grind
 ·subst hs;rw[H];refine Z.cond ab (fun _=>Z.pure ?_);show decide (x∈ar.take ar.length)=_;rw[cj]
theorem KG(f:O)(ar:List J)(hw:f.words.length<=3)(_:ar.length<=1000000)(body:Nat->List Bool×Int->Option (C1 (List IT) (List Bool×Int) (List Bool)))(b2:List Bool×Int->Bool×Int->Option (C1 (C1 (List IT) (List Bool×Int) (List Bool)) (Bool×Int) Bool))
 (H:∀n s,body n s=bif decide (s.2<(f.words.length:Int))then B3 (D9 (b2 s) n (false,0)) (fun t=>Am.B9 (s.1++[t]) fun c=>w6 (c.length*1<=top/\c.length<=top) <| some (.B7 (c,wr .i64 (s.2+1))))else some (.brk s.1))
 (X:∀(s:List Bool×Int),0<=s.2->s.2<(f.words.length:Int)->Z (fun n=>D9 (b2 s) n (false,0)) (L2 (fun t=>t=decide (Am.get f.words s.2.toNat∈ar)) (fun _=>False))):
 Z (fun n=>D9 (body n) n ([],0)) (L2 (fun t=>t=f.words.map fun x=>decide (x∈ar)) (fun _=>False)):=by
 refine Z.R5 f.words.length (fun k s=>s=((f.words.take k).map (fun x=>decide (x∈ar)),(k:Int))) _ _ B5 (fun k s S hs=>?_) (fun s hs=>?_)
 ·subst hs;simp only[H];refine Z.cond (fun _=>Z.B3 (X _ B5 (by simpa using S)) (fun t F=>Z.B9 (Z.w6 ?_ (Z.pure ?_))) nofun) ab
  ·rw[Y7];simp only[aa,bc,db,an,cz];omega
  ·have F:t=decide (Am.get f.words k∈ar):=F;show(_,_)=(_,_);rw[F9 M M,H8 S,cm,F];rfl
 ·subst hs;simp only[H];refine Z.cond ab (fun _=>Z.pure ?_);show(f.words.take f.words.length).map _=_;rw[cj]
theorem KH[Inhabited α](l:List α)(x y:α)(m:List α):((l++[x])++m).set l.length y=l++y::m/\Am.get ((l++[x])++m) l.length=x:=by
 rw[bl];refine⟨?_,?_⟩
 ·grind
 ·unfold Am.get;rw[ac,c8 (ae _)];simp
theorem d3S:∀(m:Nat)(f:O),am f<=m->M1 f->∀(ar:List J)(l:List IT),l.length+w9 f<=100000->ar.length+w9 f<=100000->
 Z (fun n=>pA n f ar l) (fun r=>r=l++D4 f ar l.length):=by
 intro m
 induction m with
 |zero=>exact z0
 |succ m ih=>
  intro f hf hwf ar l hl ha;have hnd:=Y8 f;have dU:=vL hwf;refine Z.succ ?_;simp only[pA];refine Z.B3 (P:=L2 (fun t=>t=f.words.map fun x=>decide (x∈ar)) (fun _=>False)) ?_ (fun t F=>?_) nofun
  ·refine KG f ar dU M (fun n=>KI n f ar) (fun s=>KJ ar s f) (fun n s=>rfl) (fun s hs0 aK=>?_);refine KF ar (Am.get f.words s.2.toNat) _ (fun s2=>L1 (!s2.1) (0<=s2.2)/\L1 (!s2.1) (s2.2<(ar.length:Int))) (fun s2=>L1 (!s2.1) (0<=s.2)/\L1 (!s2.1) (s.2<(f.words.length:Int))) (fun s2=>rfl) (fun s2 U X=>⟨fun _=>U,fun _=>X⟩) (fun _=>⟨fun _=>hs0,fun _=>aK⟩) M
  ·have F:t=_:=F;subst F;unfold KL;refine Z.B9 (Z.w6 ?_ ?_)
   ·rw[Y7];simp only[aa,an,cz];omega
   have key:∀P2:List J,P2=(if QK f.kind then f.name::ar else ar)->Z (fun n=>vN (pA n) n f (l++[⟨f.kind,f.name,f.words,f.words.map fun x=>decide (x∈ar),0⟩]) l P2) (fun r=>r=l++D4 f ar l.length):=by
    intro P2 har;have hal:P2.length<=ar.length+1:=by rw[har];split<;>simp
    unfold vN;have hsl2:=Fo hwf;refine Z.B3 (Z.R5 f.subs.length (fun k s=>s=((l++[⟨f.kind,f.name,f.words,f.words.map fun x=>decide (x∈ar),0⟩])++O9 (f.subs.take k) P2 (l.length+1),(k:Int))) (fun t=>t=(l++[⟨f.kind,f.name,f.words,f.words.map fun x=>decide (x∈ar),0⟩])++O9 f.subs P2 (l.length+1)) (fun _=>False) (by simp[O9]) (fun k s S hs=>?_) (fun s hs=>?_)) (fun t F=>?_) nofun
    ·subst hs;unfold BT;have hsz:=W3 S;have F:=eO S;have hrl:=qX (f.subs.take k) P2 (l.length+1);refine Z.cond (fun _=>Z.w6 (by simp;omega) (Z.bind (ih _ (by simp only[ai];omega) (vM hwf (by simpa using S)) P2 _ ?_ ?_) fun v Q=>Z.pure ?_)) ab
     ·grind
     ·grind
     ·subst Q;show(_,_)=(_,_);rw[F9 M M,H8 S,Fm,ai,bl];simp only[aa,an,cz,hrl];rfl
    ·subst hs;unfold BT;refine Z.cond ab (fun _=>Z.pure ?_);show _++O9 (f.subs.take f.subs.length) P2 _=_;rw[cj]
    ·have F:t=_:=F;subst F;unfold KM;refine Z.w6 (by simp only[aa,an,cz];omega) (Z.B9 (Z.pure ?_));have⟨U,X⟩:=KH l (⟨f.kind,f.name,f.words,f.words.map fun x=>decide (x∈ar),0⟩:IT) ⟨f.kind,f.name,f.words,f.words.map fun x=>decide (x∈ar),((l.length+w9 f:Nat):Int)⟩ (O9 f.subs P2 (l.length+1));rw[X,yP, <-har, <-U];congr 2;simp only[aa,an,cz,qX];omega
   refine Z.cond (fun e=>?_) (fun e=>key ar ?_)
   ·have hq:QK f.kind:=by
     unfold QK;by_cases h8:f.kind=8
     ·exact .inl h8
     ·simpa[h8]using e
    refine Z.B3 (qW ar (KN ar) (fun s=>rfl) [f.name] (by simp;omega)) (fun t F=>?_) nofun
    have F:t=_:=F
    subst F
    exact key _ (by rw[if_pos hq];rfl)
   ·rw[if_neg];unfold QK;by_cases h8:f.kind=8
    ·simp[h8]at e
    ·simpa[h8]using e
theorem vO{f:O}(hwf:M1 f)(ar:List J)(hl:w9 f<=50000)(ha:ar.length<=50000):Z (fun n=>kl n f ar) (fun r=>r=D4 f ar 0):=by
 have h:=(d3S _ f (ae _) hwf ar [] (by simp;omega) M).mono (P':=fun r=>r=D4 f ar 0) fun r hr=>by simpa using hr
 have hnd:=Y8 f;have dU:=vL hwf;unfold kl;refine Z.B3 (P:=L2 (fun t=>t=f.words.map fun x=>decide (x∈ar)) (fun _=>False)) ?_ (fun t F=>?_) nofun
 ·refine KG f ar dU M (fun n=>KO n f ar) (fun s=>KP ar s f) (fun n s=>rfl) (fun s hs0 aK=>?_);refine KF ar (Am.get f.words s.2.toNat) _ (fun s2=>L1 (!s2.1) (0<=s2.2)/\L1 (!s2.1) (s2.2<(ar.length:Int))) (fun s2=>L1 (!s2.1) (0<=s.2)/\L1 (!s2.1) (s.2<(f.words.length:Int))) (fun s2=>rfl) (fun s2 U X=>⟨fun _=>U,fun _=>X⟩) (fun _=>⟨fun _=>hs0,fun _=>aK⟩) M
 ·have F:t=_:=F;subst F;unfold KQ;refine Z.B9 (Z.w6 (by simp[Y7]) ?_);have key:∀P2:List J,P2=(if QK f.kind then f.name::ar else ar)->Z (fun n=>vP n f [⟨f.kind,f.name,f.words,f.words.map fun x=>decide (x∈ar),0⟩] P2) (fun r=>r=D4 f ar 0):=by
   intro P2 har;have hal:P2.length<=ar.length+1:=by rw[har];split<;>simp
   unfold vP;have hsl2:=Fo hwf;refine Z.B3 (Z.R5 f.subs.length (fun k s=>s=([⟨f.kind,f.name,f.words,f.words.map fun x=>decide (x∈ar),0⟩]++O9 (f.subs.take k) P2 1,(k:Int))) (fun t=>t=[⟨f.kind,f.name,f.words,f.words.map fun x=>decide (x∈ar),0⟩]++O9 f.subs P2 1) (fun _=>False) (by simp[O9]) (fun k s S hs=>?_) (fun s hs=>?_)) (fun t F=>?_) nofun
   ·subst hs;unfold BU;have F:=eO S;have hrl:=qX (f.subs.take k) P2 1;refine Z.cond (fun _=>Z.w6 (by simp;omega) (Z.bind (d3S _ _ (ae _) (vM hwf (by simpa using S)) P2 _ ?_ ?_) fun v Q=>Z.pure ?_)) ab
    ·grind
    ·grind
    ·subst Q;show(_,_)=(_,_);rw[F9 M M,H8 S,Fm,ai,bl];simp only[aa,an,cz,hrl];rfl
   ·subst hs;unfold BU;refine Z.cond ab (fun _=>Z.pure ?_);show _++O9 (f.subs.take f.subs.length) P2 _=_;rw[cj]
   ·have F:t=_:=F;subst F;unfold KR;refine Z.w6 (by simp only[aa,an,cz];omega) (Z.B9 (Z.pure ?_));have⟨U,X⟩:=KH [] (⟨f.kind,f.name,f.words,f.words.map fun x=>decide (x∈ar),0⟩:IT) ⟨f.kind,f.name,f.words,f.words.map fun x=>decide (x∈ar),((0+w9 f:Nat):Int)⟩ (O9 f.subs P2 1);simp only[fw,cz]at U X;rw[X,yP, <-har, <-U];congr 2;simp only[aa,an,cz,qX];omega
  refine Z.cond (fun e=>?_) (fun e=>key ar ?_)
  ·have hq:QK f.kind:=by
    unfold QK;by_cases h8:f.kind=8
    ·exact .inl h8
    ·simpa[h8]using e
   refine Z.B3 (qW ar (KS ar) (fun s=>rfl) [f.name] (by simp;omega)) (fun t F=>?_) nofun
   have F:t=_:=F
   subst F
   exact key _ (by rw[if_pos hq];rfl)
  ·rw[if_neg];unfold QK;by_cases h8:f.kind=8
   ·simp[h8]at e
   ·simpa[h8]using e
theorem i6Q(l:List J)(x:J):Z (fun _=>cW l x) (fun r=>r=decide (x∈l)):=by
 unfold cW KT;refine Z.bind (P:=fun r=>0<=r↔x∈l) (Z.B3 (Z.scan (fun k _=>∀j,j<k->Am.get l j≠x) (fun k r=>r=(k:Int)/\Am.get l k=x) (fun j L=>absurd L (co _)) (fun k C' S u=>?_)) (fun t F=>?_) (fun r hr=>?_)) fun v Q=>Z.pure ?_
 ·unfold SN;refine Z.cond (fun e=>Z.pure ?_) (fun e=>Z.pure ?_)
  ·replace e:=bx e;exact⟨rfl,e.symm⟩
  ·replace e:=bx e;intro j L;by_cases ej:j=k
   ·grind
   ·exact u j M
 ·unfold SQ;refine Z.pure ⟨fun h=>absurd h D5,fun h=>?_⟩;have⟨j,L,e⟩:=U0.1 h;exact absurd e (F j L)
 ·obtain⟨k,_,S,_,rfl,e⟩:=hr;exact⟨fun _=>U0.2 ⟨k,S,e⟩,fun _=>by omega⟩
 ·grind
theorem jl(l:List J)(x:J):cW l x=some (decide (x∈l)):=by obtain⟨r,rfl,N,hN⟩:=i6Q l x;exact hN N (ae _)
theorem d3T{zs:List J}{x:J}:x∈la zs↔x∈zs:=by
 unfold la Lib.compactUpTo;rw[bj];have hg:∀j,j<zs.length->zs.toArray[j]! =Am.get zs j:=fun j L=>by simp[Am.get,L]
 constructor
 ·grind
 ·intro h;obtain⟨j,L,rfl⟩:=U0.1 h;have key:∀j,j<zs.length->∃a,a∈(List.range zs.length).filter (Do zs.toArray)/\zs.toArray[a]! =Am.get zs j:=by
   intro j;induction j with
   |zero=>intro L;exact⟨0,List.mem_filter.2 ⟨List.mem_range.2 L,Lib.keeps_lt_one _ 0 M⟩,hg 0 L⟩
   |succ j ih=>
    intro L;by_cases S:Do zs.toArray (j+1)=true
    ·grind
    ·have⟨a,U,X⟩:=ih M;refine⟨a,U,X.trans ?_⟩;unfold Do at S;simp only[decide_eq_true_eq,not_or,Decidable.not_not,ne_eq]at S;have:=S.2;rw[hg _ L,Nat.add_sub_cancel,hg j M]at this;exact this.symm
  exact key j L
mutual
theorem i6R:∀(f:O)(W I8:List J),(∀y,y∈W↔y∈I8)->∀x,E5 f W x↔E5 f I8 x
 | .mk k n w s,W,I8,h,x=>by
   rw[E5,E5,h x,Fp s _ _ (fun y=>?_) x];split
   ·simp[h y]
   ·exact h y
theorem Fp:∀(l:List O)(W I8:List J),(∀y,y∈W↔y∈I8)->∀x,F5 l W x↔F5 l I8 x
 | [],W,I8,h,x=>by rw[F5,F5]
 |f::l,W,I8,h,x=>by rw[F5,F5,i6R f W I8 h x,Fp l W I8 h x]
end
theorem SR(l:List O)(f:O)(W:List J)(x:J):F5 (l++[f]) W x↔F5 l W x\/E5 f W x:=by
 rw[Sw,Sw];constructor
 ·grind
 ·grind
theorem i6S:∀(m:Nat)(f:O),am f<=m->M1 f->∀(W l:List J),W.length+w9 f<=100000->l.length+3*w9 f<=300000->
 Z (fun n=>pB n f W l) (fun r=>(∀x,x∈r↔x∈l\/E5 f W x)/\r.length<=l.length+3*w9 f):=by
 intro m
 induction m with
 |zero=>exact z0
 |succ m ih=>
  intro f hf hwf W l hbd hl;have hnd:=Y8 f;have dU:=vL hwf;refine Z.succ ?_;simp only[pB];refine Z.B3 (P:=L2 (fun t=>(∀x,x∈t↔x∈l\/(x∈f.words/\x∉W))/\t.length<=l.length+3) (fun _=>False)) ((Z.range (fun k s=>(∀x,x∈s↔x∈l\/(x∈f.words.take k/\x∉W))/\s.length<=l.length+k) (fun _=>False) (fun _=>False) ⟨fun x=>by simp,by omega⟩ (fun k s S u=>?_)).mono fun e he=>?_) (fun t F=>?_) nofun
  ·unfold KU;simp only[jl,ax];refine Z.cond (fun e=>Z.B9 (Z.w6 ?_ (Z.pure ⟨fun x=>?_,?_⟩))) (fun e=>Z.pure ⟨fun x=>?_,by omega⟩)
   ·exact lT
   ·replace e:=bx e;rw[al,u.1 x,H8 S,al,ao];by_cases A:x=Am.get f.words k
    ·subst A;simp[e]
    ·simp[A]
   ·grind
   ·replace e:=bx e;rw[u.1 x,H8 S,al,ao];by_cases A:x=Am.get f.words k
    ·subst A;simp[e]
    ·simp[A]
  ·cases e with
   |ret r=>exact he
   |B7 t=>have⟨U,X⟩:=he.elim id gh;rw[cj]at U;exact⟨U,by omega⟩
  ·have⟨U,X⟩:=F;have key:∀I8:List J,(∀y,y∈I8↔y∈(if QK f.kind then f.name::W else W))->I8.length<=W.length+1->Z (fun n=>vQ (pB n) f t I8) (fun r=>(∀x,x∈r↔x∈l\/E5 f W x)/\r.length<=l.length+3*w9 f):=by
    intro I8 H mQ;unfold vQ;refine Z.B3 (P:=L2 (fun r=>(∀x,x∈r↔x∈t\/F5 f.subs I8 x)/\r.length<=t.length+3*B8 f.subs) (fun _=>False)) ((Z.range (fun k s=>(∀x,x∈s↔x∈t\/F5 (f.subs.take k) I8 x)/\s.length<=t.length+3*B8 (f.subs.take k)) (fun _=>False) (fun _=>False) ⟨fun x=>by simp[F5],by omega⟩ (fun k s S u=>?_)).mono fun e he=>?_) (fun r hr=>?_) nofun
    ·unfold KV;have hsz:=W3 S;have fD:=eO S;refine Z.bind (ih _ M (vM hwf S) I8 s M M) fun v Q=>Z.pure ⟨fun x=>?_,?_⟩
     ·rw[Q.1 x,u.1 x,H8 S,SR,or_assoc]
     ·rw[H8 S,lC];have:=Q.2;have:=u.2;omega
    ·grind
    ·have⟨h3,h4⟩:=hr;unfold KW;refine Z.pure ⟨fun x=>?_,by omega⟩;rw[h3 x,U x,oZ,Fp f.subs _ _ H x,or_assoc]
   unfold KX;simp only[nU,ax];refine Z.cond (fun e=>Z.w6 M (Z.B9 (Z.w6 ?_ (key _ (fun y=>?_) ?_)))) (fun e=>key _ (fun y=>?_) M)
   ·exact lT
   ·grind
   ·simp
   ·grind
theorem i6T{f:O}(hwf:M1 f)(hn:w9 f<=50000):Z (fun n=>vR n f) (fun r=>(∀x,x∈r↔E5 f [] x)/\r.length<=3*w9 f):=by
 unfold vR;refine Z.bind (i6S _ f (ae _) hwf [] [] (by simp;omega) (by simp;omega)) fun v Q=>?_;have⟨U,X⟩:=Q;simp only[cz,dq]at X;unfold yQ Fq;have hlen:(cw jf v).length=v.length:=(oV jf v).length_eq;refine Z.bind (Z.w6 M (Z.pure (P:=fun r=>r=cw jf v) rfl)) fun r hr=>?_;subst hr;refine Z.bind (Z.w6 M (Z.pure (P:=fun r=>True) trivial)) fun _ _=>Z.pure ⟨fun x=>?_,?_⟩
 ·rw[d3T,(oV jf v).mem_iff,U x];simp
 ·have:=n9 (cw jf v);omega
theorem Ft:∀(m:Nat)(f:O),am f<=m->w9 f<=100000->Z (fun n=>ko n f) (fun r=>r=qs f):=by
 intro m;induction m with
 |zero=>exact z0
 |succ m ih=>
  intro f hf hn;have hnd:=Y8 f;refine Z.succ ?_;simp only[ko,nU,ax];have i6U:∀(l:List O)(x:O),J6 (l++[x])=J6 l++qs x:=fun l x=>by
   induction l with
   |nil=>simp[J6]
   |cons a l ih=>rw[di,J6,J6,ih,bl]
  have key:∀l0:List J,l0=(if QK f.kind then [f.name]else [])->Z (fun n=>BW (ko n) f l0) (fun r=>r=qs f):=by
   intro l0 h0;have H6:l0.length<=1:=by rw[h0];split<;>simp
   unfold BW;refine Z.B3 (P:=L2 (fun t=>t=l0++J6 f.subs) (fun _=>False)) ((Z.range (fun k s=>s=l0++J6 (f.subs.take k)) (fun _=>False) (fun _=>False) (by simp[J6]) (fun k s S u=>?_)).mono fun e he=>?_) (fun t F=>?_) nofun
   ·subst u;unfold SS;have hsz:=W3 S;have fD:=eO S;refine Z.bind (ih _ M M) fun v Q=>Z.B9 (Z.w6 ?_ (Z.pure ?_))
    ·subst Q;have U:=Sq (f.subs.take k);have X:=ji (Am.get f.subs k);have h3:=Sr (f.subs.take k);have h4:=jj (Am.get f.subs k);rw[Y7];simp only[aa];omega
    ·subst Q;show _=_;rw[H8 S,i6U,bl]
   ·grind
   ·have F:t=_:=F;subst F;unfold SV;refine Z.pure ?_;rw[dH, <-h0]
  refine Z.cond (fun e=>Z.B9 (Z.w6 (by simp[Y7]) (key _ ?_))) (fun e=>key _ ?_)
  ·grind
  ·grind
mutual
def D2:O->List O
 | .mk k n w s=>.mk k n w s::M4 s
def M4:List O->List O
 | []=>[]
 |x::l=>D2 x++M4 l
end
theorem pC(f:O):D2 f=f::M4 f.subs:=by cases f;rw[D2];rfl
mutual
theorem gD:∀f:O,(D2 f).length=w9 f
 | .mk k n w s=>by rw[D2,w9,an,SX s];omega
theorem SX:∀l:List O,(M4 l).length=B8 l
 | []=>by rw[M4,B8];rfl
 |x::l=>by rw[M4,B8,aa,gD x,SX l]
end
def BX(b:Nat)(g:O)(it:IT):Prop:=it.kind=g.kind/\it.name=g.name/\it.words=g.words/\it.end_=((b+w9 g:Nat):Int)/\it.bound.length=g.words.length
mutual
theorem vS:∀(f:O)(ar:List J)(b j:Nat),j<w9 f->BX (b+j) (Am.get (D2 f) j) (Am.get (D4 f ar b) j)
 | .mk k n w s,ar,b,0,_=>by
   rw[D4,D2];refine⟨rfl,rfl,rfl,?_,?_⟩
   ·show((b+(1+B8 s):Nat):Int)=_;show _=((b+0+w9 (.mk k n w s):Nat):Int);rw[w9];rfl
   ·show(w.map _).length=w.length;simp
 | .mk k n w s,ar,b,j+1,h=>by
   rw[D4,D2];rw[w9]at h;have:=d3U s (if QK k then n::ar else ar) (b+1) j M
   rw[show b+(j+1)=b+1+j by omega];exact this
theorem d3U:∀(l:List O)(ar:List J)(b j:Nat),j<B8 l->BX (b+j) (Am.get (M4 l) j) (Am.get (O9 l ar b) j)
 | [],ar,b,j,h=>by rw[B8]at h;omega
 |x::l,ar,b,j,h=>by
  rw[B8]at h;rw[O9,M4];by_cases L:j<w9 x
  ·have:=vS x ar b j L;have e1:Am.get (D2 x++M4 l) j=Am.get (D2 x) j:=by unfold Am.get;rw[ac,ac,cy (by rw[gD];exact L)]
   have e2:Am.get (D4 x ar b++O9 l ar (b+w9 x)) j=Am.get (D4 x ar b) j:=by unfold Am.get;rw[ac,ac,cy (by rw[dS];exact L)]
   rw[e1,e2];exact this
  ·have:=d3U l ar (b+w9 x) (j-w9 x) M;have e1:Am.get (D2 x++M4 l) j=Am.get (M4 l) (j-w9 x):=by unfold Am.get;rw[ac,ac,c8 (by rw[gD];omega),gD]
   have e2:Am.get (D4 x ar b++O9 l ar (b+w9 x)) j=Am.get (O9 l ar (b+w9 x)) (j-w9 x):=by unfold Am.get;rw[ac,ac,c8 (by rw[dS];omega),dS]
   rw[e1,e2,show b+j=b+w9 x+(j-w9 x)by omega];exact this
end
theorem Fu:∀(l:List O)(x:O),M4 (l++[x])=M4 l++D2 x
 | [],x=>by simp[M4]
 |a::l,x=>by rw[di,M4,M4,Fu l x,bl]
def W8(l:List O)(x:J):Prop:=∃g∈l,g.kind=2/\g.name=x/\0<g.words.length
def V6(l:List O)(x:J):Prop:=∃g∈l,g.kind=2/\g.name=x/\g.words.length=0
theorem W8.app{l m:List O}{x:J}:W8 (l++m) x↔W8 l x\/W8 m x:=by
 unfold W8;constructor
 ·grind
 ·grind
theorem V6.app{l m:List O}{x:J}:V6 (l++m) x↔V6 l x\/V6 m x:=by
 unfold V6;constructor
 ·grind
 ·grind
theorem W8.one{g:O}{x:J}:W8 [g] x↔g.kind=2/\g.name=x/\0<g.words.length:=by unfold W8;simp
theorem V6.one{g:O}{x:J}:V6 [g] x↔g.kind=2/\g.name=x/\g.words.length=0:=by unfold V6;simp
theorem i6V:∀(m:Nat)(f:O),am f<=m->∀x,Z (fun n=>sL n f x) (fun r=>(r.1=true↔W8 (D2 f) x)/\(r.2=true↔V6 (D2 f) x)):=by
 intro m;induction m with
 |zero=>exact z0
 |succ m ih=>
  intro f hf x;refine Z.succ ?_;simp only[sL];have key:∀j:Bool×Bool,(j.1=true↔W8 [f] x)->(j.2=true↔V6 [f] x)->Z (fun n=>BZ (sL n) f x j) (fun r=>(r.1=true↔W8 (D2 f) x)/\(r.2=true↔V6 (D2 f) x)):=by
   intro j U X;unfold BZ;refine Z.B3 (P:=L2 (fun s:Bool×Bool=>(s.1=true↔W8 (f::M4 f.subs) x)/\(s.2=true↔V6 (f::M4 f.subs) x)) (fun _=>False)) ((Z.range (fun k s=>(s.1=true↔W8 ([f]++M4 (f.subs.take k)) x)/\(s.2=true↔V6 ([f]++M4 (f.subs.take k)) x)) (fun _=>False) (fun _=>False) ⟨by simpa[M4]using U,by simpa[M4]using X⟩ (fun k s S u=>?_)).mono fun e he=>?_) (fun t F=>?_) nofun
   ·unfold SY;have hsz:=W3 S;refine Z.bind (ih _ M x) fun v Q=>Z.pure ⟨?_,?_⟩
    ·rw[H8 S,Fu, <-bl,W8.app, <-Q.1, <-u.1];cases s.1<;>simp
    ·rw[H8 S,Fu, <-bl,V6.app, <-Q.2, <-u.2];cases s.2<;>simp
   ·grind
   ·unfold SZ;refine Z.pure ?_;rw[pC];exact F
  refine Z.cond (fun e=>key _ ?_ ?_) (fun e=>key _ ?_ ?_)
  ·replace e:=bx e;rw[W8.one];simp[e.1,e.2]
  ·replace e:=bx e;rw[V6.one];simp[e.1,e.2]
  ·rw[W8.one];refine⟨fun h=>(by cases h),fun h=>?_⟩;simp[h.1,h.2.1]at e
  ·rw[V6.one];refine⟨fun h=>(by cases h),fun h=>?_⟩;simp[h.1,h.2.1]at e
def cX(l:List IT)(x:J):Prop:=∃it∈l,∃m,m<it.words.length/\Am.get it.words m=x/\Am.get it.bound m=false
theorem cX.app{l m:List IT}{x:J}:cX (l++m) x↔cX l x\/cX m x:=by
 unfold cX;constructor
 ·grind
 ·grind
theorem cX.cons{a:IT}{l:List IT}{x:J}:cX (a::l) x↔cX [a] x\/cX l x:=by rw[<-cX.app];rfl
theorem cX.nil{x:J}:¬cX [] x:=fun⟨_,h,_⟩=>by cases h
theorem get_map{β:Type}[Inhabited α][Inhabited β](g:α->β){l:List α}{k:Nat}(h:k<l.length):Am.get (l.map g) k=g (Am.get l k):=by unfold Am.get;rw[ac,ac,List.getElem?_map,b7 h];rfl
mutual
theorem d3V:∀(f:O)(ar:List J)(b:Nat)(x:J),cX (D4 f ar b) x↔E5 f ar x
 | .mk k n w s,ar,b,x=>by
   rw[D4,cX.cons,E5,d3W s];refine or_congr_left ?_;constructor
   ·rintro⟨it,hit,m,U,X,h3⟩;rw[ao]at hit;subst hit;have U:m<w.length:=U;have X:Am.get w m=x:=X;have h3:Am.get (w.map fun x=>decide (x∈ar)) m=false:=h3;rw[get_map _ U,X]at h3;exact⟨U0.2 ⟨m,U,X⟩,of_decide_eq_false h3⟩
   ·rintro⟨U,X⟩;have⟨m,h3,h4⟩:=U0.1 U;refine⟨_,ao.2 rfl,m,h3,h4,?_⟩;show Am.get (w.map fun x=>decide (x∈ar)) m=false;rw[get_map _ h3,h4];exact decide_eq_false X
theorem d3W:∀(l:List O)(ar:List J)(b:Nat)(x:J),cX (O9 l ar b) x↔F5 l ar x
 | [],ar,b,x=>by rw[O9,F5];exact⟨fun h=>cX.nil h,gh⟩
 |f::l,ar,b,x=>by rw[O9,F5,cX.app,d3V f,d3W l]
end
def T7(l:List IT):List J:=l.flatMap fun it=>if QK it.kind then [it.name]else []
mutual
theorem KY:∀(f:O)(ar:List J)(b:Nat),T7 (D4 f ar b)=qs f
 | .mk k n w s,ar,b=>by
   rw[D4,qs];show(if QK k then [n]else [])++T7 _=_
   rw[d3X s]
theorem d3X:∀(l:List O)(ar:List J)(b:Nat),T7 (O9 l ar b)=J6 l
 | [],ar,b=>by rw[O9,J6];rfl
 |f::l,ar,b=>by rw[O9,J6, <-KY f ar b, <-d3X l ar (b+w9 f)];exact kn
end
theorem d3Y(l:List J)(x:J)(body:Int->Option (C1 Int Int Unit))(H:∀s,body s=bif decide (s<(l.length:Int))then w6 (0<=s/\s<(l.length:Int)) <| bif decide (Am.get l s.toNat=x)then some (.ret s)else some (.B7 (wr .i64 (s+1)))else some (.brk ()))
 (hl:l.length<=8000000) (k:Unit->Option Int) (S:k ()=some (-1)):Z (fun n=>B3 (D9 body n 0) k) (fun r=>(x∉l/\r= -1)\/∃j,j<l.length/\Am.get l j=x/\(∀i,i<j->Am.get l i≠x)/\r=(j:Int)):=by
 refine Z.B3 (Z.R5 l.length (fun k s=>s=(k:Int)/\∀i,i<k->Am.get l i≠x) (fun _=>x∉l) (fun r=>∃j,j<l.length/\Am.get l j=x/\(∀i,i<j->Am.get l i≠x)/\r=(j:Int)) ⟨rfl,fun i u=>absurd u (co _)⟩ (fun k s S hs=>?_) (fun s hs=>?_)) (fun t F=>?_) (fun r hr=>.inr hr)
 ·obtain⟨rfl,hs⟩:=hs;rw[H];refine Z.cond (fun _=>Z.w6 M (Z.cond (fun e=>Z.pure ?_) (fun e=>Z.pure ?_))) ab
  ·replace e:=bx e;exact⟨k,S,by simpa using e,hs,rfl⟩
  ·replace e:=bx e;rw[F9 M M];refine⟨rfl,fun i u=>?_⟩;by_cases ei:i=k
   ·subst ei;simpa using e
   ·exact hs i M
 ·obtain⟨rfl,hs⟩:=hs;rw[H];refine Z.cond ab (fun _=>Z.pure fun h=>?_);have⟨j,L,e⟩:=U0.1 h;exact hs j L e
 ·rw[S];exact Z.pure (.inl ⟨F,rfl⟩)
def pD(l:List J)(x:J)(r:Int):Prop:=(x∉l/\r= -1)\/∃j,j<l.length/\Am.get l j=x/\(∀i,i<j->Am.get l i≠x)/\r=(j:Int)
theorem pD.mem{l:List J}{x:J}{r:Int}(h:pD l x r):0<=r↔x∈l:=by
 rcases h with⟨U,rfl⟩|⟨j,L,e,_,rfl⟩
 ·grind
 ·exact⟨fun _=>U0.2 ⟨j,L,e⟩,fun _=>by omega⟩
theorem eP(l:List J)(x:J)(hl:l.length<=8000000):Z (fun n=>dV n l x) (pD l x):=d3Y l x (Ta l x) (fun _=>rfl) hl _ rfl
theorem d3Z(l:List J)(x:J)(hl:l.length<=8000000):Z (fun n=>Fv n x l) (pD l x):=d3Y l x (Td l x) (fun _=>rfl) hl _ rfl
def E3(s:B1):List J:=s.words++s.A8++s.parts
open Classical in
noncomputable def P9(s:B1)(i:Nat):Int:=
 if ¬M0 (Am.get (E3 s) i)then 10
 else if Am.get (E3 s) i∈(E3 s).take i then 7
 else if i<s.words.length then(if E5 s.form [] (Am.get (E3 s) i)then 0 else 15)
 else if i<s.words.length+s.A8.length then(if W8 (D2 s.form) (Am.get (E3 s) i)\/V6 (D2 s.form) (Am.get (E3 s) i)then 0 else 15)
 else if W8 (D2 s.form) (Am.get (E3 s) i)then 5 else if V6 (D2 s.form) (Am.get (E3 s) i)then 0 else 15
def Ca(s:B1):Prop:=∀k,k<(qs s.form).length->Am.get (qs s.form) k∉ (qs s.form).take k/\Am.get (qs s.form) k∉s.words
def Fw(s:B1):Prop:=Y0 s.form/\(E3 s).length<=300/\(∀j,j<(E3 s).length->P9 s j=0)/\Ca s
def FB(step:Nat->Int)(N:Nat)(r:F1):Prop:=∃k,k<N/\(∀j,j<k->step j=0)/\step k≠0/\r=⟨step k,k⟩
theorem FB.uniq{step:Nat->Int}{N:Nat}{r':F1}(h:FB step N r)(h':FB step N r'):r=r':=by
 obtain⟨k,_,X,h3,rfl⟩:=h;obtain⟨k',_,h2',h3',rfl⟩:=h';have:k=k':=by grind
 rw[this]
def pE(s:B1)(r:F1):Prop:=
 (¬Y0 s.form/\r=eN s.form)\/(Y0 s.form/\300<(E3 s).length/\r=⟨2, -1⟩)\/(Y0 s.form/\(E3 s).length<=300/\FB (P9 s) (E3 s).length r)\/
 (Y0 s.form/\(E3 s).length<=300/\(∀j,j<(E3 s).length->P9 s j=0)/\¬Ca s/\r=⟨7, -1⟩)\/(Fw s/\r=⟨0,0⟩)
theorem pE.code{s:B1}(h:pE s r)(h0:r.code=0):Fw s/\r=⟨0,0⟩:=by
 rcases h with⟨U,rfl⟩|⟨_,_,rfl⟩|⟨_,_,k,_,_,h3,rfl⟩|⟨_,_,_,_,rfl⟩|h
 ·exact absurd ((nW _).1 h0) U
 ·cases h0
 ·exact absurd h0 h3
 ·cases h0
 ·exact h
theorem pE.ok{s:B1}(h:pE s r)(h0:Fw s):r=⟨0,0⟩:=by
 have⟨k1,k2,k3,k4⟩:=h0;rcases h with⟨U,_⟩|⟨_,U,_⟩|⟨_,_,k,X,_,h3,_⟩|⟨_,_,_,U,_⟩|⟨_,h⟩
 ·exact absurd k1 U
 ·omega
 ·exact absurd (k3 k X) h3
 ·exact absurd k4 U
 ·exact h
theorem pE.uniq{s:B1}{r':F1}(h:pE s r)(h':pE s r'):r=r':=by
 rcases h with⟨U,rfl⟩|⟨U,X,rfl⟩|⟨U,X,h3⟩|⟨U,X,h3,h4,rfl⟩|⟨U,rfl⟩
 ·rcases h' with⟨k1,rfl⟩|⟨k1,_⟩|⟨k1,_⟩|⟨k1,_⟩|⟨k1,_⟩
  ·rfl
  ·exact absurd k1 U
  ·exact absurd k1 U
  ·exact absurd k1 U
  ·exact absurd k1.1 U
 ·rcases h' with⟨k1,_⟩|⟨_,_,rfl⟩|⟨_,k2,_⟩|⟨_,k2,_⟩|⟨k1,_⟩
  ·exact absurd U k1
  ·rfl
  ·omega
  ·omega
  ·exact absurd k1.2.1 M
 ·rcases h' with⟨k1,_⟩|⟨_,k2,_⟩|⟨_,_,k3⟩|⟨_,_,k3,_⟩|⟨k1,_⟩
  ·exact absurd U k1
  ·omega
  ·exact h3.uniq k3
  ·have⟨k,a,_,b,_⟩:=h3;exact absurd (k3 k a) b
  ·have⟨k,a,_,b,_⟩:=h3;exact absurd (k1.2.2.1 k a) b
 ·rcases h' with⟨k1,_⟩|⟨_,k2,_⟩|⟨_,_,k3⟩|⟨_,_,_,_,rfl⟩|⟨k1,_⟩
  ·exact absurd U k1
  ·omega
  ·have⟨k,a,_,b,_⟩:=k3;exact absurd (h3 k a) b
  ·rfl
  ·exact absurd k1.2.2.2 h4
 ·exact(pE.ok h' U).symm
def SB(s:B1):Prop:=s.words.length<=1048576/\s.A8.length<=1048576/\s.parts.length<=1048576/\∀x∈E3 s,x.length<=8000000
theorem gF(s:B1):(E3 s).length=s.words.length+s.A8.length+s.parts.length:=by unfold E3;simp only[aa]
theorem i6W{s:B1}(H:SB s):Z (fun n=>Fx n s) (pE s):=by
 have⟨b1,b2,b3,_⟩:=H;have aX:=gF s;unfold Fx;refine Z.bind (SF s.form) fun v Q=>?_;subst Q;refine Z.cond (fun e=>Z.pure (.inl ⟨fun h=>?_,rfl⟩)) (fun e=>?_)
 ·rw[d3Q h]at e;simp at e
 replace e:=bx e;have hok:Y0 s.form:=(nW _).1 e;unfold Cb BH;have hfl: [s.words,s.A8,s.parts].flatten=E3 s:=by unfold E3;simp
 simp only[zz,ax,hfl];refine Z.bind (P:=fun v=>v=E3 s) (Z.w6 (by rw[aX];simp;omega) (Z.pure rfl)) fun v Q=>?_;subst Q;refine Z.cond (fun e=>?_) (fun e=>?_)
 ·replace e:=bx e;exact Z.pure (.inr (.inl ⟨hok,by omega,rfl⟩))
 replace e:=bx e;have sM:(E3 s).length<=300:=by omega
 refine Z.bind (i6T hok.1 (by have:=hok.2.1;omega)) fun v4 fF=>?_;replace fF:=fF.1;have pz:wr .i64 ((s.words.length:Int)+(s.A8.length:Int))=((s.words.length+s.A8.length:Nat):Int):=by rw[F9 M M];omega
 refine Z.B3 (Z.scan (fun k _=>∀j,j<k->P9 s j=0) (fun k r=>P9 s k≠0/\r=⟨P9 s k,(k:Int)⟩) (fun j L=>absurd L (co _)) (fun k C' S u=>?_)) (fun t F=>?_) (fun r hr=>?_)
 ·have bad:∀c:Int,c≠0->P9 s k=c->Z (fun _:Nat=>(nY c (k:Int)).bind fun v=>some (C1.ret (σ:=Unit) (τ:=Unit) v)) (cU (fun _:Unit=>∀j,j<k+1->P9 s j=0) (fun _=>False) (fun r=>P9 s k≠0/\r=⟨P9 s k,(k:Int)⟩)):=fun c K h=>by unfold nY;exact Z.pure ⟨by rw[h];exact K,by rw[h]⟩
  have good:P9 s k=0->Z (fun _:Nat=>some (C1.B7 (ρ:=F1) (τ:=Unit) ())) (cU (fun _:Unit=>∀j,j<k+1->P9 s j=0) (fun _=>False) (fun r=>P9 s k≠0/\r=⟨P9 s k,(k:Int)⟩)):=fun h=>Z.pure fun j L=>by grind
  unfold Te
  refine Z.bind (Sk _) fun v17 KZ=>Z.cond (fun e=>bad 10 D5 ?_) (fun e=>?_)
  ·replace e:=bx e;have:¬M0 (Am.get (E3 s) k):=fun h=>by rw[(qV KZ).2 h]at e;cases e
   unfold P9;rw[if_pos this]
  replace e:=bx e
  have s1:¬ ¬M0 (Am.get (E3 s) k):=fun h=>h ((qV KZ).1 e)
  refine Z.w6 M ?_
  simp only[jl,ax]
  refine Z.cond (fun e=>bad 7 D5 ?_) (fun e=>?_)
  ·replace e:=bx e;unfold P9;rw[if_neg s1,if_pos e]
  replace e:=bx e
  have s2:=e
  refine Z.bind (i6V _ s.form (ae _) _) fun v23 La=>Z.cond (fun e=>?_) (fun e=>?_)
  ·replace e:=bx e;have s3:k<s.words.length:=by omega
   refine Z.cond (fun e=>bad 15 D5 ?_) (fun e=>good ?_)
   ·replace e:=bx e;rw[fF]at e;unfold P9;rw[if_neg s1,if_neg s2,if_pos s3,if_neg e]
   ·replace e:=bx e;rw[fF]at e;unfold P9;rw[if_neg s1,if_neg s2,if_pos s3,if_pos e]
  ·replace e:=bx e;have s3:¬k<s.words.length:=by omega
   rw[pz];refine Z.cond (fun e=>?_) (fun e=>?_)
   ·replace e:=bx e;have s4:k<s.words.length+s.A8.length:=by omega
    refine Z.cond (fun e=>bad 15 D5 ?_) (fun e=>good ?_)
    ·replace e:=bx e;have:¬(W8 (D2 s.form) (Am.get (E3 s) k)\/V6 (D2 s.form) (Am.get (E3 s) k)):=by grind
     unfold P9;rw[if_neg s1,if_neg s2,if_neg s3,if_pos s4,if_neg this]
    ·have:W8 (D2 s.form) (Am.get (E3 s) k)\/V6 (D2 s.form) (Am.get (E3 s) k):=by grind
     unfold P9;rw[if_neg s1,if_neg s2,if_neg s3,if_pos s4,if_pos this]
   ·replace e:=bx e;have s4:¬k<s.words.length+s.A8.length:=by omega
    refine Z.cond (fun e=>bad 5 D5 ?_) (fun e=>?_)
    ·have:=La.1.1 e;unfold P9;rw[if_neg s1,if_neg s2,if_neg s3,if_neg s4,if_pos this]
    ·have s5:¬W8 (D2 s.form) (Am.get (E3 s) k):=by rw[<-La.1];simp[e]
     refine Z.cond (fun e=>bad 15 D5 ?_) (fun e=>good ?_)
     ·replace e:=bx e;have:¬V6 (D2 s.form) (Am.get (E3 s) k):=by rw[<-La.2];simp[e]
      unfold P9;rw[if_neg s1,if_neg s2,if_neg s3,if_neg s4,if_neg s5,if_neg this]
     ·replace e:=bx e;have:=La.2.1 e;unfold P9;rw[if_neg s1,if_neg s2,if_neg s3,if_neg s4,if_neg s5,if_pos this]
 ·unfold Tf;refine Z.bind (Ft _ s.form (ae _) (by have:=hok.2.1;omega)) fun jF Tg=>?_;subst Tg;have lD:(qs s.form).length<=200:=by rw[ji];have:=jj s.form;have:=hok.2.1;omega
  refine Z.B3 (Z.scan (fun k _=>∀j,j<k->Am.get (qs s.form) j∉ (qs s.form).take j/\Am.get (qs s.form) j∉s.words) (fun k r=>r=⟨7, -1⟩/\¬Ca s) (fun j L=>absurd L (co _)) (fun k C' S u=>?_)) (fun C' hu=>?_) (fun r hr=>?_)
  ·unfold Ti;refine Z.w6 M ?_;simp only[jl,ax];refine Z.bind (P:=fun v=>Am.get (qs s.form) k∉ (qs s.form).take k->(v=true↔Am.get (qs s.form) k∈s.words)) (Z.gd (fun g=>Z.pure fun _=>by simp) (fun g h=>by simp[h]at g)) fun kq Fy=>Z.cond (fun e=>?_) (fun e=>Z.pure fun j L=>?_)
   ·replace e:=bx e;refine Z.pure ⟨rfl,fun h=>?_⟩;have⟨U,X⟩:=h k S;rcases e with e|e
    ·exact U e
    ·exact X ((Fy U).1 e)
   ·grind
  ·unfold Tj;exact Z.pure (.inr (.inr (.inr (.inr ⟨⟨hok,sM,F,hu⟩,rfl⟩))))
  ·obtain⟨k,_,_,_,rfl,h⟩:=hr;exact .inr (.inr (.inr (.inl ⟨hok,sM,F,h,rfl⟩)))
 ·have⟨k,_,S,u,U,X⟩:=hr;exact .inr (.inr (.inl ⟨hok,sM,k,S,u,U,X⟩))
theorem i6X{s:J}(hl:s.length<=8000000):Z (fun n=>Fz n s) (fun b=>b=nT s):=by
 unfold Fz;refine Z.B3 (Z.R5 s.length (fun k i=>i=(k:Int)/\∀j,j<k->mP (P0 s (j:Int))/\(j=0->97<=P0 s 0/\P0 s 0<=122)) (fun _=>∀j,j<s.length->mP (P0 s (j:Int))/\(j=0->97<=P0 s 0/\P0 s 0<=122)) (fun b=>b=false/\¬M0 s) ⟨rfl,fun j L=>absurd L (co _)⟩ (fun k i S u=>?_) (fun i u=>?_)) (fun t F=>?_) (fun r hr=>?_)
 ·obtain⟨rfl,u⟩:=u;unfold Lb;refine Z.cond (fun _=>Z.w6 M ?_) ab;have key:mP (P0 s (k:Int))/\(k=0->97<=P0 s 0/\P0 s 0<=122)↔((97<=P0 s (k:Int)/\P0 s (k:Int)<=122)\/(0<(k:Int)/\(((48<=P0 s (k:Int)/\P0 s (k:Int)<=57)\/P0 s (k:Int)=95)\/P0 s (k:Int)=45))):=by
   unfold mP;by_cases hk0:k=0
   ·grind
   ·grind
  refine Z.cond (fun e=>Z.pure ⟨rfl,fun hn=>?_⟩) (fun e=>Z.pure ?_)
  ·have X:=key.1 ⟨hn.2.2.2 k S,fun h0=>hn.2.2.1⟩;replace e:=bx e;omega
  ·rw[F9 M M];refine⟨rfl,fun j L=>?_⟩;by_cases ej:j=k
   ·grind
   ·exact u j M
 ·obtain⟨rfl,u⟩:=u;unfold Lb;exact Z.cond ab (fun _=>Z.pure u)
 ·unfold Tl;refine Z.pure ?_;by_cases U:0<s.length
  ·by_cases X:s.length<=30
   ·have:decide (0<(s.length:Int))=true:=decide_eq_true M;have h3:decide ((s.length:Int)<=30)=true:=decide_eq_true M;rw[this,h3];exact(Sj ⟨U,X,(F 0 U).2 rfl,fun k S=>(F k S).1⟩).symm
   ·have h3:decide ((s.length:Int)<=30)=false:=decide_eq_false M;rw[h3,yL fun h=>X h.2.1];cases decide (0<(s.length:Int))<;>rfl
  ·have:decide (0<(s.length:Int))=false:=decide_eq_false M;rw[this,yL fun h=>U h.1];rfl
 ·rw[hr.1,yL hr.2]
theorem FC{l:List J}{k:Nat}(S:k<=l.length){x:J}:x∈l.take k↔ ∃j,j<k/\Am.get l j=x:=by
 rw[U0,db,Fs S];have hg:∀j,j<k->Am.get (l.take k) j=Am.get l j:=fun j L=>by unfold Am.get;rw[ac,ac,wy L]
 exact⟨fun⟨j,L,e⟩=>⟨j,L,by rw[<-hg j L];exact e⟩,fun⟨j,L,e⟩=>⟨j,L,by rw[hg j L];exact e⟩⟩
mutual
theorem Lc:∀(f:O),M1 f->∀g∈D2 f,M1 g
 | .mk k n w s,h,g,hg=>by
   rw[pC]at hg;rcases ce.1 hg with rfl|hg
   ·exact h
   ·exact d4a s ((dR _).1 h).2 g hg
theorem d4a:∀(l:List O),cx l->∀g∈M4 l,M1 g
 | [],_,g,hg=>by rw[M4]at hg;cases hg
 |f::l,h,g,hg=>by
  rw[M4]at hg;rcases al.1 hg with hg|hg
  ·exact Lc f (lB.1 h f (az ..)) g hg
  ·exact d4a l (lB.2 fun x A=>lB.1 h x (aw _ A)) g hg
end
theorem cX.one{it:IT}{x:J}:cX [it] x↔ ∃m,m<it.words.length/\Am.get it.words m=x/\Am.get it.bound m=false:=by unfold cX;simp
theorem vT(l m:List IT):T7 (l++m)=T7 l++T7 m:=kn
theorem Cc(it:IT):T7 [it]=if QK it.kind then [it.name]else []:=by unfold T7;simp
theorem i6Y(s9:Bool×Bool×Int)(R:List IT)(k:Nat)(names:List J)(i:Nat)(h9:s9.2.2=(i:Int))(u:i<R.length)(S:k<names.length)(hw:(Am.get R i).words.length<=3)(hbd:(Am.get R i).bound.length=(Am.get R i).words.length):
 Z (fun n=>D9 (FD s9 R (k:Int) names) n (s9.1,0)) (L2 (fun t=>t=true↔s9.1=true\/cX [Am.get R i] (Am.get names k)) (fun _=>False)):=by
 refine(Z.R5 (Am.get R i).words.length (fun j s=>s.2=(j:Int)/\(s.1=true↔s9.1=true\/∃m,m<j/\Am.get (Am.get R i).words m=Am.get names k/\Am.get (Am.get R i).bound m=false)) _ _ ⟨rfl,by simp⟩ (fun j s L hs=>?_) (fun s hs=>?_))
 ·have⟨aK,V1⟩:=hs;unfold FD;rw[h9,aK];simp only[ai];refine Z.w6 M (Z.cond (fun _=>Z.w6 ⟨W1 fun _=>by omega,W1 fun _=>by omega⟩ (Z.w6 S (Z.w6 ⟨W1 fun _=>by omega,W1 fun _=>by omega⟩ (Z.pure ?_)))) ab);refine⟨by rw[F9 M M];omega,?_⟩;have A:(∃m,m<j+1/\Am.get (Am.get R i).words m=Am.get names k/\Am.get (Am.get R i).bound m=false)↔(∃m,m<j/\Am.get (Am.get R i).words m=Am.get names k/\Am.get (Am.get R i).bound m=false)\/(Am.get (Am.get R i).words j=Am.get names k/\Am.get (Am.get R i).bound j=false):=by grind
  rw[A, <-or_assoc, <-V1];cases s.1
  ·grind
  ·simp
 ·have⟨aK,V1⟩:=hs;unfold FD;rw[h9,aK];simp only[ai];refine Z.w6 M (Z.cond ab (fun _=>Z.pure ?_));rw[cX.one];exact V1
def Seen(s:B1)(R:List IT)(k i:Nat)(b1 b2:Bool):Prop:=
 (k<s.words.length->(b1=true↔cX (R.take i) (Am.get (E3 s) k))/\b2=false)/\
 (¬k<s.words.length->(b1=true↔W8 ((D2 s.form).take i) (Am.get (E3 s) k)\/V6 ((D2 s.form).take i) (Am.get (E3 s) k))/\(b2=true↔W8 ((D2 s.form).take i) (Am.get (E3 s) k)))
theorem i6Z{s:B1}(hok:Y0 s.form)(k:Nat)(S:k<(E3 s).length):
 Z (fun n=>D9 (FE n (D4 s.form [] 0) (k:Int) s (E3 s)) n (false,false,0)) (L2 (fun t=>Seen s (D4 s.form [] 0) k (w9 s.form) t.1 t.2) (fun _=>False)):=by
 have hrl:(D4 s.form [] 0).length=w9 s.form:=dS _ _ _
 have X:=hok.2.1
 refine Z.R5 (w9 s.form) (fun i t=>t.2.2=(i:Int)/\Seen s (D4 s.form [] 0) k i t.1 t.2.1) _ _ ⟨rfl,?_⟩ (fun i t u F=>?_) (fun t F=>?_)
 ·refine⟨fun _=>⟨?_,rfl⟩,fun _=>⟨?_,?_⟩⟩
  ·simp[cX.nil]
  ·simp[W8,V6]
  ·simp[W8]
 ·have⟨pF,jg,yR⟩:=F;have nZ:=vS s.form [] 0 i u;have hfl:i<(D2 s.form).length:=by rw[gD];exact u
  have hwf:=Lc _ hok.1 _ (get_mem hfl);have sK:(Am.get (D4 s.form [] 0) i).words.length<=3:=by rw[nZ.2.2.1];exact vL hwf
  unfold FE;refine Z.cond (fun _=>Z.cond (fun e=>?_) (fun e=>?_)) ab
  ·replace e:=bx e;have pG:k<s.words.length:=by omega
   refine Z.B3 (i6Y t _ k _ i pF M S sK (by rw[nZ.2.2.1];exact nZ.2.2.2.2)) (fun C' hu=>?_) nofun;unfold Tm;refine Z.pure ⟨by show wr .i64 (t.2.2+1)=_;rw[pF,F9 M M];omega,fun _=>⟨?_,(jg pG).2⟩,fun h=>absurd pG h⟩;rw[H8 M,cX.app, <-(jg pG).1];exact hu
  ·replace e:=bx e;have pG:¬k<s.words.length:=by omega
   have h9:t.2.2=(i:Int):=pF;simp only[h9,ai];refine Z.w6 M (Z.w6 S (Z.cond (fun e=>Z.pure ?_) (fun e=>Z.pure ?_)))
   ·replace e:=bx e;refine⟨by show wr .i64 ((i:Int)+1)=_;rw[F9 M M];omega,fun h=>absurd h pG,fun _=>?_⟩;rw[nZ.1,nZ.2.1]at e;simp only[H8 hfl,W8.app,V6.app,W8.one,V6.one];refine⟨iff_of_true trivial ?_,?_⟩
    ·grind
    ·rw[<-(yR pG).2,nZ.2.2.1];cases t.2.1<;>simp[e.1,e.2]
   ·refine⟨by show wr .i64 ((i:Int)+1)=_;rw[F9 M M];omega,fun h=>absurd h pG,fun _=>?_⟩;rw[nZ.1,nZ.2.1]at e;have hn:¬((Am.get (D2 s.form) i).kind=2/\(Am.get (D2 s.form) i).name=Am.get (E3 s) k):=fun h=>by simp[h.1,h.2]at e
    simp only[H8 hfl,W8.app,V6.app,W8.one,V6.one];have n1:¬((Am.get (D2 s.form) i).kind=2/\(Am.get (D2 s.form) i).name=Am.get (E3 s) k/\0<(Am.get (D2 s.form) i).words.length):=fun h=>hn ⟨h.1,h.2.1⟩;have n2:¬((Am.get (D2 s.form) i).kind=2/\(Am.get (D2 s.form) i).name=Am.get (E3 s) k/\(Am.get (D2 s.form) i).words.length=0):=fun h=>hn ⟨h.1,h.2.1⟩;simp only[n1,n2,or_false];exact yR pG
 ·have⟨pF,jg⟩:=F;unfold FE;refine Z.cond ab (fun _=>Z.pure jg)
theorem i7a{s:B1}(H:SB s)(hok:Y0 s.form)(sM:(E3 s).length<=300):
 Z (fun n=>D9 (FH n (E3 s) (D4 s.form [] 0) s) n 0) (L2 (fun _=>∀j,j<(E3 s).length->P9 s j=0) (fun r=>FB (P9 s) (E3 s).length r)):=by
 have aX:=gF s
 have pz:wr .i64 ((s.words.length:Int)+(s.A8.length:Int))=((s.words.length+s.A8.length:Nat):Int):=by rw[F9 M M];omega
 refine Z.R5 (E3 s).length (fun k i=>i=(k:Int)/\∀j,j<k->P9 s j=0) _ _ ⟨rfl,fun j L=>absurd L (co _)⟩ (fun k i S u=>?_) (fun i u=>?_)
 ·obtain⟨rfl,u⟩:=u;have bad:∀c:Int,c≠0->P9 s k=c->cU (fun i=>i=((k+1:Nat):Int)/\∀j,j<k+1->P9 s j=0) (fun _:Unit=>∀j,j<(E3 s).length->P9 s j=0) (fun r=>FB (P9 s) (E3 s).length r) (C1.ret ⟨c,(k:Int)⟩):=fun c K h=>⟨k,S,u,by rw[h];exact K,by rw[h]⟩;have good:P9 s k=0->cU (fun i=>i=((k+1:Nat):Int)/\∀j,j<k+1->P9 s j=0) (fun _:Unit=>∀j,j<(E3 s).length->P9 s j=0) (fun r=>FB (P9 s) (E3 s).length r) (C1.B7 (wr .i64 ((k:Int)+1))):=fun h=>⟨by rw[F9 M M];omega,fun j L=>by
   by_cases ej:j=k
   ·subst ej;exact h
   ·exact u j M⟩
  unfold FH;refine Z.cond (fun _=>Z.w6 M ?_) ab;simp only[ai];refine Z.bind (i6X (H.2.2.2 _ (get_mem S))) fun v Q=>Z.cond (fun e=>Z.pure (bad 10 D5 ?_)) (fun e=>?_)
  ·replace e:=bx e;have:¬M0 (Am.get (E3 s) k):=fun h=>by rw[(qV Q).2 h]at e;cases e
   unfold P9;rw[if_pos this]
  replace e:=bx e;have s1:¬ ¬M0 (Am.get (E3 s) k):=fun h=>h ((qV Q).1 e);refine Z.B3 (Z.R5 k (fun j i=>i=(j:Int)/\∀m,m<j->Am.get (E3 s) m≠Am.get (E3 s) k) (fun _=>Am.get (E3 s) k∉ (E3 s).take k) (fun r=>Am.get (E3 s) k∈(E3 s).take k/\r=C1.ret ⟨7,(k:Int)⟩) ⟨rfl,fun j L=>absurd L (co _)⟩ (fun j i L hs=>?_) (fun i hs=>?_)) (fun t F=>?_) (fun r hr=>?_)
  ·obtain⟨rfl,hs⟩:=hs;unfold Ld;simp only[ai];refine Z.cond (fun _=>Z.w6 M (Z.cond (fun e=>Z.pure ?_) (fun e=>Z.pure ?_))) ab
   ·replace e:=bx e;exact⟨(FC M).2 ⟨j,L,e⟩,rfl⟩
   ·replace e:=bx e;rw[F9 M M];refine⟨by omega,fun m hm=>?_⟩;by_cases em:m=j
    ·subst em;exact e
    ·exact hs m M
  ·obtain⟨rfl,hs⟩:=hs;unfold Ld;refine Z.cond ab (fun _=>Z.pure fun h=>?_);have⟨j,L,e⟩:=(FC M).1 h;exact hs j L e
  ·have s2:Am.get (E3 s) k∉ (E3 s).take k:=F;unfold Tn;refine Z.B3 (i6Z hok k S) (fun C' hu=>?_) nofun;have⟨hu1,jW⟩:=hu;have FI:(D4 s.form [] 0).take (w9 s.form)=D4 s.form [] 0:=by rw[<-dS s.form [] 0,cj]
   have hft:(D2 s.form).take (w9 s.form)=D2 s.form:=by rw[<-gD,cj]
   rw[FI,d3V]at hu1;rw[hft]at jW;unfold Tp;rw[pz];refine Z.cond (fun e=>Z.pure (bad 5 D5 ?_)) (fun e=>Z.cond (fun e2=>Z.pure (bad 15 D5 ?_)) (fun e2=>Z.pure (good ?_)))
   ·replace e:=bx e;have s3:¬k<s.words.length:=by omega
    have s4:¬k<s.words.length+s.A8.length:=by omega
    unfold P9;rw[if_neg s1,if_neg s2,if_neg s3,if_neg s4,if_pos ((jW s3).2.1 e.2)]
   ·have e2:C'.1=false:=by simpa using e2
    unfold P9;rw[if_neg s1,if_neg s2];by_cases s3:k<s.words.length
    ·grind
    ·grind
   ·have e2:C'.1=true:=by simpa using e2
    unfold P9;rw[if_neg s1,if_neg s2];by_cases s3:k<s.words.length
    ·grind
    ·grind
  ·obtain⟨hm,rfl⟩:=hr;refine bad 7 D5 ?_;unfold P9;rw[if_neg s1,if_pos hm]
 ·obtain⟨rfl,u⟩:=u;unfold FH;exact Z.cond ab (fun _=>Z.pure u)
theorem d4b{l:List J}{x:J}{m:List J}:Am.get (l++x::m) l.length=x/\(l++x::m).take l.length=l:=by refine⟨?_,by simp⟩;unfold Am.get;simp
theorem i7b{s:B1}(H:SB s)(hok:Y0 s.form):
 Z (fun n=>D9 (FJ n (D4 s.form [] 0) s) n ([],0)) (L2 (fun _=>Ca s) (fun r=>r=⟨7, -1⟩/\¬Ca s)):=by
 have hrl:(D4 s.form [] 0).length=w9 s.form:=dS _ _ _
 have X:=hok.2.1
 have hq:qs s.form=T7 (D4 s.form [] 0):=(KY _ _ _).symm
 have lD:(qs s.form).length<=200:=by rw[ji];have:=jj s.form;omega
 have hpre:∀i,qs s.form=T7 ((D4 s.form [] 0).take i)++T7 ((D4 s.form [] 0).drop i):=fun i=>by rw[<-vT,ew];exact hq
 refine Z.R5 (w9 s.form) (fun i t=>t=(T7 ((D4 s.form [] 0).take i),(i:Int))/\∀k,k<(T7 ((D4 s.form [] 0).take i)).length->Am.get (qs s.form) k∉ (qs s.form).take k/\Am.get (qs s.form) k∉s.words) _ _ ⟨by simp[T7],fun k S=>by simp[T7]at S⟩ (fun i t u F=>?_) (fun t F=>?_)
 ·obtain⟨rfl,F⟩:=F;have hll:(T7 ((D4 s.form [] 0).take i)).length<=200:=by grind
  unfold FJ;simp only[ai];refine Z.cond (fun _=>Z.w6 M ?_) ab;refine Z.cond (fun e=>?_) (fun e=>Z.pure ?_)
  ·replace e:=bx e;have dW:QK (Am.get (D4 s.form [] 0) i).kind:=e;have eR:T7 ((D4 s.form [] 0).take (i+1))=T7 ((D4 s.form [] 0).take i)++[(Am.get (D4 s.form [] 0) i).name]:=by rw[H8 M,vT,Cc,if_pos dW]
   have A:=hpre (i+1);rw[eR,bl,r4]at A;have hg:Am.get (qs s.form) (T7 ((D4 s.form [] 0).take i)).length=(Am.get (D4 s.form [] 0) i).name:=by rw[A];exact d4b.1
   have jg:(qs s.form).take (T7 ((D4 s.form [] 0).take i)).length=T7 ((D4 s.form [] 0).take i):=by rw[A];exact d4b.2
   have hlt:(T7 ((D4 s.form [] 0).take i)).length<(qs s.form).length:=by rw[A];simp
   refine Z.bind (d3Z _ _ M) fun v Q=>Z.bind (P:=fun w=>¬0<=v->pD s.words (Am.get (D4 s.form [] 0) i).name w) (Z.gd (fun _=>(eP _ _ (by have:=H.1;omega)).mono fun w hw _=>hw) (fun g h=>by simp at g;omega)) fun w hw=>?_;refine Z.cond (fun e=>Z.pure ⟨rfl,fun h=>?_⟩) (fun e=>Z.B9 (Z.w6 ?_ (Z.pure ?_)))
   ·have⟨k1,k2⟩:=h _ hlt;rw[hg,jg]at k1;rw[hg]at k2;have n1:¬0<=v:=fun h=>k1 (Q.mem.1 h);have n2:¬0<=w:=fun h=>k2 ((hw n1).mem.1 h);simp[n1,n2]at e
   ·rw[Y7,aa,lz];omega
   ·have n1:¬0<=v:=fun h=>by simp[h]at e
    have n2:¬0<=w:=fun h=>by simp[h]at e
    refine⟨by rw[eR,F9 M M];rfl,fun k S=>?_⟩;rw[eR,aa,lz]at S;by_cases ek:k=(T7 ((D4 s.form [] 0).take i)).length
    ·subst ek;rw[hg,jg];exact⟨fun h=>n1 (Q.mem.2 h),fun h=>n2 ((hw n1).mem.2 h)⟩
    ·exact F k M
  ·replace e:=bx e;have dW:¬QK (Am.get (D4 s.form [] 0) i).kind:=fun h=>by rcases h with h|h<;>simp[h]at e
   have eR:T7 ((D4 s.form [] 0).take (i+1))=T7 ((D4 s.form [] 0).take i):=by rw[H8 M,vT,Cc,if_neg dW,gf]
   refine⟨by rw[eR,F9 M M];rfl,?_⟩;rw[eR];exact F
 ·obtain⟨rfl,F⟩:=F;unfold FJ;refine Z.cond ab (fun _=>Z.pure ?_);have FI:(D4 s.form [] 0).take (w9 s.form)=D4 s.form [] 0:=by rw[<-hrl,cj]
  rw[FI, <-hq]at F;exact F
theorem i7c{s:B1}(H:SB s):Z (fun n=>FK n s) (pE s):=by
 have aX:=gF s;have⟨b1,b2,b3,_⟩:=id H;unfold FK;refine Z.bind (SM s.form) fun v Q=>?_;subst Q;refine Z.cond (fun e=>Z.pure (.inl ⟨fun h=>?_,rfl⟩)) (fun e=>?_)
 ·rw[d3Q h]at e;simp at e
 replace e:=bx e;have hok:Y0 s.form:=(nW _).1 e;have hw:wr .i64 (wr .i64 ((s.words.length:Int)+(s.A8.length:Int))+(s.parts.length:Int))=((E3 s).length:Int):=by rw[F9 (n:=(s.words.length:Int)+(s.A8.length:Int)) M M,F9 M M];omega
 rw[hw];refine Z.cond (fun e=>?_) (fun e=>?_)
 ·replace e:=bx e;exact Z.pure (.inr (.inl ⟨hok,by omega,rfl⟩))
 replace e:=bx e;have sM:(E3 s).length<=300:=by omega
 refine Z.B3 (qW s.words _ (fun _=>rfl) [] (by simp;omega)) (fun t F=>?_) nofun;unfold Tq;have F:t=s.words:=F;subst F;refine Z.B3 (qW s.A8 _ (fun _=>rfl) s.words M) (fun t F=>?_) nofun;unfold Tr;have F:t=s.words++s.A8:=F;subst F;refine Z.B3 (qW s.parts _ (fun _=>rfl) (s.words++s.A8) (by rw[aa];omega)) (fun t F=>?_) nofun;unfold Ts;have F:t=E3 s:=F;subst F;refine Z.bind (vO hok.1 [] (by have:=hok.2.1;omega) B5) fun v Q=>?_;subst Q;refine Z.B3 (i7a H hok sM) (fun t F=>?_) (fun r hr=>.inr (.inr (.inl ⟨hok,sM,hr⟩)));unfold Tt;refine Z.B3 (i7b H hok) (fun C' hu=>?_) (fun r hr=>.inr (.inr (.inr (.inl ⟨hok,sM,F,hr.2,hr.1⟩))));exact Z.pure (.inr (.inr (.inr (.inr ⟨⟨hok,sM,F,hu⟩,rfl⟩))))
def dval(l:J):Nat:=l.foldl (fun a c=>10*a+(c.toNat-48)) 0
theorem d4c(C':Nat):dval (cb C')=C':=by
 induction C' using Nat.strongRecOn with
 | _ C' ih=>
   by_cases h:C'<10
   ·rw[cb,dif_pos h];unfold dval;simp only[wa,fS0,UInt8.toNat_ofNat'];omega
   ·rw[cb,dif_neg h];unfold dval;rw[List.foldl_append];have:=ih (C' / 10) M;unfold dval at this;rw[this];simp only[wa,fS0,UInt8.toNat_ofNat'];omega
theorem Cd(h:cb C'=cb v):C'=v:=by rw[<-d4c C',h,d4c]
def vn(m:Nat):J:=118::cb m
theorem i7d(h:vn C'=vn v):C'=v:=Cd (en h).2
def mk(m:Nat):J:=33::cb m
theorem mk_inj(h:mk C'=mk v):C'=v:=Cd (en h).2
theorem oa{m:Nat}(h:m<=1000000000):(cb m).length<=21:=by have:=Lib.itoa_length_le (m:Int) M M;rwa[GB]at this
theorem Le{m:Nat}(hm:m<=1000000000):Z (fun n=>vU n (m:Int)) (fun r=>r=cb m):=by
 unfold vU;have hl:=oa hm;refine Z.B3 (Z.loop (fun s:Int×J=>s.1.toNat) (fun s=>∃q:Nat,s.1=(q:Int)/\q<=m/\cb m=cb q++s.2) (fun _=>False) (fun r=>r=cb m) ⟨m,rfl,ae _,by simp⟩ (fun s hs=>?_)) (fun t F=>F.elim) (fun r hr=>hr);have⟨q,hq,hqm,hd⟩:=hs;unfold Tv;have U:Int.tmod s.1 10=((q%10:Nat):Int):=by rw[hq];rfl
 have X:Int.tdiv s.1 10=((q / 10:Nat):Int):=by rw[hq];rfl
 have h3:wr .u8 (wr .i64 (48+((q%10:Nat):Int)))=((48+q%10:Nat):Int):=by
  have Tw:wr .i64 (48+((q%10:Nat):Int))=48+((q%10:Nat):Int):=F9 M M;rw[Tw];have:wr .u8 ((48+q%10:Nat):Int)=((48+q%10:Nat):Int):=by have:q%10<10:=Nat.mod_lt _ D5;show((48+q%10:Nat):Int)%256=_;omega
  rw[<-this];rfl
 rw[U,X,h3];simp only[ai];have hl2:(cb q).length+s.2.length<=21:=by grind
 refine Z.w6 (by unfold P8;simp;omega) (Z.w6 ⟨by show -9223372036854775808<=_;omega,by show _<=(9223372036854775807:Int);omega⟩ (Z.cond (fun e=>Z.pure ?_) (fun e=>Z.pure ?_)))
 ·replace e:=bx e;have hlt:q<10:=by omega
  show O1 [UInt8.ofNat (48+q%10)] s.2=_;rw[hd,cb,dif_pos hlt,Nat.mod_eq_of_lt hlt];rfl
 ·replace e:=bx e;have hge:¬q<10:=fun h=>e M;refine⟨⟨q / 10,rfl,by omega,?_⟩,?_⟩
  ·rw[hd,cb,dif_neg hge,bl];rfl
  ·grind
def yS(p:J->Prop)(j m:Nat):Prop:=j<=m/\¬p (vn m)/\∀k,j<=k->k<m->p (vn k)
theorem yS.uniq{p:J->Prop}{j m m':Nat}(h:yS p j m)(h':yS p j m'):m=m':=by
 rcases tz m m' with e|e|e
 ·exact absurd (h'.2.2 m h.1 e) h.2.1
 ·exact e
 ·exact absurd (h.2.2 m' h'.1 e) h'.2.1
theorem d4d:∀(n:Nat)(C:List J)(g:Nat->J),C.length=n->(∀i j,g i=g j->i=j)->∃m,m<=n/\g m∉C
 |0,C,g,h,_=>⟨0,ae _,by rw[List.length_eq_zero_iff.1 h];exact List.not_mem_nil⟩
 |n+1,C,g,h,hg=>by
  by_cases hm:g (n+1)∈C
  ·have⟨m,U,X⟩:=d4d n (C.erase (g (n+1))) g (by rw[List.length_erase_of_mem hm,h];rfl) hg;refine⟨m,by omega,fun h3=>X ((List.mem_erase_of_ne fun e=>?_).2 h3)⟩;have:=hg _ _ e;omega
  ·grind
theorem d4e{p:J->Prop}(hC:∀x,p x->x∈C)(j:Nat):∃m,yS p j m/\m<=j+C.length:=by
 have⟨m,U,X⟩:=d4d _ C (fun i=>vn (j+i)) rfl (fun a b e=>by have:=i7d e;omega);have key:∀d j,(∃m,j<=m/\m<=j+d/\¬p (vn m))->∃m,yS p j m/\m<=j+d:=by
  intro d;induction d with
  |zero=>
   rintro j ⟨m,a,b,c⟩;obtain rfl:m=j:=by omega
   exact⟨m,⟨ae _,c,fun k a b=>absurd a M⟩,by omega⟩
  |succ d ih=>
   rintro j ⟨m,a,b,c⟩;by_cases hp:p (vn j)
   ·have hne:j≠m:=fun e=>c (e▸hp);have⟨m',e1,e2⟩:=ih (j+1) ⟨m,by omega,by omega,c⟩;refine⟨m',⟨by have:=e1.1;omega,e1.2.1,fun k a b=>?_⟩,by omega⟩;by_cases ek:k=j
    ·rw[ek];exact hp
    ·exact e1.2.2 k M b
   ·exact⟨j,⟨ae _,hp,fun k a b=>absurd a M⟩,by omega⟩
 exact key _ j ⟨j+m,by omega,by omega,fun hp=>X (hC _ hp)⟩
open Classical in
noncomputable def nx(p:J->Prop)(j:Nat):Nat:=MM fun m=>yS p j m
theorem Lf{p:J->Prop}(hC:∀x,p x->x∈C)(j:Nat):yS p j (nx p j):=MT ((d4e hC j).imp fun _ h=>h.1)
theorem Tx{p:J->Prop}(hC:∀x,p x->x∈C)(j:Nat):nx p j<=j+C.length:=by have⟨m,U,X⟩:=d4e hC j;rw[(Lf hC j).uniq U];exact X
noncomputable def num(p:J->Prop):Nat->Nat
 |0=>nx p 0
 |i+1=>nx p (num p i+1)
noncomputable def NN(p:J->Prop)(i:Nat):J:=vn (num p i)
theorem Tz{p:J->Prop}{C:List J}(hC:∀x,p x->x∈C)(AM:Nat)(hL:C.length<=AM):∀i,num p i<=(i+1)*(AM+1)
 |0=>by have:=Tx hC 0;show nx p 0<=_;omega
 |i+1=>by have:=Tx hC (num p i+1);have:=Tz hC AM hL i;show nx p (num p i+1)<=_;rw[Nat.succ_mul (i+1)];omega
def kr(yo xx:Nat->J):Nat->List (J×J)
 |0=>[]
 |k+1=>(yo k,xx k)::kr yo xx k
theorem TA{yo K' xx V':Nat->J}:∀ {n:Nat},(∀k,k<n->yo k=K' k/\xx k=V' k)->kr yo xx n=kr K' V' n
 |0,_=>rfl
 |n+1,h=>by rw[kr,kr,(h n M).1,(h n M).2,TA fun k S=>h k M]
theorem d4f(yo xx:Nat->J)(AM:Nat)(hL:AM<=8000000)(w:J)(body:Int->Option (C1 ρ Int J))(H:∀k,k<AM->body (k:Int)=bif decide (yo k=w)then some (.brk (xx k))else some (.B7 (wr .i64 ((k:Int)-1))))(h0:body (-1)=some (.brk w)):
 Z (fun n=>D9 body n (wr .i64 ((AM:Int)-1))) (L2 (fun t=>t=sub (kr yo xx AM) w) (fun _=>False)):=by
 have hw:wr .i64 ((AM:Int)-1)=(AM:Int)-1:=F9 M M
 rw[hw]
 refine Z.R5 AM (fun k s=>∃m:Nat,s=(m:Int)-1/\m+k=AM/\sub (kr yo xx AM) w=sub (kr yo xx m) w) _ _ ⟨AM,rfl,rfl,rfl⟩ (fun k s S hs=>?_) (fun s hs=>?_)
 ·obtain⟨m,rfl,hm,he⟩:=hs;obtain⟨m,rfl⟩:∃j,m=j+1:=⟨m-1,by omega⟩;have e1:((m+1:Nat):Int)-1=(m:Int):=by omega
  rw[e1,H m M];refine Z.cond (fun e=>Z.pure ?_) (fun e=>Z.pure ?_)
  ·replace e:=bx e;show xx m=_;rw[he,kr,kh,if_pos e]
  ·replace e:=bx e;refine⟨m,F9 M M,by omega,?_⟩;rw[he,kr,kh,if_neg e]
 ·obtain⟨m,rfl,hm,he⟩:=hs;obtain rfl:m=0:=by omega
  show Z (fun _=>body (-1)) _;rw[h0];refine Z.pure ?_;rw[he,kr,vJ];exact rfl
theorem vV:∀(l:List O)(x:O),K2 (l++[x])=K2 l+nq x
 | [],x=>by simp[K2]
 |a::l,x=>by rw[di,K2,K2,vV l x,da]
theorem Ce{l:List O}{k:Nat}(h:k<l.length):K2 (l.take k)+nq (Am.get l k)<=K2 l:=by
 have e:l=l.take (k+1)++l.drop (k+1):=(ew _ _).symm;have:∀(l m:List O),K2 (l++m)=K2 l+K2 m:=fun l m=>by
  induction l with
  |nil=>simp[K2]
  |cons a l ih=>rw[di,K2,K2,ih,da]
 rw[<-vV, <-H8 h];have:=this (l.take (k+1)) (l.drop (k+1));rw[<-e]at this;omega
theorem yT(N:Nat->J):∀(l:List O) (x:O) (env:List (J×J)) (i:Nat),L4 N (l++[x]) env i=L4 N l env i++[F8 N x env (i+K2 l)]
 | [],x,env,i=>by simp[L4,K2]
 |a::l,x,env,i=>by rw[di,L4,L4,yT N l x,K2,da];rfl
theorem FL{m:Nat}(hm:m<=1000000000):itoa (m:Int)=some (cb m):=by unfold itoa;rw[sk M,GB]
theorem i7f{C:List J}{p:J->Prop}(hC:∀x,x∈C↔p x){b:Nat}(H:b+C.length<=100000000):Z (fun n=>FM n (b:Int) C) (fun r=>r=(vn (nx p b),((nx p b+1:Nat):Int))):=by
 unfold FM;have h:=Lf (fun x=>(hC x).2) b;have hle:=Tx (fun x=>(hC x).2) b;have step:∀m:Nat,m<=100000000->Lg C (m:Int)=bif (!decide (vn m∈C))then some (.ret (vn m,((m+1:Nat):Int)))else some (.B7 ((m+1:Nat):Int)):=fun m hm=>by
  unfold Lg;have hl:=oa (m:=m) M;have hw:wr .i64 ((m:Int)+1)=((m+1:Nat):Int):=by rw[F9 M M];rfl
  have e:O1 [118] (cb m)=vn m:=rfl;rw[FL M,ax,sk (show P8 _ _ by unfold P8;simp;omega),e,jl,ax,hw]
 refine Z.B3 (Z.R5 (nx p b-b) (fun k s=>s=((b+k:Nat):Int)) (fun _=>False) (fun r=>r=(vn (nx p b),((nx p b+1:Nat):Int))) rfl (fun k s S hs=>?_) (fun s hs=>?_)) (fun _ F=>F.elim) (fun r hr=>hr)
 ·subst hs;rw[step _ M];have hm:vn (b+k)∈C:=(hC _).2 (h.2.2 _ M M);simp only[hm,decide_true,Bool.not_true,cond_false];exact Z.pure rfl
 ·subst hs;have e:b+(nx p b-b)=nx p b:=by have:=h.1;omega
  rw[e,step _ M];have hm:vn (nx p b)∉C:=fun hm=>h.2.1 ((hC _).1 hm);simp only[hm,decide_false,Bool.not_false,cond_true];exact Z.pure rfl
def ku(env:List gq):List (J×J):=kr (fun k=>(Am.get env k).from_) (fun k=>(Am.get env k).B4) env.length
theorem Lh[Inhabited α](l:List α)(x:α):Am.get (l++[x]) l.length=x/\∀k,k<l.length->Am.get (l++[x]) k=Am.get l k:=by unfold Am.get;refine⟨by simp,fun k S=>?_⟩;rw[ac,ac,cy S]
theorem i7g(env:List gq)(a b:J):ku (env++[⟨a,b⟩])=(a,b)::ku env:=by unfold ku;rw[aa,lz,kr,(Lh env _).1];congr 1;exact TA fun k S=>by rw[(Lh env _).2 k S];exact⟨rfl,rfl⟩
noncomputable def cf(f:O):O:=F8 (NN (E5 f [])) f [] 0
mutual
def P6:O->Prop
 | .mk _ _ w s=>w.length<=3/\s.length<=2/\cY s
def cY:List O->Prop
 | []=>True
 |f::l=>P6 f/\cY l
end
theorem sN(f:O):P6 f↔f.words.length<=3/\f.subs.length<=2/\cY f.subs:=by cases f;rw[P6];rfl
theorem yU:∀ {l:List O},cY l->∀x∈l,P6 x
 | [],_,x,h=>by cases h
 |f::l,h,x,A=>by
  rw[cY]at h;rcases ce.1 A with rfl|A
  ·exact h.1
  ·exact yU h.2 x A
mutual
theorem M1.sm:∀(f:O),M1 f->P6 f
 | .mk k n w s,h=>by rw[P6];exact⟨vL h,Fo h,cx.sm s ((dR _).1 h).2⟩
theorem cx.sm:∀(l:List O),cx l->cY l
 | [],_=>by rw[cY];trivial
 |f::l,h=>by rw[cY];exact⟨M1.sm f (lB.1 h f (az ..)),cx.sm l (lB.2 fun x A=>lB.1 h x (aw _ A))⟩
end
mutual
theorem P6.F8(N:Nat->J):∀(f:O) (env:List (J×J)) (i:Nat),P6 f->P6 (F8 N f env i)
 | .mk k n w s,env,i,h=>by rw[P6]at h;rw[Go.Proofs.YtchbmngmmdeenaaGreatDoor.F8,P6];exact⟨by rw[bc];exact h.1,by rw[qU];exact h.2.1,cY.F8 N s _ _ h.2.2⟩
theorem cY.F8(N:Nat->J):∀(l:List O) (env:List (J×J)) (i:Nat),cY l->cY (L4 N l env i)
 | [],env,i,_=>by rw[L4,cY];trivial
 |f::l,env,i,h=>by rw[cY]at h;rw[L4,cY];exact⟨P6.F8 N f env i h.1,cY.F8 N l env _ h.2⟩
end
mutual
theorem Cg:∀(f:O),M1 f->∀(W:List J)(x:J),E5 f W x->M0 x
 | .mk k n w s,h,W,x,A=>by
   rw[E5]at A;rcases A with A|A
   ·exact(kg ((dR _).1 h).1).2.2.2.2 x A.1
   ·exact d4g s ((dR _).1 h).2 _ x A
theorem d4g:∀(l:List O),cx l->∀(W:List J)(x:J),F5 l W x->M0 x
 | [],_,W,x,A=>by rw[F5]at A;exact A.elim
 |f::l,h,W,x,A=>by
  rw[F5]at A;rcases A with A|A
  ·exact Cg f (lB.1 h f (az ..)) W x A
  ·exact d4g l (lB.2 fun y hy=>lB.1 h y (aw _ hy)) W x A
end
def kA(a b:List J):List (J×J):=kr (Am.get a) (Am.get b) a.length
theorem i7h{a b:List J}(h:a.length=b.length)(x y:J):kA (a++[x]) (b++[y])=(x,y)::kA a b:=by unfold kA;have e1:=Lh a x;have e2:=Lh b y;rw[aa,lz,kr,e1.1,h,e2.1];congr 1;rw[<-h];exact TA fun k S=>⟨e1.2 k S,e2.2 k M⟩
theorem i7i(l:List J)(x:J):Z (fun _=>vW l x) (fun r=>r=decide (x∈l)):=by
 unfold vW;refine Z.B3 (Z.scan (fun k _=>∀j,j<k->Am.get l j≠x) (fun k r=>r=true/\Am.get l k=x) (fun j L=>absurd L (co _)) (fun k C' S u=>?_)) (fun t F=>?_) (fun r hr=>?_)
 ·unfold TB;refine Z.cond (fun e=>Z.pure ?_) (fun e=>Z.pure ?_)
  ·replace e:=bx e;exact⟨rfl,e⟩
  ·replace e:=bx e;intro j L;by_cases ej:j=k
   ·subst ej;exact e
   ·exact u j M
 ·unfold TD;refine Z.pure (decide_eq_false fun h=>?_).symm;have⟨j,L,e⟩:=U0.1 h;exact F j L e
 ·obtain⟨k,_,S,_,rfl,e⟩:=hr;exact(decide_eq_true (U0.2 ⟨k,S,e⟩)).symm
theorem TF(l:List J)(x:J):vW l x=some (decide (x∈l)):=by obtain⟨r,rfl,N,hN⟩:=i7i l x;exact hN N (ae _)
theorem i7j{l:List J}(a:J)(hl:l.length<=1000000):Z (fun n=>FN n l a) (fun r=>(∀x,x∈r↔x∈l\/x=a)/\r.length<=l.length+1):=by
 unfold FN;simp only[TF,ax];refine Z.cond (fun e=>Z.pure ⟨fun x=>?_,by omega⟩) (fun e=>?_)
 ·grind
 ·refine Z.B3 (Z.loop (fun s:Int=>((l.length:Int)-s).toNat) (fun s=>0<=s/\s<=l.length) (fun t:Int=>0<=t/\t<=(l.length:Int)) (fun _=>False) ⟨IR _,by omega⟩ (fun s hs=>?_)) (fun t F=>?_) (fun _ h=>?_)
  ·have⟨U,X⟩:=hs;unfold TG;refine Z.w6 ⟨W1 fun _=>U,W1 fun h=>by simpa using h⟩ (Z.cond (fun e=>Z.pure ?_) (fun e=>Z.pure ⟨U,X⟩));have h3:s<(l.length:Int):=cp fun h=>by grind
   have hw:wr .i64 (s+1)=s+1:=F9 M M;refine⟨⟨by rw[hw];omega,by rw[hw];omega⟩,?_⟩;rw[hw];omega
  ·have⟨U,X⟩:=F;unfold TH;have hl2:(l.take t.toNat).length=t.toNat:=by rw[db];omega
   have iI:(l.drop t.toNat).length=l.length-t.toNat:=iv;refine Z.w6 ⟨U,by omega⟩ (Z.B9 (Z.w6 ?_ (Z.B9 (Z.w6 ?_ (Z.B9 (Z.w6 ?_ (Z.pure ⟨fun x=>?_,?_⟩)))))))
   ·rw[Y7,hl2];omega
   ·rw[Y7];simp only[aa,an,cz,hl2];omega
   ·rw[Y7];simp only[aa,an,cz,hl2,iI];omega
   ·have e2:x∈l↔x∈l.take t.toNat\/x∈l.drop t.toNat:=by rw[<-al,ew]
    rw[al,al,ao,e2,or_right_comm]
   ·grind
  ·exact gh h
theorem i7k:∀(m:Nat)(f:O),am f<=m->P6 f->∀(W l:List J),W.length+w9 f<=100000->l.length+3*w9 f<=300000->
 Z (fun n=>vX n f W l) (fun r=>(∀x,x∈r↔x∈l\/E5 f W x)/\r.length<=l.length+3*w9 f):=by
 intro m
 induction m with
 |zero=>exact z0
 |succ m ih=>
  intro f hf hwf W l hbd hl;have hnd:=Y8 f;have⟨dU,hsl,N6⟩:=(sN f).1 hwf;refine Z.succ ?_;simp only[vX];refine Z.B3 (P:=L2 (fun t=>(∀x,x∈t↔x∈l\/(x∈f.words/\x∉W))/\t.length<=l.length+3) (fun _=>False)) ((Z.range (fun k s=>(∀x,x∈s↔x∈l\/(x∈f.words.take k/\x∉W))/\s.length<=l.length+k) (fun _=>False) (fun _=>False) ⟨fun x=>by simp,by omega⟩ (fun k s S u=>?_)).mono fun e he=>?_) (fun t F=>?_) nofun
  ·unfold TJ;simp only[TF,ax];refine Z.cond (fun e=>Z.bind (i7j (Am.get f.words k) M) fun v Q=>Z.pure ⟨fun x=>?_,?_⟩) (fun e=>Z.pure ⟨fun x=>?_,by omega⟩)
   ·replace e:=bx e;rw[Q.1 x,u.1 x,H8 S,al,ao];by_cases A:x=Am.get f.words k
    ·subst A;simp[e]
    ·simp[A]
   ·have:=Q.2;omega
   ·replace e:=bx e;rw[u.1 x,H8 S,al,ao];by_cases A:x=Am.get f.words k
    ·subst A;simp[e]
    ·simp[A]
  ·cases e with
   |ret r=>exact he
   |B7 t=>have⟨U,X⟩:=he.elim id gh;rw[cj]at U;exact⟨U,by omega⟩
  ·have⟨U,X⟩:=F;have key:∀I8:List J,(∀y,y∈I8↔y∈(if QK f.kind then f.name::W else W))->I8.length<=W.length+1->Z (fun n=>Ch (vX n) f t I8) (fun r=>(∀x,x∈r↔x∈l\/E5 f W x)/\r.length<=l.length+3*w9 f):=by
    intro I8 H mQ;unfold Ch;refine Z.w6 M (Z.B3 (P:=L2 (fun r=>(∀x,x∈r↔x∈t\/F5 f.subs I8 x)/\r.length<=t.length+3*B8 f.subs) (fun _=>False)) ((Z.range (fun k s=>(∀x,x∈s↔x∈t\/F5 (f.subs.take k) I8 x)/\s.length<=t.length+3*B8 (f.subs.take k)) (fun _=>False) (fun _=>False) ⟨fun x=>by simp[F5],by omega⟩ (fun k s S u=>?_)).mono fun e he=>?_) (fun r hr=>?_) nofun)
    ·unfold TL;have hsz:=W3 S;have fD:=eO S;refine Z.bind (ih _ M (yU N6 _ (get_mem S)) I8 s M M) fun v Q=>Z.pure ⟨fun x=>?_,?_⟩
     ·rw[Q.1 x,u.1 x,H8 S,SR,or_assoc]
     ·rw[H8 S,lC];have:=Q.2;have:=u.2;omega
    ·grind
    ·have⟨h3,h4⟩:=hr;unfold TM;refine Z.pure ⟨fun x=>?_,by omega⟩;rw[h3 x,U x,oZ,Fp f.subs _ _ H x,or_assoc]
   unfold TN;refine Z.cond (fun e=>Z.B9 (Z.w6 ?_ (Z.B9 (Z.w6 ?_ (key _ (fun y=>?_) ?_))))) (fun e=>key _ (fun y=>?_) M)
   ·exact lT
   ·exact lT
   ·replace e:=bx e;have e:QK f.kind:=e;rw[if_pos e];simp[or_comm]
   ·simp
   ·replace e:=bx e;have e:¬QK f.kind:=fun h=>by unfold QK at h;omega
    rw[if_neg e]
mutual
def swp(σ:J->J):O->O
 | .mk k n w s=>.mk k (if QK k then σ n else n) (w.map σ) (iJ σ s)
def iJ(σ:J->J):List O->List O
 | []=>[]
 |f::l=>swp σ f::iJ σ l
end
theorem i7l(σ:J->J)(f:O):swp σ f= .mk f.kind (if QK f.kind then σ f.name else f.name) (f.words.map σ) (iJ σ f.subs):=by cases f;rw[swp];rfl
theorem d4h(σ:J->J):∀l:List O,(iJ σ l).length=l.length
 | []=>by rw[iJ]
 |f::l=>by rw[iJ,an,an,d4h σ l]
theorem d4i(σ:J->J):∀(l:List O)(x:O),iJ σ (l++[x])=iJ σ l++[swp σ x]
 | [],x=>by simp[iJ]
 |a::l,x=>by rw[di,iJ,iJ,d4i σ l x];rfl
theorem FP{l:List J}{k:Nat}(h:k<l.length):l.drop k=Am.get l k::l.drop (k+1):=by rw[kz h];simp[Am.get,h]
theorem d4j{l0 l1:List J}(hll:l0.length=l1.length)(w:J)(body:Nat->J->Option (C1 ρ J J))(H:∀k,body k w=bif decide (Am.get l0 k=w)then w6 ((k:Int)<(l1.length:Int)) (some (.brk (Am.get l1 k)))else some (.B7 w)):
 Z (fun _=>K6 body l0.length w) (L2 (fun t=>t=sub (l0.zip l1) w) (fun _=>False)):=by
 refine(Z.range (fun k s=>s=w/\sub (l0.zip l1) w=sub ((l0.drop k).zip (l1.drop k)) w) (fun t=>t=sub (l0.zip l1) w) (fun _=>False) ⟨rfl,rfl⟩ (fun k s S hs=>?_)).mono fun e he=>?_
 ·obtain⟨rfl,hs⟩:=hs;rw[H];rw[FP S,FP (l:=l1) M,te,kh]at hs;refine Z.cond (fun e=>Z.w6 M (Z.pure ?_)) (fun e=>Z.pure ?_)
  ·replace e:=bx e;rw[if_pos e]at hs;exact hs.symm
  ·replace e:=bx e;rw[if_neg e]at hs;exact⟨rfl,hs⟩
 ·cases e with
  |ret r=>exact he
  |B7 t=>
   rcases he with⟨rfl,he⟩|he
   ·rw[lm,List.zip_nil_left,vJ]at he;exact he.symm
   ·exact he
theorem i7m{l0 l1:List J}(hll:l0.length=l1.length)(hl:l0.length<=100000):∀(m:Nat)(g:O),am g<=m->P6 g->Z (fun n=>vY n g l0 l1) (fun r=>r=swp (sub (l0.zip l1)) g):=by
 intro m;induction m with
 |zero=>exact z0
 |succ m ih=>
  intro f hf N6;have⟨dU,hsl,N6⟩:=(sN f).1 N6;refine Z.succ ?_;simp only[vY];refine Z.B3 (P:=L2 (fun t=>t=f.words.map (sub (l0.zip l1))) (fun _=>False)) ((Z.range (fun k s=>s=(f.words.take k).map (sub (l0.zip l1))) (fun _=>False) (fun _=>False) B5 (fun k s S hs=>?_)).mono fun e he=>?_) (fun t F=>?_) nofun
  ·unfold TP;refine Z.w6 M (Z.B3 (d4j hll (Am.get f.words k) _ (fun j=>rfl)) (fun t F=>?_) nofun);unfold TQ;have F:t=sub (l0.zip l1) (Am.get f.words k):=F;refine Z.B9 (Z.w6 ?_ (Z.pure ?_))
   ·subst hs;exact lT
   ·show _=_;rw[hs,F,H8 S,cm];rfl
  ·grind
  ·subst F;have key:∀nm:J,nm=(if QK f.kind then sub (l0.zip l1) f.name else f.name)->Z (fun n=>Ci (vY n) f l0 l1 (f.words.map (sub (l0.zip l1))) nm) (fun r=>r=swp (sub (l0.zip l1)) f):=by
    intro nm hnm;unfold Ci;refine Z.w6 M (Z.B3 (P:=L2 (fun t=>t=iJ (sub (l0.zip l1)) f.subs) (fun _=>False)) ((Z.range (fun k s=>s=iJ (sub (l0.zip l1)) (f.subs.take k)) (fun _=>False) (fun _=>False) (by simp[iJ]) (fun k s S hs=>?_)).mono fun e he=>?_) (fun t F=>?_) nofun)
    ·unfold TS;have hsz:=W3 S;refine Z.bind (ih _ M (yU N6 _ (get_mem S))) fun v Q=>Z.B9 (Z.w6 ?_ (Z.pure ?_))
     ·rw[Y7,hs];simp only[aa,d4h,db,an,cz];omega
     ·show s++[v]=_;rw[hs,Q,H8 S,d4i]
    ·grind
    ·unfold TU;refine Z.pure ?_;rw[i7l,hnm];have F:t=iJ (sub (l0.zip l1)) f.subs:=F;rw[F]
   unfold TV;refine Z.cond (fun e=>?_) (fun e=>?_)
   ·replace e:=bx e;have e:QK f.kind:=e;refine Z.w6 M (Z.B3 (d4j hll f.name (TW l0 f l1) (fun j=>rfl)) (fun t F=>?_) nofun);unfold TX;exact key t (by rw[if_pos e];exact F)
   ·replace e:=bx e;have e:¬QK f.kind:=fun h=>by unfold QK at h;omega
    exact key _ (by rw[if_neg e])
theorem d4k(σ:J->J){w:J}(h:σ w=w):∀env:List (J×J),σ (sub env w)=sub (env.map fun e=>(e.1,σ e.2)) w
 | []=>by rw[List.map_nil,vJ,h]
 |(a,b)::env=>by
  rw[bv,kh,kh];split
  ·rfl
  ·exact d4k σ h env
theorem Cj(N:Nat->J):∀n i,(nms N i n).length=n
 |0,i=>rfl
 |n+1,i=>by rw[nms,an,Cj N n]
theorem d4l(N:Nat->J)(k:Nat):nms N 0 (k+1)=nms N 0 k++[N k]:=by rw[d3G,dq];rfl
theorem d4m(N:Nat->J):∀n i d,d<n->sub ((nms mk i n).zip (nms N i n)) (mk (i+d))=N (i+d)
 |0,i,d,h=>absurd h (co _)
 |n+1,i,d,h=>by
  rw[nms,nms,te,kh];cases d with
  |zero=>exact if_pos rfl
  |succ d=>rw[if_neg fun e=>by have:=mk_inj e;omega];have:=d4m N n (i+1) d M;rw[Nat.add_right_comm,da]at this;exact this
theorem TY{s:B1}{i:Nat}(h:i<s.words.length):Am.get (E3 s) i=Am.get s.words i:=by unfold E3 Am.get;rw[ac,ac,bl,cy h]
theorem Li{s:B1}{i:Nat}(h:i<s.A8.length):Am.get (E3 s) (s.words.length+i)=Am.get s.A8 i:=by unfold E3 Am.get;rw[ac,ac,bl,c8 M,cy M];congr 2;omega
theorem Lj{s:B1}{i:Nat}(_:i<s.parts.length):Am.get (E3 s) (s.words.length+s.A8.length+i)=Am.get s.parts i:=by unfold E3 Am.get;rw[ac,ac,c8 (by simp only[aa];omega)];congr 2;simp only[aa];omega
structure S4(s:B1):Prop where
 form:Y0 s.form
 len:(E3 s).length<=300
 name:∀x∈E3 s,M0 x
 uniq:∀i j,i<j->j<(E3 s).length->Am.get (E3 s) i≠Am.get (E3 s) j
 words:∀x∈s.words,E5 s.form [] x
 A8:∀x∈s.A8,W8 (D2 s.form) x\/V6 (D2 s.form) x
 parts:∀x∈s.parts,¬W8 (D2 s.form) x/\V6 (D2 s.form) x
 d4n:Ca s
theorem Fw.good{s:B1}(h:Fw s):S4 s:=by
 have⟨U,X,h3,h4⟩:=h;have aX:=gF s;have hn:∀j,j<(E3 s).length->M0 (Am.get (E3 s) j):=fun j L=>cp fun h=>by have:=h3 j L;unfold P9 at this;rw[if_pos h]at this;exact absurd this D5
 have hu:∀j,j<(E3 s).length->Am.get (E3 s) j∉ (E3 s).take j:=fun j L h=>by have:=h3 j L;unfold P9 at this;rw[if_neg (fun e=>e (hn j L)),if_pos h]at this;exact absurd this D5
 refine⟨U,X,fun x A=>?_,fun i j hij L e=>hu j L ((FC M).2 ⟨i,hij,e⟩),fun x A=>?_,fun x A=>?_,fun x A=>?_,h4⟩
 ·obtain⟨j,L,rfl⟩:=U0.1 A;exact hn j L
 ·obtain⟨j,L,rfl⟩:=U0.1 A;have pH:j<(E3 s).length:=by omega
  have:=h3 j pH;unfold P9 at this;rw[if_neg (fun e=>e (hn j pH)),if_neg (hu j pH),if_pos L]at this;rw[<-TY L];exact cp fun h=>by rw[if_neg h]at this;exact absurd this D5
 ·obtain⟨i,u,rfl⟩:=U0.1 A;have pH:s.words.length+i<(E3 s).length:=by omega
  have:=h3 _ pH;unfold P9 at this;rw[if_neg (fun e=>e (hn _ pH)),if_neg (hu _ pH),if_neg M,if_pos M]at this;rw[<-Li u];exact cp fun h=>by rw[if_neg h]at this;exact absurd this D5
 ·obtain⟨i,u,rfl⟩:=U0.1 A;have pH:s.words.length+s.A8.length+i<(E3 s).length:=by omega
  have:=h3 _ pH;unfold P9 at this;rw[if_neg (fun e=>e (hn _ pH)),if_neg (hu _ pH),if_neg M,if_neg M]at this;rw[<-Lj u];by_cases hw:W8 (D2 s.form) (Am.get (E3 s) (s.words.length+s.A8.length+i))
  ·grind
  ·grind
def F6(s:B1)(f:O):Prop:=(f.kind=2/\f.words.length=0)/\f.name∈s.parts
instance(s:B1)(f:O):Decidable (F6 s f):=inferInstanceAs (Decidable (_/\_))
def gG(BB W:List J)(w:J):J:=if w∈W then 63::w else if w∈BB then 46::w else w
def gY(s:B1)(f:O):J:=if QK f.kind then 63::f.name else if F6 s f then 43::f.name else if f.kind=2/\f.name∈s.A8 then 33::f.name else f.name
mutual
def aZ(s:B1):O->List J->O
 | .mk k n w l,W=>.mk k (gY s (.mk k n w l)) (w.map (gG s.words W)) (bw s l (if QK k then n::W else W))
def bw(s:B1):List O->List J->List O
 | [],_=>[]
 |f::l,W=>aZ s f W::bw s l W
end
theorem yV(s:B1)(f:O)(W:List J):aZ s f W= .mk f.kind (gY s f) (f.words.map (gG s.words W)) (bw s f.subs (if QK f.kind then f.name::W else W)):=by cases f;rw[aZ];rfl
theorem Ua(s:B1):∀(l:List O)(W:List J),(bw s l W).length=l.length
 | [],_=>by rw[bw]
 |f::l,W=>by rw[bw,an,an,Ua s l]
theorem d4o(s:B1):∀(l:List O)(x:O)(W:List J),bw s (l++[x]) W=bw s l W++[aZ s x W]
 | [],x,W=>by simp[bw]
 |a::l,x,W=>by rw[di,bw,bw,d4o s l x];rfl
theorem i7n{BB W I8:List J}(h:∀y,y∈W↔y∈I8)(w:J):gG BB W w=gG BB I8 w:=by
 unfold gG;by_cases e:w∈W
 ·grind
 ·grind
mutual
theorem i7o(s:B1):∀(f:O)(W I8:List J),(∀y,y∈W↔y∈I8)->aZ s f W=aZ s f I8
 | .mk k n w l,W,I8,h=>by
   rw[aZ,aZ,Ub s l _ (if QK k then n::I8 else I8) (fun y=>?_),e8 fun x _=>i7n h x]
   split
   ·simp[h y]
   ·exact h y
theorem Ub(s:B1):∀(l:List O)(W I8:List J),(∀y,y∈W↔y∈I8)->bw s l W=bw s l I8
 | [],W,I8,h=>by rw[bw,bw]
 |f::l,W,I8,h=>by rw[bw,bw,i7o s f W I8 h,Ub s l W I8 h]
end
theorem yW(s:B1)(f:O):lF s f=some (decide (F6 s f)):=by unfold lF F6;simp only[jl];by_cases U:f.kind=2<;>by_cases X:f.words.length=0<;>simp[U,X,gd]
theorem i7p{f:O}(hwf:M1 f):f.name.length<=30:=by
 have h:=kg ((dR f).1 hwf).1;by_cases S:f.kind=2\/QK f.kind
 ·exact(h.2.2.1 S).2.1
 ·rw[h.2.2.2.1 S];decide
theorem d4p{f:O}(hwf:M1 f){x:J}(A:x∈f.words):M0 x:=(kg ((dR f).1 hwf).1).2.2.2.2 x A
theorem i7q(s:B1)(g:O):∀(m:Nat)(f:O),am f<=m->M1 f->∀W:List J,W.length+w9 f<=100000->
 Z (fun n=>vZ n f W g.kind g.name g.words g.subs s.words s.A8 s.parts) (fun r=>r=aZ s f W):=by
 intro m
 induction m with
 |zero=>exact z0
 |succ m ih=>
  intro f hf hwf W hbd;have hnd:=Y8 f;have dU:=vL hwf;have hsl:=Fo hwf;have mK:=i7p hwf;refine Z.succ ?_;simp only[vZ];refine Z.B3 (P:=L2 (fun t=>t=f.words.map (gG s.words W)) (fun _=>False)) ((Z.range (fun k t=>t=(f.words.take k).map (gG s.words W)) (fun _=>False) (fun _=>False) B5 (fun k t S F=>?_)).mono fun e he=>?_) (fun t F=>?_) nofun
  ·unfold Uc;simp only[jl,ax];have pz:=(d4p hwf (get_mem S)).2.1;have eR:(f.words.take (k+1)).map (gG s.words W)=t++[gG s.words W (Am.get f.words k)]:=by rw[H8 S,cm,F];rfl
   have nZ:t.length=k:=by grind
   refine Z.cond (fun e=>Z.w6 (by unfold P8;simp;omega) (Z.B9 (Z.w6 ?_ (Z.pure ?_)))) (fun e=>Z.cond (fun e2=>Z.w6 (by unfold P8;simp;omega) (Z.B9 (Z.w6 ?_ (Z.pure ?_)))) (fun e2=>Z.B9 (Z.w6 ?_ (Z.pure ?_))))
   ·exact lT
   ·replace e:=bx e;show _=_;rw[eR];unfold gG;rw[if_pos e];rfl
   ·exact lT
   ·replace e:=bx e;replace e2:=bx e2;show _=_;rw[eR];unfold gG;rw[if_neg e,if_pos e2];rfl
   ·exact lT
   ·replace e:=bx e;replace e2:=bx e2;show _=_;rw[eR];unfold gG;rw[if_neg e,if_neg e2]
  ·grind
  ·subst F;have key:∀(nm:J)(I8:List J),nm=gY s f->(∀y,y∈I8↔y∈(if QK f.kind then f.name::W else W))->I8.length<=W.length+1->
    Z (fun n=>wg (vZ n) f g.kind g.name g.words g.subs s.words s.A8 s.parts (f.words.map (gG s.words W)) (nm,I8)) (fun r=>r=aZ s f W):=by
    intro nm I8 hnm H hlen
    unfold wg
    refine Z.B3 (P:=L2 (fun t=>t=bw s f.subs I8) (fun _=>False)) ((Z.range (fun k t=>t=bw s (f.subs.take k) I8) (fun _=>False) (fun _=>False) (by simp[bw]) (fun k t S F=>?_)).mono fun e he=>?_) (fun t F=>?_) nofun
    ·unfold Ud;have hsz:=W3 S;have fD:=eO S;refine Z.bind (ih _ M (vM hwf S) I8 M) fun v Q=>Z.B9 (Z.w6 ?_ (Z.pure ?_))
     ·rw[Y7,F];simp only[aa,Ua,db,an,cz];omega
     ·show _=_;rw[Q,F,H8 S,d4o]
    ·grind
    ·unfold Ue;refine Z.pure ?_;have F:t=bw s f.subs I8:=F;rw[yV,F,hnm,Ub s f.subs _ _ H]
   unfold Uf;simp only[nU,yW,jl,ax];refine Z.cond (fun e=>?_) (fun e=>?_)
   ·replace e:=bx e;refine Z.bind (P:=fun v=>v=W) (Z.pure rfl) fun v Q=>?_;subst Q;refine Z.B9 (Z.w6 ?_ (Z.w6 (by unfold P8;simp;omega) (key _ _ (by unfold gY;rw[if_pos e];rfl) (fun y=>?_) B5)))
    ·exact lT
    ·rw[if_pos e];simp[or_comm]
   ·replace e:=bx e;have H:∀y,y∈W↔y∈(if QK f.kind then f.name::W else W):=fun y=>by rw[if_neg e]
    refine Z.cond (fun e2=>?_) (fun e2=>?_)
    ·have e2:F6 s f:=of_decide_eq_true e2;exact Z.w6 (by unfold P8;simp;omega) (key _ _ (by unfold gY;rw[if_neg e,if_pos e2];rfl) H M)
    ·have e2:¬F6 s f:=of_decide_eq_false e2;refine Z.bind (P:=fun v=>f.kind=2->v=decide (f.name∈s.A8)) (Z.gd (fun g=>Z.pure fun _=>rfl) (fun g h=>by simp[h]at g)) fun v Q=>?_;refine Z.cond (fun e3=>?_) (fun e3=>?_)
     ·replace e3:=bx e3;have:=Q e3.1;rw[e3.2]at this;exact Z.w6 (by unfold P8;simp;omega) (key _ _ (by unfold gY;rw[if_neg e,if_neg e2,if_pos ⟨e3.1,of_decide_eq_true this.symm⟩];rfl) H M)
     ·refine key _ _ ?_ H M;unfold gY;rw[if_neg e,if_neg e2,if_neg fun h=>?_];rw[Q h.1]at e3;simp[h.1,h.2]at e3
theorem Ug(c:UInt8)(l:List J)(hl:l.length<=1000000)(A:∀x∈l,x.length<=1000000):Z (fun _=>yX [c] l) (fun r=>r=l.map (c:: ·)):=by
 unfold yX;refine Z.B3 (P:=L2 (fun t=>t=l.map (c:: ·)) (fun _=>False)) ((Z.range (fun k t=>t=(l.take k).map (c:: ·)) (fun _=>False) (fun _=>False) B5 (fun k t S F=>?_)).mono fun e he=>?_) (fun t F=>?_) nofun
 ·unfold Uh;have:=A _ (get_mem S);refine Z.w6 (by unfold P8;simp;omega) (Z.B9 (Z.w6 ?_ (Z.pure ?_)))
  ·rw[Y7,F];simp only[aa,bc,db,an,cz];omega
  ·show _=_;rw[H8 S,cm,F];rfl
 ·grind
 ·exact Z.pure F
def gZ(s:B1):B1:=⟨aZ s s.form [],s.words.map (46:: ·),s.A8.map (33:: ·),s.parts.map (43:: ·)⟩
theorem i7r{s:B1}(h:S4 s):Z (fun n=>FQ n s) (fun r=>r=gZ s):=by
 have aX:=gF s;have hl:=h.len;have hn:∀x∈E3 s,x.length<=1000000:=fun x A=>by have:=(h.name x A).2.1;omega
 have hnd:=h.form.2.1;unfold FQ;refine Z.bind (i7q s s.form _ s.form (ae _) h.form.1 [] (by simp;omega)) fun v1 hv1=>?_;refine Z.bind (Ug 46 s.words M fun x A=>hn x (al.2 (.inl (al.2 (.inl A))))) fun v2 hv2=>?_;refine Z.bind (Ug 33 s.A8 M fun x A=>hn x (al.2 (.inl (al.2 (.inr A))))) fun v3 W4=>?_;refine Z.bind (Ug 43 s.parts M fun x A=>hn x (al.2 (.inr A))) fun v4 fF=>?_;subst hv1 hv2 W4 fF;exact Z.pure rfl
def zf:O:=.mk 0 [] [] []
abbrev Env:=List (J×C4)
theorem oc{xx:Type}(k:J)(v:xx):∀m:List (J×xx),assoc k (I4 k v m)=some v
 | []=>by simp[I4,assoc]
 |(a,C')::m=>by
  rw[I4];split
  ·simp[assoc]
  ·rename_i h;rw[assoc,if_neg h,oc k v m]
theorem od{xx:Type}{k k':J}(h:k'≠k)(v:xx):∀m:List (J×xx),assoc k' (I4 k v m)=assoc k' m
 | []=>by
   show(if k'=k then some v else assoc k' ([]:List (J×xx)))=_
   rw[if_neg h]
 |(a,C')::m=>by
  rw[I4];split
  ·rename_i e;subst e;rw[assoc,assoc,if_neg h,if_neg h]
  ·rw[assoc,assoc,od h v m]
open Classical in
noncomputable def U4(env:Env)(b:C4):Option Env:=match assoc b.name env with
 |none=>some (I4 b.name b env)
 |some b'=>if b'=b then some env else none
noncomputable def H9:Env->List C4->Option Env
 |env,[]=>some env
 |env,b::l=>(U4 env b).bind fun e=>H9 e l
theorem d4q:∀(a b:List C4)(env:Env),H9 env (a++b)=(H9 env a).bind fun e=>H9 e b
 | [],b,env=>rfl
 |x::a,b,env=>by
  rw[di,H9,H9];cases U4 env x with
  |none=>rfl
  |some e=>exact d4q a b e
theorem Ck{env e:Env}{b:C4}(h:U4 env b=some e):assoc b.name e=some b/\(∀k c,assoc k env=some c->assoc k e=some c)/\(∀k c,assoc k e=some c->assoc k env=some c\/(b.name=k/\b=c)):=by
 unfold U4 at h;split at h
 ·rename_i h0;cases h;refine⟨oc _ _ _,fun k c K=>?_,fun k c K=>?_⟩
  ·by_cases e:k=b.name
   ·rw[e,h0]at K;cases K
   ·rw[od e];exact K
  ·by_cases e:k=b.name
   ·rw[e,oc]at K;exact .inr ⟨e.symm,Option.some.inj K⟩
   ·rw[od e]at K;exact .inl K
 ·grind
theorem jG:∀(ps:List C4)(env e:Env),H9 env ps=some e->(∀b∈ps,assoc b.name e=some b)/\(∀k c,assoc k env=some c->assoc k e=some c)/\(∀k c,assoc k e=some c->assoc k env=some c\/(∃b∈ps,b.name=k/\b=c))
 | [],env,e,h=>by cases h;exact⟨fun b H=>(by cases H),fun k c K=>K,fun k c K=>.inl K⟩
 |b::l,env,e,h=>by
  rw[H9]at h;cases hp:U4 env b with
  |none=>rw[hp]at h;cases h
  |some e1=>
   rw[hp]at h;have⟨p1,p2,p3⟩:=Ck hp;have⟨r1,r2,r3⟩:=jG l e1 e h;refine⟨fun c K=>?_,fun k c K=>r2 k c (p2 k c K),fun k c K=>?_⟩
   ·grind
   ·grind
def IsKey(k:J):Prop:=∃c t,k=c::t/\(c=33\/c=43\/c=46\/c=63)
theorem d4r{x:J}(h:M0 x):¬IsKey x:=fun⟨c,t,e,K⟩=>by have:=h.2.2.1.1;subst e;rcases K with rfl|rfl|rfl|rfl<;>simp[P0]at this
def lH(b:C4):Prop:=P6 b.form/\((∃x,b.name=43::x/\b.text=[])\/(∃c x,b.name=c::x/\(c=33\/c=46\/c=63)/\b.form=zf))
def jH(env:Env):Prop:=∀k b,assoc k env=some b->b.name=k/\lH b
theorem Ui{env e:Env}{b:C4}(h:jH env)(H:lH b)(hp:U4 env b=some e):jH e:=fun k c K=>by
 rcases(Ck hp).2.2 k c K with U|⟨rfl,rfl⟩
 ·exact h k c U
 ·exact⟨rfl,H⟩
theorem d4s{env e:Env}{ps:List C4}(h:jH env)(H:∀b∈ps,lH b)(hp:H9 env ps=some e):jH e:=fun k c K=>by
 rcases(jG _ _ _ hp).2.2 k c K with U|⟨b,hm,U,X⟩
 ·exact h k c U
 ·grind
theorem lH.key{b:C4}(h:lH b):IsKey b.name:=by
 rcases h.2 with⟨x,e,_⟩|⟨c,x,e,K,_⟩
 ·exact⟨43,x,e,by simp⟩
 ·exact⟨c,x,e,by rcases K with h|h|h<;>simp[h]⟩
theorem d4t:P6 zf:=by unfold zf;rw[P6];exact⟨by decide,by decide,by rw[cY];trivial⟩
theorem yY{x y:J}(h:c=33\/c=46\/c=63):lH ⟨c::x,y,zf⟩:=⟨d4t,.inr ⟨c,x,rfl,h,rfl⟩⟩
def cat(a b:Option (List C4)):Option (List C4):=a.bind fun x=>b.bind fun y=>some (x++y)
theorem Lk(a b:Option (List C4))(s:Env):(cat a b).bind (H9 s)=(a.bind (H9 s)).bind fun s'=>b.bind (H9 s'):=by
 cases a with
 |none=>rfl
 |some x=>
  cases b with
  |none=>show none=(H9 s x).bind fun s'=>none;cases H9 s x<;>rfl
  |some y=>exact d4q x y s
theorem d4u(o:Option (List C4))(b:C4)(s:Env):(o.map (b:: ·)).bind (H9 s)=(U4 s b).bind fun s'=>o.bind (H9 s'):=by
 cases o with
 |none=>show none=_;cases U4 s b<;>rfl
 |some x=>rfl
def J8(BB W:List J):List J->List J->Option (List C4)
 |x::xs,y::ys=>if x∈W then(J8 BB W xs ys).map (⟨63::x,y,zf⟩:: ·)else if x∈BB then(J8 BB W xs ys).map (⟨46::x,y,zf⟩:: ·)else if x=y then J8 BB W xs ys else none
 | _,_=>some []
def aA(s:B1)(f g:O):Option (List C4):=
 if QK f.kind then some [⟨63::f.name,g.name,zf⟩]else if f.kind=2/\f.name∈s.A8 then some [⟨33::f.name,g.name,zf⟩]else if f.name=g.name then some []else none
mutual
def R3(s:B1):O->List J->O->Option (List C4)
 | .mk k n w l,W,g=>if F6 s (.mk k n w l)then some [⟨43::n,[],g⟩]
   else if k≠g.kind\/w.length≠g.words.length then none
   else cat (aA s (.mk k n w l) g) (cat (J8 s.words W w g.words) (N7 s l (if QK k then n::W else W) g.subs))
def N7(s:B1):List O->List J->List O->Option (List C4)
 | [],_,_=>some []
 |f::l,W,gs=>match gs with
  | []=>some []
  |g::gs=>cat (R3 s f W g) (N7 s l W gs)
end
theorem Uj(s:B1)(f:O)(W:List J)(g:O):R3 s f W g=if F6 s f then some [⟨43::f.name,[],g⟩]else if f.kind≠g.kind\/f.words.length≠g.words.length then none else cat (aA s f g) (cat (J8 s.words W f.words g.words) (N7 s f.subs (if QK f.kind then f.name::W else W) g.subs)):=by cases f;rw[R3];rfl
theorem Uk{b:Option (List C4)}{BE:C4->Prop}(ha:∀x,a=some x->∀c∈x,BE c)(H:∀x,b=some x->∀c∈x,BE c):∀x,cat a b=some x->∀c∈x,BE c:=fun x A c K=>by
 unfold cat at A;cases a with
 |none=>cases A
 |some y=>
  cases b with
  |none=>cases A
  |some z=>grind
theorem d4v(BB W:List J):∀(xs ys:List J)(ps:List C4),J8 BB W xs ys=some ps->∀b∈ps,lH b
 | [],ys,ps,h,b,H=>by rw[J8]at h;cases h;cases H;simp
 |x::xs,[],ps,h,b,H=>by rw[J8]at h;cases h;cases H;simp
 |x::xs,y::ys,ps,h,b,H=>by
  rw[J8]at h;have ih:=d4v BB W xs ys;have mp:∀c:C4,lH c->(J8 BB W xs ys).map (c:: ·)=some ps->lH b:=fun c K h=>by
   cases hp:J8 BB W xs ys with
   |none=>rw[hp]at h;cases h
   |some q=>grind
  split at h
  ·exact mp _ (yY (.inr (.inr rfl))) h
  ·split at h
   ·exact mp _ (yY (.inr (.inl rfl))) h
   ·grind
theorem i7s(s:B1)(f g:O)(ps:List C4)(h:aA s f g=some ps):∀b∈ps,lH b:=fun b H=>by
 unfold aA at h;split at h
 ·cases h;rw[ao]at H;subst H;exact yY (.inr (.inr rfl))
 ·split at h
  ·cases h;rw[ao]at H;subst H;exact yY (.inl rfl)
  ·grind
mutual
theorem Ul(s:B1):∀(f:O)(W:List J)(g:O),P6 g->∀ps,R3 s f W g=some ps->∀b∈ps,lH b
 | .mk k n w l,W,g,hg,ps,h,b,H=>by
   rw[R3]at h;split at h
   ·cases h;rw[ao]at H;subst H;exact⟨hg,.inl ⟨n,rfl,rfl⟩⟩
   ·split at h
    ·cases h
    ·exact Uk (fun x A=>i7s s _ g x A) (Uk (fun x A=>d4v _ _ _ _ x A) (fun x A=>d4w s l _ g.subs ((sN g).1 hg).2.2 x A)) ps h b H
theorem d4w(s:B1):∀(l:List O)(W:List J)(gs:List O),cY gs->∀ps,N7 s l W gs=some ps->∀b∈ps,lH b
 | [],W,gs,hg,ps,h,b,H=>by rw[N7]at h;cases h;cases H
 |f::l,W,[],hg,ps,h,b,H=>by rw[N7]at h;cases h;cases H
 |f::l,W,g::gs,hg,ps,h,b,H=>by rw[N7]at h;rw[cY]at hg;exact Uk (fun x A=>Ul s f W g hg.1 x A) (fun x A=>d4w s l W gs hg.2 x A) ps h b H
end
theorem i7t(a b:List J):Cl a b=some (decide (a=b)):=by
 have h:Z (fun _=>Cl a b) (fun r=>r=decide (a=b)):=by
  unfold Cl;refine Z.cond (fun e=>Z.pure ?_) (fun e=>?_)
  ·grind
  replace e:=bx e;have hl:a.length=b.length:=by omega
  refine Z.B3 (Z.scan (fun k _=>a.take k=b.take k) (fun k r=>r=false/\Am.get a k≠Am.get b k) B5 (fun k C' S u=>?_)) (fun t F=>?_) (fun r hr=>?_)
  ·unfold Um;refine Z.w6 M (Z.cond (fun e=>Z.pure ?_) (fun e=>Z.pure ?_))
   ·replace e:=bx e;exact⟨rfl,e⟩
   ·replace e:=bx e;show a.take (k+1)=b.take (k+1);rw[H8 S,H8 (l:=b) M,u,e]
  ·unfold Un;refine Z.pure (decide_eq_true ?_).symm;have F:a.take a.length=b.take a.length:=F;rw[cj,hl,cj]at F;exact F
  ·obtain⟨k,_,_,_,rfl,h⟩:=hr;exact(decide_eq_false fun e=>h (by rw[e])).symm
 obtain⟨r,rfl,N,hN⟩:=h;exact hN N (ae _)
open Classical in
theorem i7u:∀(m:Nat)(f:O),am f<=m->P6 f->∀g:O,Z (fun n=>Cm n f g) (fun r=>r=decide (f=g)):=by
 intro m;induction m with
 |zero=>exact z0
 |succ m ih=>
  intro f hf N6 g;have⟨_,hsl,N6⟩:=(sN f).1 N6;refine Z.succ ?_;simp only[Cm,i7t];refine Z.bind (P:=fun v=>f.kind=g.kind->f.name=g.name->v=decide (f.words=g.words)) (Z.gd (fun _=>Z.pure fun _ _=>by congr) (fun h U X=>by simp[U,X]at h)) fun v Q=>?_;refine Z.cond (fun e=>Z.pure (decide_eq_false fun h=>?_).symm) (fun e=>?_)
  ·grind
  have e1:f.kind=g.kind:=cp fun h=>by simp[h]at e
  have e2:f.name=g.name:=cp fun h=>by simp[h]at e
  have e3:f.words=g.words:=cp fun h=>by have:=Q e1 e2;rw[decide_eq_false h]at this;simp[this]at e
  have e4:f.subs.length=g.subs.length:=cp fun h=>by grind
  refine Z.w6 M (Z.B3 (Z.scan (fun k _=>f.subs.take k=g.subs.take k) (fun k r=>r=false/\Am.get f.subs k≠Am.get g.subs k) B5 (fun k C' S u=>?_)) (fun t F=>?_) (fun r hr=>?_))
  ·unfold Uo;have hsz:=W3 S;refine Z.w6 M (Z.bind (ih _ M (yU N6 _ (get_mem S)) _) fun v2 hv2=>Z.cond (fun e=>Z.pure ?_) (fun e=>Z.pure ?_))
   ·subst hv2;exact⟨rfl,fun h=>by rw[decide_eq_true h]at e;cases e⟩
   ·subst hv2;have h:Am.get f.subs k=Am.get g.subs k:=cp fun h=>by rw[decide_eq_false h]at e;cases e
    show f.subs.take (k+1)=g.subs.take (k+1);rw[H8 S,H8 (l:=g.subs) M,u,h]
  ·unfold Uq;refine Z.pure (decide_eq_true ?_).symm;have F:f.subs.take f.subs.length=g.subs.take f.subs.length:=F;rw[cj,e4,cj]at F;cases f;cases g;simp only[O.kind,O.name,O.words,O.subs]at*
   rw[e1,e2,e3,F]
  ·obtain⟨k,_,_,_,rfl,h⟩:=hr;exact(decide_eq_false fun e=>h (by rw[e])).symm
def RM(o:Option Env)(r:Bool×Env):Prop:=(∀e,o=some e->r=(true,e))/\(o=none->r.1=false)
theorem d4x{env:Env}(he:jH env)(K:c=33\/c=46\/c=63)(x y:J):Z (fun _=>yZ (c::x) y env) (RM (U4 env ⟨c::x,y,zf⟩)):=by
 unfold yZ U4;cases h:assoc (c::x) env with
 |none=>refine Z.cond (fun e=>by simp at e) (fun _=>Z.B9 (Z.pure ?_));simp only[];exact⟨fun e he=>by cases he;rfl,fun he=>by cases he⟩
 |some b=>
  refine Z.cond (fun _=>Z.pure ?_) (fun e=>by simp at e);simp only[];have⟨U,X⟩:=he _ _ h;have hiff:b=⟨c::x,y,zf⟩↔b.text=y:=by
   constructor
   ·intro e;rw[e]
   ·intro e;have⟨_,X⟩:=X;rcases X with⟨z,e1,_⟩|⟨c',z,e1,hc',e2⟩
    ·grind
    ·cases b;simp only at U e2 e;rw[U,e,e2]
  by_cases H:b.text=y
  ·rw[if_pos (hiff.2 H)];refine⟨fun e he=>?_,fun he=>by cases he⟩;cases he;show(decide (((some b).getD default).text=y),env)=_;rw[decide_eq_true (show((some b).getD default).text=y from H)]
  ·rw[if_neg fun e=>H (hiff.1 e)];exact⟨fun e he=>(by cases he),fun _=>decide_eq_false H⟩
def Has(W:List J)(env:Env):Prop:=∀x∈W,(assoc (63::x) env).isSome=true
theorem Has.mono{W:List J}{env e:Env}(h:Has W env)(hm:∀k c,assoc k env=some c->assoc k e=some c):Has W e:=fun x A=>by have⟨c,K⟩:=Option.isSome_iff_exists.1 (h x A);rw[hm _ _ K];rfl
theorem Cn{x:J}{l:List J}:(c::x)∈l.map (c:: ·)↔x∈l:=by grind
theorem d4y(K:c=33\/c=43\/c=46\/c=63){k:J}{l:List J}(h:k∈l.map (c:: ·)):IsKey k:=by obtain⟨y,_,rfl⟩:=bj.1 h;exact⟨c,y,rfl,K⟩
theorem i7v{env:Env}(he:jH env){x:J}(A:¬IsKey x):assoc x env=none:=by
 cases h:assoc x env with
 |none=>rfl
 |some b=>have⟨U,X⟩:=he _ _ h;exact absurd (U▸X.key) A
section
variable {s:B1}
theorem d4z{xs:List J}{k:Nat}(h:k<xs.length):xs.drop k=Am.get xs k::xs.drop (k+1):=FP h
theorem d4A(BB W ys:List J):J8 BB W [] ys=some []:=by cases ys<;>simp[J8]
theorem Ur(env:Env)(b:C4):H9 env [b]=U4 env b:=by rw[H9];cases U4 env b<;>rfl
theorem i7w{f g:O}(hf:M1 f)(hlen:f.words.length=g.words.length)(W:List J){env:Env}(he:jH env)(hh:Has W env):
 Z (fun _=>K6 (Ll (aZ s f W) (gZ s) g) (aZ s f W).words.length env) (L2 (fun t=>(J8 s.words W f.words g.words).bind (H9 env)=some t/\jH t/\Has W t) (fun r=>(J8 s.words W f.words g.words).bind (H9 env)=none/\r.1=false)):=by
 have hml:(aZ s f W).words.length=f.words.length:=by rw[yV];exact bc _
 rw[hml]
 refine(Z.range (fun k t=>(J8 s.words W f.words g.words).bind (H9 env)=(J8 s.words W (f.words.drop k) (g.words.drop k)).bind (H9 t)/\jH t/\Has W t) (fun _=>False) (fun r=>(J8 s.words W f.words g.words).bind (H9 env)=none/\r.1=false) ⟨rfl,he,hh⟩ (fun k t S F=>?_)).mono fun e h=>?_
 ·have⟨F,wh,Lm⟩:=F;have oW:k<g.words.length:=by omega
  have hkm:Am.get (aZ s f W).words k=gG s.words W (Am.get f.words k):=by rw[yV];exact get_map _ S
  rw[d4z S,d4z oW,J8]at F;unfold Ll;simp only[hkm,jl];have nx:¬IsKey (Am.get f.words k):=d4r (d4p hf (get_mem S));have fin:∀(c:UInt8),c=46\/c=63->(J8 s.words W f.words g.words).bind (H9 env)=((J8 s.words W (f.words.drop (k+1)) (g.words.drop (k+1))).map (⟨c::Am.get f.words k,Am.get g.words k,zf⟩:: ·)).bind (H9 t)->
   Z (fun _:Nat=>w6 ((k:Int)<(g.words.length:Int)) <| (yZ (c::Am.get f.words k) (Am.get g.words k) t).bind fun bf=>bif (!bf.1)then some (C1.ret (τ:=Env) (false,bf.2))else some (.B7 bf.2)) (cU (fun t=>(J8 s.words W f.words g.words).bind (H9 env)=(J8 s.words W (f.words.drop (k+1)) (g.words.drop (k+1))).bind (H9 t)/\jH t/\Has W t) (fun _=>False) (fun r=>(J8 s.words W f.words g.words).bind (H9 env)=none/\r.1=false)):=by
   intro c K F
   rw[d4u]at F
   refine Z.w6 M (Z.bind (d4x wh (K.elim (fun h=>.inr (.inl h)) fun h=>.inr (.inr h)) _ _) fun v Q=>?_)
   cases hp:U4 t ⟨c::Am.get f.words k,Am.get g.words k,zf⟩with
   |none=>rw[hp]at F Q;have U:=Q.2 rfl;refine Z.cond (fun _=>Z.pure ⟨F,rfl⟩) (fun e=>by rw[U]at e;cases e)
   |some t'=>rw[hp]at F Q;have U:=Q.1 _ rfl;subst U;refine Z.cond (fun e=>by cases e) (fun _=>Z.pure ⟨F,Ui wh (yY (K.elim (fun h=>.inr (.inl h)) fun h=>.inr (.inr h))) hp,Lm.mono (Ck hp).2.1⟩)
  by_cases U:Am.get f.words k∈W
  ·rw[if_pos U]at F;have e1:gG s.words W (Am.get f.words k)=63::Am.get f.words k:=by unfold gG;rw[if_pos U]
   rw[e1];have X:=Lm _ U;simp only[X];exact fin 63 (.inr rfl) F
  ·rw[if_neg U]at F;by_cases X:Am.get f.words k∈s.words
   ·rw[if_pos X]at F;have e1:gG s.words W (Am.get f.words k)=46::Am.get f.words k:=by unfold gG;rw[if_neg U,if_pos X]
    rw[e1];have h3:decide (46::Am.get f.words k∈(gZ s).words)=true:=decide_eq_true (Cn.2 X);simp only[h3];cases h4:(assoc (46::Am.get f.words k) t).isSome
    ·exact fin 46 (.inl rfl) F
    ·exact fin 46 (.inl rfl) F
   ·rw[if_neg X]at F;have e1:gG s.words W (Am.get f.words k)=Am.get f.words k:=by unfold gG;rw[if_neg U,if_neg X]
    rw[e1];have h3:(assoc (Am.get f.words k) t).isSome=false:=by rw[i7v wh nx];rfl
    have h4:decide (Am.get f.words k∈(gZ s).words)=false:=decide_eq_false fun h=>nx (d4y (.inr (.inr (.inl rfl))) h);simp only[h3,h4];refine Z.w6 M (Z.cond (fun e=>Z.pure ?_) (fun e=>Z.pure ?_))
    ·replace e:=bx e;rw[if_neg e]at F;exact⟨F,rfl⟩
    ·replace e:=bx e;rw[if_pos e]at F;exact⟨F,wh,Lm⟩
 ·cases e with
  |ret r=>exact h
  |B7 t=>have⟨U,X,h3⟩:=h.elim id gh;rw[lm,d4A]at U;exact⟨U,X,h3⟩
end
mutual
theorem d4B(s:B1):∀(f:O)(W:List J),w9 (aZ s f W)=w9 f
 | .mk k n w l,W=>by rw[aZ,w9,w9,d4C s l]
theorem d4C(s:B1):∀(l:List O)(W:List J),B8 (bw s l W)=B8 l
 | [],W=>by rw[bw]
 |f::l,W=>by rw[bw,B8,B8,d4B s f,d4C s l]
end
mutual
theorem d4D(s:B1):∀(f:O)(W:List J),qs (aZ s f W)=(qs f).map (63:: ·)
 | .mk k n w l,W=>by
   rw[aZ,qs,qs,d4E s l,cm];by_cases h:QK k
   ·have:gY s (.mk k n w l)=63::n:=by unfold gY;exact if_pos h
    simp only[if_pos h,this];rfl
   ·simp only[if_neg h];rfl
theorem d4E(s:B1):∀(l:List O)(W:List J),J6 (bw s l W)=(J6 l).map (63:: ·)
 | [],W=>by rw[bw,J6];rfl
 |f::l,W=>by rw[bw,J6,J6,d4D s f,d4E s l,cm]
end
theorem i7x:∀(m:Nat)(f:O),am f<=m->P6 f->Z (fun n=>Co n f) (fun r=>r=f):=by
 intro m;induction m with
 |zero=>exact z0
 |succ m ih=>
  intro f hf N6;have⟨_,hsl,N6⟩:=(sN f).1 N6;refine Z.succ ?_;simp only[Co,Ln,ax];refine Z.B3 (P:=L2 (fun t=>t=f.subs) (fun _=>False)) ((Z.range (fun k t=>t=f.subs.take k) (fun _=>False) (fun _=>False) B5 (fun k t S F=>?_)).mono fun e he=>?_) (fun t F=>?_) nofun
  ·unfold Us;have hsz:=W3 S;refine Z.bind (ih _ M (yU N6 _ (get_mem S))) fun v Q=>Z.B9 (Z.w6 ?_ (Z.pure ?_))
   ·rw[Y7,F];simp only[aa,db,an,cz];omega
   ·show _=_;rw[Q,F,H8 S]
  ·grind
  ·have F:t=f.subs:=F;subst F;unfold Ut;refine Z.pure ?_;cases f;rfl
theorem i7y(x:J)(l:List J)(hl:l.length<=8000000):za x l=some (decide (x∈l)):=by
 have h:Z (fun _=>za x l) (fun r=>r=decide (x∈l)):=by
  unfold za Lo;refine Z.bind (P:=fun r=>0<=r↔x∈l) (Z.w6 M (Z.B3 (Z.scan (fun k _=>∀j,j<k->Am.get l j≠x) (fun k r=>r=(k:Int)/\Am.get l k=x) (fun j L=>absurd L (co _)) (fun k C' S u=>?_)) (fun t F=>?_) (fun r hr=>?_))) fun v Q=>Z.pure ?_
  ·unfold Uu;refine Z.cond (fun e=>Z.pure ?_) (fun e=>Z.pure ?_)
   ·replace e:=bx e;exact⟨rfl,e.symm⟩
   ·replace e:=bx e;intro j L;by_cases ej:j=k
    ·grind
    ·exact u j M
  ·unfold Uv;refine Z.pure ⟨fun h=>absurd h D5,fun h=>?_⟩;have⟨j,L,e⟩:=U0.1 h;exact absurd e (F j L)
  ·obtain⟨k,_,S,_,rfl,e⟩:=hr;exact⟨fun _=>U0.2 ⟨k,S,e⟩,fun _=>by omega⟩
  ·grind
 obtain⟨r,rfl,N,hN⟩:=h;exact hN N (ae _)
def E4(s:B1):List J:=(s.words.map (46:: ·)++s.A8.map (33:: ·)++s.parts.map (43:: ·))++(qs s.form).map (63:: ·)
def E0(e:Env)(k:J):J:=((assoc k e).getD default).text
def C9(e:Env)(k:J):O:=((assoc k e).getD default).form
def caught(s:B1)(e:Env):Prop:=∃w∈s.words,E0 e (46::w)∈(qs s.form).map fun x=>E0 e (63::x)
open Classical in
noncomputable def Cp(s:B1)(g:O):List C4×Bool:=match (R3 s s.form [] g).bind (H9 [])with
 |none=>([],false)
 |some e=>if caught s e then([],false)else((E4 s).map fun k=>⟨k.drop 1,E0 e k,C9 e k⟩,true)
theorem i7z{e:Env}(h:jH e)(k:J):P6 (C9 e k):=by
 unfold C9;cases S:assoc k e with
 |none=>exact d4t
 |some b=>exact(h k b S).2.1
theorem d4F{f:O}(h:M1 f):∀x∈qs f,M0 x:=by
 have:∀(m:Nat)(f:O),am f<=m->M1 f->∀x∈qs f,M0 x:=by
  intro m;induction m with
  |zero=>exact z0
  |succ m ih=>
   intro f hf hwf x A;rw[dH]at A;rcases al.1 A with A|A
   ·by_cases S:QK f.kind
    ·rw[if_pos S,ao]at A;subst A;exact(kg ((dR f).1 hwf).1).2.2.1 (.inr S)
    ·rw[if_neg S]at A;cases A
   ·have:∀l:List O,(∀y∈l,am y<=m/\M1 y)->∀x∈J6 l,M0 x:=by
     intro l;induction l with
     |nil=>intro _ x A;rw[J6]at A;cases A
     |cons a l ihl=>
      intro hl x A;rw[J6]at A;rcases al.1 A with A|A
      ·grind
      ·exact ihl (fun y hy=>hl y (aw _ hy)) x A
    refine this f.subs (fun y hy=>?_) x A
    obtain⟨j,L,rfl⟩:=U0.1 hy
    have:=W3 L
    exact⟨by omega,vM hwf L⟩
 exact this _ f (ae _) h
theorem Lp(f:O):O.mk f.kind f.name f.words f.subs=f:=by cases f;rfl
theorem i6d{s:B1}(hw:s.words.length<=1048576/\∀x∈s.words,x.length<=1048576)(hp:s.A8.length<=1048576/\∀x∈s.A8,x.length<=1048576)(hq:s.parts.length<=1048576/\∀x∈s.parts,x.length<=1048576):SB s:=by
 refine⟨hw.1,hp.1,hq.1,fun x A=>?_⟩;rcases al.1 A with A|A
 ·grind
 ·have:=hq.2 x A;omega
theorem i7A{l:List J}(hl:l.length<=8000000):Z (fun n=>FT n l l) (fun b=>b=true):=by
 unfold FT;refine Z.cond (fun e=>by simp at e) (fun _=>?_);refine Z.B3 (Z.R5 l.length (fun k s=>s=(k:Int)) (fun _=>True) (fun _=>False) rfl (fun k s S hs=>?_) (fun s hs=>?_)) (fun t F=>?_) (fun r hr=>?_)
 ·subst hs;unfold Lq;refine Z.cond (fun _=>Z.w6 M (Z.w6 M (Z.cond (fun e=>by simp at e) (fun _=>Z.pure ?_)))) ab;exact(F9 M M).trans rfl
 ·subst hs;unfold Lq;exact Z.cond ab (fun _=>Z.pure trivial)
 ·exact Z.pure rfl
 ·exact gh hr
theorem d4G:∀(m:Nat)(f:O),am f<=m->P6 f->Z (fun n=>wj n f f) (fun b=>b=true):=by
 intro m;induction m with
 |zero=>exact z0
 |succ m ih=>
  intro f hf N6;have⟨dU,hsl,N6⟩:=(sN f).1 N6;refine Z.succ ?_;simp only[wj];refine Z.bind (P:=fun v=>v=true) (Z.gd (fun _=>i7A M) (fun h=>by simp at h)) fun v Q=>?_;subst Q;refine Z.cond (fun e=>by simp at e) (fun _=>?_);refine Z.B3 (Z.R5 f.subs.length (fun k s=>s=(k:Int)) (fun _=>True) (fun _=>False) rfl (fun k s S hs=>?_) (fun s hs=>?_)) (fun t F=>?_) (fun r hr=>?_)
  ·subst hs;unfold Lr;have hsz:=W3 S;refine Z.cond (fun _=>Z.w6 M (Z.w6 M ?_)) ab;simp only[ai];refine Z.bind (ih _ M (yU N6 _ (get_mem S))) fun v Q=>?_;subst Q;refine Z.cond (fun e=>by cases e) (fun _=>Z.pure ?_);exact(F9 M M).trans rfl
  ·subst hs;unfold Lr;exact Z.cond ab (fun _=>Z.pure trivial)
  ·exact Z.pure rfl
  ·exact gh hr
theorem i7B{s:B1}(hs:S4 s):(E4 s).length<=500:=by
 have aX:=gF s;have hl:=hs.len;have hnd:=hs.form.2.1;have lD:(qs s.form).length<=200:=by rw[ji];have:=jj s.form;omega
 unfold E4;simp only[aa,bc];omega
mutual
def R8(R:List IT):O->List J->Nat->Prop
 | .mk k n w s,W,p=>p<R.length/\Am.get R p=⟨k,n,w,w.map (fun x=>decide (x∈W)),((p+w9 (.mk k n w s):Nat):Int)⟩/\V8 R s (if QK k then n::W else W) (p+1)
def V8(R:List IT):List O->List J->Nat->Prop
 | [],_,_=>True
 |f::l,W,p=>R8 R f W p/\V8 R l W (p+w9 f)
end
theorem fG(R:List IT)(f:O)(W:List J)(p:Nat):R8 R f W p↔p<R.length/\Am.get R p=⟨f.kind,f.name,f.words,f.words.map (fun x=>decide (x∈W)),((p+w9 f:Nat):Int)⟩/\V8 R f.subs (if QK f.kind then f.name::W else W) (p+1):=by cases f;rw[R8];rfl
theorem i7C[Inhabited α](xm:List α)(y:α)(qq:List α):Am.get (xm++y::qq) xm.length=y:=by unfold Am.get;simp
mutual
theorem d4H:∀(f:O)(ar:List J)(xm qq:List IT),R8 (xm++(D4 f ar xm.length++qq)) f ar xm.length
 | .mk k n w s,ar,xm,qq=>by
   rw[R8];have e:D4 (.mk k n w s) ar xm.length=⟨k,n,w,w.map (fun x=>decide (x∈ar)),((xm.length+w9 (.mk k n w s):Nat):Int)⟩::O9 s (if QK k then n::ar else ar) (xm.length+1):=yP _ _ _
   refine⟨by rw[e];simp,by rw[e];exact i7C _ _ _,?_⟩;rw[e];have:=d4I s (if QK k then n::ar else ar) (xm++[⟨k,n,w,w.map (fun x=>decide (x∈ar)),((xm.length+w9 (.mk k n w s):Nat):Int)⟩]) qq
   rw[aa,lz,bl]at this;exact this
theorem d4I:∀(l:List O)(ar:List J)(xm qq:List IT),V8 (xm++(O9 l ar xm.length++qq)) l ar xm.length
 | [],ar,xm,qq=>by rw[V8];trivial
 |f::l,ar,xm,qq=>by rw[V8,O9,bl];refine⟨d4H f ar xm _,?_⟩;have:=d4I l ar (xm++D4 f ar xm.length) qq;rw[aa,dS,bl]at this;exact this
end
theorem yw(f:O)(ar:List J):R8 (D4 f ar 0) f ar 0:=by have:=d4H f ar [] [];rw[fw,gf]at this;exact this
mutual
theorem R8.le{R:List IT}:∀ {f:O} {W:List J} {p:Nat},R8 R f W p->p+w9 f<=R.length
 | .mk k n w s,W,p,h=>by
   rw[R8]at h;rw[w9];cases s with
   |nil=>rw[B8];omega
   |cons x l=>have:=V8.le h.2.2 B5;omega
theorem V8.le{R:List IT}:∀ {l:List O} {W:List J} {p:Nat},V8 R l W p->l≠ []->p+B8 l<=R.length
 | [],W,p,h,hn=>absurd rfl hn
 |f::l,W,p,h,_=>by
  rw[V8]at h;rw[B8];cases l with
  |nil=>rw[B8];have:=R8.le h.1;omega
  |cons x l=>have:=V8.le h.2 B5;omega
end
theorem V8.get{R:List IT}:∀ {l:List O} {W:List J} {p:Nat},V8 R l W p->∀k,k<l.length->R8 R (Am.get l k) W (p+B8 (l.take k))
 | [],_,_,_,k,S=>by simp at S
 |f::l,W,p,h,0,_=>by rw[V8]at h;simpa[B8,Am.get]using h.1
 |f::l,W,p,h,k+1,S=>by rw[V8]at h;have:=V8.get h.2 k (by simpa using S);rw[List.take_succ_cons,B8, <-da];exact this
mutual
theorem R8.node{R:List IT}:∀ {f:O} {W:List J} {p:Nat},R8 R f W p->∀j,j<w9 f->∃ar,R8 R (Am.get (D2 f) j) ar (p+j)
 | .mk k n w s,W,p,h,0,_=>⟨W,by rw[D2];exact h⟩
 | .mk k n w s,W,p,h,j+1,L=>by rw[R8]at h;rw[w9]at L;have⟨ar,ha⟩:=V8.node h.2.2 j M;refine⟨ar,?_⟩;rw[D2,show p+(j+1)=p+1+j by omega];exact ha
theorem V8.node{R:List IT}:∀ {l:List O} {W:List J} {p:Nat},V8 R l W p->∀j,j<B8 l->∃ar,R8 R (Am.get (M4 l) j) ar (p+j)
 | [],W,p,h,j,L=>by rw[B8]at L;omega
 |f::l,W,p,h,j,L=>by
  rw[V8]at h;rw[B8]at L;rw[M4];by_cases e:j<w9 f
  ·have e1:Am.get (D2 f++M4 l) j=Am.get (D2 f) j:=by unfold Am.get;rw[ac,ac,cy (by rw[gD];exact e)]
   rw[e1];exact R8.node h.1 j e
  ·have e1:Am.get (D2 f++M4 l) j=Am.get (M4 l) (j-w9 f):=by unfold Am.get;rw[ac,ac,c8 (by rw[gD];omega),gD]
   have⟨ar,ha⟩:=V8.node h.2 (j-w9 f) M
   refine⟨ar,?_⟩
   rw[e1,show p+j=p+w9 f+(j-w9 f)by omega]
   exact ha
end
def Y1(it:IT):Int×J×List J:=(it.kind,it.name,it.words)
def kB(f:O):Int×J×List J:=(f.kind,f.name,f.words)
theorem xW{α:Type}[Inhabited α]{l m:List α}(hl:l.length=m.length)(h:∀j,j<l.length->Am.get l j=Am.get m j):l=m:=by refine List.ext_getElem hl fun j U X=>?_;have:=h j U;unfold Am.get at this;simpa[U,X]using this
theorem d4J{R:List IT}{g:O}{W:List J}{p:Nat}(h:R8 R g W p):((R.drop p).take (w9 g)).map Y1=(D2 g).map kB:=by
 have hle:=h.le;have hl:((R.drop p).take (w9 g)).length=w9 g:=by grind
 refine xW (by rw[bc,bc,hl,gD]) fun j L=>?_;rw[bc,hl]at L;rw[get_map Y1 (by rw[hl];exact L),get_map kB (by rw[gD];exact L)];have e:Am.get ((R.drop p).take (w9 g)) j=Am.get R (p+j):=by unfold Am.get;rw[ac,ac,wy L,List.getElem?_drop]
 rw[e];have⟨ar,ha⟩:=R8.node h j L;have⟨_,hit,_⟩:=(fG R _ ar _).1 ha;rw[hit];rfl
theorem i7D{l m:List IT}(hl:l.length<=100000)(hw:∀it∈l,it.words.length<=100000):Z (fun n=>FU n l m) (fun r=>r=decide (l.map Y1=m.map Y1)):=by
 unfold FU;refine Z.cond (fun e=>Z.pure ?_) (fun e=>?_)
 ·replace e:=bx e;refine(decide_eq_false fun h=>e ?_).symm;have:=congrArg ph h;rw[bc,bc]at this;omega
 replace e:=bx e;have hlm:l.length=m.length:=by omega
 refine Z.B3 (Z.R5 l.length (fun k s=>s=(k:Int)/\∀j,j<k->Y1 (Am.get l j)=Y1 (Am.get m j)) (fun _=>l.map Y1=m.map Y1) (fun r=>r=false/\l.map Y1≠m.map Y1) ⟨rfl,fun j L=>absurd L (co _)⟩ (fun k s S hs=>?_) (fun s hs=>?_)) (fun t F=>?_) (fun r hr=>?_)
 ·obtain⟨rfl,hs⟩:=hs;have bad:Y1 (Am.get l k)≠Y1 (Am.get m k)->l.map Y1≠m.map Y1:=fun h e=>h (by rw[<-get_map Y1 S, <-get_map Y1 M,e]);unfold Ls;simp only[ai];refine Z.cond (fun _=>Z.w6 M (Z.w6 M (Z.cond (fun e=>Z.pure ⟨rfl,bad fun h=>?_⟩) (fun e=>?_)))) ab
  ·unfold Y1 at h;simp only[Prod.mk.injEq]at h;simp[h.1,h.2.1,h.2.2]at e
  have e1:(Am.get l k).kind=(Am.get m k).kind:=cp fun h=>by simp[h]at e
  have e2:(Am.get l k).name=(Am.get m k).name:=cp fun h=>by simp[h]at e
  have e3:(Am.get l k).words.length=(Am.get m k).words.length:=cp fun h=>by grind
  have hwk:=hw _ (get_mem S);refine Z.B3 (Z.R5 (Am.get l k).words.length (fun i s=>s=(i:Int)/\∀j,j<i->Am.get (Am.get l k).words j=Am.get (Am.get m k).words j) (fun _=>(Am.get l k).words=(Am.get m k).words) (fun r=>r= .ret false/\(Am.get l k).words≠(Am.get m k).words) ⟨rfl,fun j L=>absurd L (co _)⟩ (fun i s u hs=>?_) (fun s hs=>?_)) (fun t F=>?_) (fun r hr=>?_)
  ·obtain⟨rfl,V1⟩:=hs;unfold Lu;simp only[ai];refine Z.cond (fun _=>Z.w6 M (Z.w6 M (Z.cond (fun e=>Z.pure ⟨rfl,fun h=>?_⟩) (fun e=>Z.pure ⟨?_,fun j L=>?_⟩)))) ab
   ·grind
   ·rw[F9 M M];rfl
   ·grind
  ·obtain⟨rfl,V1⟩:=hs;unfold Lu;simp only[ai];refine Z.cond ab (fun _=>Z.pure ?_);exact xW e3 V1
  ·have F:(Am.get l k).words=(Am.get m k).words:=F;unfold Uw;refine Z.pure ⟨by rw[F9 M M];rfl,fun j L=>?_⟩;by_cases ej:j=k
   ·subst ej;unfold Y1;rw[e1,e2,F]
   ·exact hs j M
  ·obtain⟨rfl,hr⟩:=hr;refine⟨rfl,bad fun h=>hr ?_⟩;unfold Y1 at h;simp only[Prod.mk.injEq]at h;exact h.2.2
 ·obtain⟨rfl,hs⟩:=hs;unfold Ls;refine Z.cond ab (fun _=>Z.pure ?_);refine xW (by rw[bc,bc];exact hlm) fun j L=>?_;rw[bc]at L;rw[get_map Y1 L,get_map Y1 M];exact hs j L
 ·have F:l.map Y1=m.map Y1:=F;exact Z.pure (decide_eq_true F).symm
 ·obtain⟨rfl,h⟩:=hr;exact(decide_eq_false h).symm
theorem d4K{s:B1}(hs:S4 s):Z (fun n=>Cq n s) (fun r=>r=E3 s++qs s.form):=by
 have aX:=gF s;have hl:=hs.len;have hnd:=hs.form.2.1;have hrl:(D4 s.form [] 0).length=w9 s.form:=dS _ _ _;have lD:(qs s.form).length<=200:=by rw[ji];have:=jj s.form;omega
 have hq:qs s.form=T7 (D4 s.form [] 0):=(KY _ _ _).symm;have hpre:∀i,qs s.form=T7 ((D4 s.form [] 0).take i)++T7 ((D4 s.form [] 0).drop i):=fun i=>by rw[<-vT,ew];exact hq
 unfold Cq;refine Z.B3 (qW s.words _ (fun _=>rfl) [] (by simp;omega)) (fun t F=>?_) nofun;unfold Ux;have F:t=s.words:=F;subst F;refine Z.B3 (qW s.A8 _ (fun _=>rfl) s.words M) (fun t F=>?_) nofun;unfold Uy;have F:t=s.words++s.A8:=F;subst F;refine Z.B3 (qW s.parts _ (fun _=>rfl) (s.words++s.A8) (by rw[aa];omega)) (fun t F=>?_) nofun;unfold Uz;have F:t=E3 s:=F;subst F;refine Z.bind (vO hs.form.1 [] M B5) fun v Q=>?_;subst Q;refine Z.B3 (Z.R5 (w9 s.form) (fun i t=>t=(E3 s++T7 ((D4 s.form [] 0).take i),(i:Int))) (fun t=>t=E3 s++qs s.form) (fun _=>False) (by simp[T7]) (fun i t u F=>?_) (fun t F=>?_)) (fun t F=>?_) (fun r hr=>?_)
 ·subst F;have hll:(T7 ((D4 s.form [] 0).take i)).length<=200:=by grind
  unfold Lv;simp only[ai];refine Z.cond (fun _=>Z.w6 M ?_) ab;refine Z.cond (fun e=>Z.B9 (Z.w6 ?_ (Z.pure ?_))) (fun e=>Z.pure ?_)
  ·exact lT
  ·replace e:=bx e;have dW:QK (Am.get (D4 s.form [] 0) i).kind:=e;show(_,_)=(_,_);rw[H8 M,vT,Cc,if_pos dW,F9 M M,bl];rfl
  ·replace e:=bx e;have dW:¬QK (Am.get (D4 s.form [] 0) i).kind:=fun h=>by rcases h with h|h<;>simp[h]at e
   show(_,_)=(_,_);rw[H8 M,vT,Cc,if_neg dW,F9 M M,gf];rfl
 ·subst F;unfold Lv;refine Z.cond ab (fun _=>Z.pure ?_);have FI:(D4 s.form [] 0).take (w9 s.form)=D4 s.form [] 0:=by rw[<-hrl,cj]
  show _++_=_;rw[FI, <-hq]
 ·exact Z.pure F
 ·exact gh hr
theorem d4L(s:B1):(E4 s).map (·.drop 1)=E3 s++qs s.form:=by
 unfold E4 E3;simp only[cm,List.map_map];have:∀(c:UInt8)(l:List J),l.map ((fun x:J=>x.drop 1)∘fun x=>c::x)=l:=fun c l=>by
  induction l with
  |nil=>rfl
  |cons a l ih=>rw[bv,ih];rfl
 rw[this,this,this,this]
theorem UA[Inhabited α]{a b:List α}{i:Nat}(h:i<a.length):Am.get (a++b) i=Am.get a i:=by unfold Am.get;rw[ac,ac,cy h]
theorem UC[Inhabited α]{a b:List α}{i:Nat}:Am.get (a++b) (a.length+i)=Am.get b i:=by unfold Am.get;rw[ac,ac,c8 M];congr 2;omega
theorem Lw{s:B1}{i:Nat}(h:i<s.words.length):Am.get (E4 s) i=46::Am.get s.words i:=by unfold E4;rw[bl,bl,UA (by rw[bc];exact h),get_map _ h]
theorem UD{s:B1}{i:Nat}(h:i<s.A8.length):Am.get (E4 s) (s.words.length+i)=33::Am.get s.A8 i:=by unfold E4;have e:s.words.length=(s.words.map (46:: ·)).length:=(bc _).symm;rw[bl,bl,e,UC,UA (by rw[bc];exact h),get_map _ h]
theorem UE{s:B1}{i:Nat}(h:i<s.parts.length):Am.get (E4 s) (s.words.length+s.A8.length+i)=43::Am.get s.parts i:=by
 unfold E4;have e:s.words.length+s.A8.length=(s.words.map (46:: ·)++s.A8.map (33:: ·)).length:=by simp
 rw[bl,e,UC,UA (by rw[bc];exact h),get_map _ h]
theorem Lx{s:B1}{i:Nat}(h:i<(qs s.form).length):Am.get (E4 s) (s.words.length+s.A8.length+s.parts.length+i)=63::Am.get (qs s.form) i:=by
 unfold E4;have e:s.words.length+s.A8.length+s.parts.length=(s.words.map (46:: ·)++s.A8.map (33:: ·)++s.parts.map (43:: ·)).length:=by grind
 rw[e,UC,get_map _ h]
theorem sO(s:B1):(E4 s).length=s.words.length+s.A8.length+s.parts.length+(qs s.form).length:=by unfold E4;simp only[aa,bc]
theorem UF{s:B1}{i:Nat}(h:i<(E4 s).length):
 (i<s.words.length/\Am.get (E4 s) i=46::Am.get s.words i)\/(∃j,j<s.A8.length/\i=s.words.length+j/\Am.get (E4 s) i=33::Am.get s.A8 j)\/
 (∃j,j<s.parts.length/\i=s.words.length+s.A8.length+j/\Am.get (E4 s) i=43::Am.get s.parts j)\/(∃j,j<(qs s.form).length/\i=s.words.length+s.A8.length+s.parts.length+j/\Am.get (E4 s) i=63::Am.get (qs s.form) j):=by
 rw[sO]at h
 by_cases U:i<s.words.length
 ·exact .inl ⟨U,Lw U⟩
 ·by_cases X:i<s.words.length+s.A8.length
  ·obtain⟨j,rfl⟩:∃j,i=s.words.length+j:=⟨i-s.words.length,by omega⟩;exact .inr (.inl ⟨j,by omega,rfl,UD M⟩)
  ·by_cases h3:i<s.words.length+s.A8.length+s.parts.length
   ·obtain⟨j,rfl⟩:∃j,i=s.words.length+s.A8.length+j:=⟨i-(s.words.length+s.A8.length),by omega⟩;exact .inr (.inr (.inl ⟨j,by omega,rfl,UE M⟩))
   ·obtain⟨j,rfl⟩:∃j,i=s.words.length+s.A8.length+s.parts.length+j:=⟨i-(s.words.length+s.A8.length+s.parts.length),by omega⟩;exact .inr (.inr (.inr ⟨j,by omega,rfl,Lx M⟩))
theorem key_inj{s:B1}(hs:S4 s){i j:Nat}(u:i<(E4 s).length)(L:j<(E4 s).length)(h:Am.get (E4 s) i=Am.get (E4 s) j):i=j:=by
 have aX:=gF s;have hu:∀a b,a<(E3 s).length->b<(E3 s).length->Am.get (E3 s) a=Am.get (E3 s) b->a=b:=fun a b ha H e=>by
  rcases tz a b with h|h|h
  ·exact absurd e (hs.uniq a b h H)
  ·exact h
  ·exact absurd e.symm (hs.uniq b a h ha)
 have hq:∀a b,a<(qs s.form).length->b<(qs s.form).length->Am.get (qs s.form) a=Am.get (qs s.form) b->a=b:=fun a b ha H e=>by
  rcases tz a b with h|h|h
  ·exact absurd ((FC M).2 ⟨a,h,e⟩) (hs.d4n b H).1
  ·exact h
  ·exact absurd ((FC M).2 ⟨b,h,e.symm⟩) (hs.d4n a ha).1
 rcases UF u with⟨U,e1⟩|⟨a,U,rfl,e1⟩|⟨a,U,rfl,e1⟩|⟨a,U,rfl,e1⟩<;>
 rcases UF L with⟨X,e2⟩|⟨b,X,rfl,e2⟩|⟨b,X,rfl,e2⟩|⟨b,X,rfl,e2⟩<;>
 rw[e1,e2]at h<;>
 (first
  |exact absurd (en h).1 D5
  |skip)
 ·have:=(en h).2;exact hu _ _ M M (by rw[TY U,TY X];exact this)
 ·have:=(en h).2;exact hu _ _ M M (by rw[Li U,Li X];exact this)
 ·have:=(en h).2;exact hu _ _ M M (by rw[Lj U,Lj X];exact this)
 ·grind
theorem aB{b:Option (List C4)}{ps:List C4}(h:cat a b=some ps):∃x y,a=some x/\b=some y/\ps=x++y:=by
 unfold cat at h;cases a with
 |none=>cases h
 |some x=>
  cases b with
  |none=>cases h
  |some y=>grind
theorem d4M{BB W:List J}:∀ {xs ys:List J} {ps:List C4},xs.length=ys.length->J8 BB W xs ys=some ps->∀x∈xs,(x∈W->∃b∈ps,b.name=63::x)/\(x∉W->x∈BB->∃b∈ps,b.name=46::x)
 | [],ys,ps,_,h,x,A=>by cases A
 |a::xs,[],ps,hl,h,x,A=>by simp at hl
 |a::xs,y::ys,ps,hl,h,x,A=>by
  rw[J8]at h;have hl2:xs.length=ys.length:=by simpa using hl
  have mp:∀c:C4,(J8 BB W xs ys).map (c:: ·)=some ps->c∈ps/\∃q,J8 BB W xs ys=some q/\∀b∈q,b∈ps:=fun c h=>by
   cases hp:J8 BB W xs ys with
   |none=>rw[hp]at h;cases h
   |some q=>grind
  have tail:∀q,J8 BB W xs ys=some q->(∀b∈q,b∈ps)->x∈xs->(x∈W->∃b∈ps,b.name=63::x)/\(x∉W->x∈BB->∃b∈ps,b.name=46::x):=fun q hq hs A=>by have⟨U,X⟩:=d4M hl2 hq x A;exact⟨fun h=>let ⟨b,H,e⟩:=U h;⟨b,hs b H,e⟩,fun h h'=>let ⟨b,H,e⟩:=X h h';⟨b,hs b H,e⟩⟩
  split at h
  ·grind
  ·grind
def Cov(s:B1)(f:O)(W:List J)(ps:List C4):Prop:=
 (∀x,E5 f W x->x∈s.words->∃b∈ps,b.name=46::x)/\(∀x∈qs f,∃b∈ps,b.name=63::x)/\(∀x,(W8 (D2 f) x\/V6 (D2 f) x)->x∈s.A8->x∉s.parts->∃b∈ps,b.name=33::x)/\(∀x,V6 (D2 f) x->x∈s.parts->∃b∈ps,b.name=43::x)
def Lz(s:B1)(l:List O)(W:List J)(ps:List C4):Prop:=
 (∀x,F5 l W x->x∈s.words->∃b∈ps,b.name=46::x)/\(∀x∈J6 l,∃b∈ps,b.name=63::x)/\(∀x,(W8 (M4 l) x\/V6 (M4 l) x)->x∈s.A8->x∉s.parts->∃b∈ps,b.name=33::x)/\(∀x,V6 (M4 l) x->x∈s.parts->∃b∈ps,b.name=43::x)
theorem Lz.nil{s:B1}{W:List J}{ps:List C4}:Lz s [] W ps:=by
 refine⟨fun x h=>?_,fun x h=>?_,fun x h=>?_,fun x h=>?_⟩
 ·rw[F5]at h;exact h.elim
 ·rw[J6]at h;cases h
 ·rw[M4]at h;rcases h with⟨g,hg,_⟩|⟨g,hg,_⟩<;>cases hg
 ·rw[M4]at h;have⟨g,hg,_⟩:=h;cases hg
theorem get_set_same[Inhabited α]{l:List α}{j:Nat}{v:α}(h:j<l.length):Am.get (l.set j v) j=v:=by unfold Am.get;rw[ac,List.getElem?_set_self h];rfl
theorem kC[Inhabited α]{l:List α}{i j:Nat}{v:α}(h:i≠j):Am.get (l.set j v) i=Am.get l i:=by unfold Am.get;rw[ac,ac,List.getElem?_set_ne (Ne.symm h)]
theorem d4N{s:B1}{j:Nat}(L:j<(E4 s).length):Am.get (E3 s++qs s.form) j=(Am.get (E4 s) j).drop 1:=by rw[<-d4L,get_map _ L]
theorem Ct(s:B1):(E3 s++qs s.form).length=(E4 s).length:=by rw[<-d4L,bc]
theorem UG{s:B1}(hs:S4 s):wr .i64 ((s.words.length:Int)+(s.A8.length:Int))=((s.words.length+s.A8.length:Nat):Int):=by have:=gF s;have:=hs.len;rw[F9 M M];omega
theorem d4O{s:B1}(hs:S4 s):wr .i64 (wr .i64 ((s.words.length:Int)+(s.A8.length:Int))+(s.parts.length:Int))=((s.words.length+s.A8.length+s.parts.length:Nat):Int):=by have:=gF s;have:=hs.len;rw[UG hs,F9 M M];omega
theorem LA(s:B1):(E3 s++qs s.form).drop (s.words.length+s.A8.length+s.parts.length)=qs s.form:=by rw[<-gF,List.drop_left]
structure Cu(s:B1)(RS RG:List IT):Prop where
 hs:S4 s
 lS:RS.length<=1000
 lG:RG.length<=1000
 wG:∀it∈RG,it.words.length<=3
abbrev UH:=List C4×List Bool×List Int×Int×Int
abbrev FV:=C1 (List C4×List Int×Bool) UH (List C4×List Int)
theorem wm{b:Option (List C4)}{env:Env}:(cat a b).bind (H9 env)=(a.bind (H9 env)).bind fun e=>b.bind (H9 e):=Lk a b env
section
variable {s:B1} {RS RG:List IT}
end
theorem i7G{s:B1}(hs:S4 s):wr .i64 (((s.words.length+s.A8.length:Nat):Int)+(s.parts.length:Int))=((s.words.length+s.A8.length+s.parts.length:Nat):Int):=by have:=gF s;have:=hs.len;rw[F9 M M];omega
section
variable {s:B1} {RS RG:List IT}
abbrev FW(s:B1)(RS RG:List IT):Nat->UH->Option FV:=fun n=>wo n RS s RG (E3 s++qs s.form)
end
theorem UJ[Inhabited α]{n j:Nat}{v:α}(h:j<n):Am.get (List.replicate n v) j=v:=by unfold Am.get;simp[h]
def pI(s:B1)(e:Env):List C4:=(E4 s).map fun k=>⟨k.drop 1,E0 e k,C9 e k⟩
open Classical in
theorem i7H{s:B1}(hs:S4 s)(e:Env)(K9:List Int):Z (fun n=>LB n s (pI s e,K9)) (fun r=>r=if caught s e then([],[],false)else(pI s e,K9,true)):=by
 have aX:=gF s;have hsl:=hs.len;have hkl:=sO s;have lD:(qs s.form).length<=200:=by rw[ji];have:=jj s.form;have:=hs.form.2.1;omega
 have U7:(pI s e).length=(E4 s).length:=bc _;have tw:∀a,a<s.words.length->(Am.get (pI s e) a).text=E0 e (46::Am.get s.words a):=fun a ha=>by unfold pI;rw[get_map _ M,Lw ha]
 have tv:∀b,b<(qs s.form).length->(Am.get (pI s e) (s.words.length+s.A8.length+s.parts.length+b)).text=E0 e (63::Am.get (qs s.form) b):=fun b H=>by unfold pI;rw[get_map _ M,Lx H]
 unfold LB;refine Z.B3 (Z.R5 s.words.length (fun k t=>t=(k:Int)/\∀a,a<k->∀b,b<(qs s.form).length->E0 e (46::Am.get s.words a)≠E0 e (63::Am.get (qs s.form) b)) (fun _=>¬caught s e) (fun r=>r=([],[],false)/\caught s e) ⟨rfl,fun a ha=>absurd ha (co _)⟩ (fun k t S F=>?_) (fun t F=>?_)) (fun t F=>?_) (fun r hr=>?_)
 ·obtain⟨rfl,F⟩:=F;unfold LC;rw[d4O hs];refine Z.cond (fun _=>?_) ab;refine Z.B3 (Z.R5 (qs s.form).length (fun b t=>t=((s.words.length+s.A8.length+s.parts.length+b:Nat):Int)/\∀b',b'<b->E0 e (46::Am.get s.words k)≠E0 e (63::Am.get (qs s.form) b')) (fun _=>∀b',b'<(qs s.form).length->E0 e (46::Am.get s.words k)≠E0 e (63::Am.get (qs s.form) b')) (fun r=>r= .ret ([],[],false)/\caught s e) ⟨rfl,fun b H=>absurd H (co _)⟩ (fun b t H Cv=>?_) (fun t Cv=>?_)) (fun C' hu=>?_) (fun r hr=>?_)
  ·obtain⟨rfl,Cv⟩:=Cv;unfold LG;simp only[ai,tw k S,tv b H];refine Z.cond (fun _=>Z.w6 M (Z.w6 M (Z.cond (fun e=>Z.pure ⟨rfl,?_⟩) (fun e=>Z.pure ⟨?_,fun b' hb'=>?_⟩)))) ab
   ·replace e:=bx e;exact⟨_,get_mem S,bj.2 ⟨_,get_mem H,e.symm⟩⟩
   ·rw[F9 M M];rfl
   ·grind
  ·obtain⟨rfl,Cv⟩:=Cv;unfold LG;exact Z.cond ab (fun _=>Z.pure Cv)
  ·unfold UK;refine Z.pure ⟨by rw[F9 M M];rfl,fun a ha b H=>?_⟩;by_cases ea:a=k
   ·subst ea;exact hu b H
   ·exact F a M b H
  ·obtain⟨rfl,K⟩:=hr;exact⟨rfl,K⟩
 ·obtain⟨rfl,F⟩:=F;unfold LC;refine Z.cond ab (fun _=>Z.pure fun⟨w,hw,K⟩=>?_);have⟨x,A,UL⟩:=bj.1 K;obtain⟨a,ha,rfl⟩:=U0.1 hw;obtain⟨b,H,rfl⟩:=U0.1 A;exact F a ha b H UL.symm
 ·have F:¬caught s e:=F;unfold UM;refine Z.pure ?_;rw[if_neg F]
 ·obtain⟨rfl,K⟩:=hr;rw[if_pos K]
theorem wq{f:O}(h:P6 f):f.words.length<=3:=((sN f).1 h).1
theorem sP{f:O}(h:P6 f):f.subs.length<=2:=((sN f).1 h).2.1
theorem pJ{f:O}(h:P6 f){k:Nat}(S:k<f.subs.length):P6 (Am.get f.subs k):=yU ((sN f).1 h).2.2 _ (get_mem S)
theorem i7I:∀(m:Nat)(f:O),am f<=m->P6 f->∀(W l:List J),W.length+w9 f<=100000->l.length+3*w9 f<=300000->
 Z (fun n=>pB n f W l) (fun r=>(∀x,x∈r↔x∈l\/E5 f W x)/\r.length<=l.length+3*w9 f):=by
 intro m
 induction m with
 |zero=>exact z0
 |succ m ih=>
  intro f hf hwf W l hbd hl;have hnd:=Y8 f;have dU:=wq hwf;refine Z.succ ?_;simp only[pB];refine Z.B3 (P:=L2 (fun t=>(∀x,x∈t↔x∈l\/(x∈f.words/\x∉W))/\t.length<=l.length+3) (fun _=>False)) ((Z.range (fun k s=>(∀x,x∈s↔x∈l\/(x∈f.words.take k/\x∉W))/\s.length<=l.length+k) (fun _=>False) (fun _=>False) ⟨fun x=>by simp,by omega⟩ (fun k s S u=>?_)).mono fun e he=>?_) (fun t F=>?_) nofun
  ·unfold KU;simp only[jl,ax];refine Z.cond (fun e=>Z.B9 (Z.w6 ?_ (Z.pure ⟨fun x=>?_,?_⟩))) (fun e=>Z.pure ⟨fun x=>?_,by omega⟩)
   ·exact lT
   ·replace e:=bx e;rw[al,u.1 x,H8 S,al,ao];by_cases A:x=Am.get f.words k
    ·subst A;simp[e]
    ·simp[A]
   ·grind
   ·replace e:=bx e;rw[u.1 x,H8 S,al,ao];by_cases A:x=Am.get f.words k
    ·subst A;simp[e]
    ·simp[A]
  ·cases e with
   |ret r=>exact he
   |B7 t=>have⟨U,X⟩:=he.elim id gh;rw[cj]at U;exact⟨U,by omega⟩
  ·have⟨U,X⟩:=F;have key:∀I8:List J,(∀y,y∈I8↔y∈(if QK f.kind then f.name::W else W))->I8.length<=W.length+1->Z (fun n=>vQ (pB n) f t I8) (fun r=>(∀x,x∈r↔x∈l\/E5 f W x)/\r.length<=l.length+3*w9 f):=by
    intro I8 H mQ;unfold vQ;refine Z.B3 (P:=L2 (fun r=>(∀x,x∈r↔x∈t\/F5 f.subs I8 x)/\r.length<=t.length+3*B8 f.subs) (fun _=>False)) ((Z.range (fun k s=>(∀x,x∈s↔x∈t\/F5 (f.subs.take k) I8 x)/\s.length<=t.length+3*B8 (f.subs.take k)) (fun _=>False) (fun _=>False) ⟨fun x=>by simp[F5],by omega⟩ (fun k s S u=>?_)).mono fun e he=>?_) (fun r hr=>?_) nofun
    ·unfold KV;have hsz:=W3 S;have fD:=eO S;refine Z.bind (ih _ M (pJ hwf S) I8 s M M) fun v Q=>Z.pure ⟨fun x=>?_,?_⟩
     ·rw[Q.1 x,u.1 x,H8 S,SR,or_assoc]
     ·rw[H8 S,lC];have:=Q.2;have:=u.2;omega
    ·grind
    ·have⟨h3,h4⟩:=hr;unfold KW;refine Z.pure ⟨fun x=>?_,by omega⟩;rw[h3 x,U x,oZ,Fp f.subs _ _ H x,or_assoc]
   unfold KX;simp only[nU,ax];refine Z.cond (fun e=>Z.w6 M (Z.B9 (Z.w6 ?_ (key _ (fun y=>?_) ?_)))) (fun e=>key _ (fun y=>?_) M)
   ·exact lT
   ·grind
   ·simp
   ·grind
theorem i7J{f:O}(hwf:P6 f)(hn:w9 f<=50000):Z (fun n=>vR n f) (fun r=>(∀x,x∈r↔E5 f [] x)/\r.length<=3*w9 f):=by
 unfold vR;refine Z.bind (i7I _ f (ae _) hwf [] [] (by simp;omega) (by simp;omega)) fun v Q=>?_;have⟨U,X⟩:=Q;simp only[cz,dq]at X;unfold yQ Fq;have hlen:(cw jf v).length=v.length:=(oV jf v).length_eq;refine Z.bind (Z.w6 M (Z.pure (P:=fun r=>r=cw jf v) rfl)) fun r hr=>?_;subst hr;refine Z.bind (Z.w6 M (Z.pure (P:=fun r=>True) trivial)) fun _ _=>Z.pure ⟨fun x=>?_,?_⟩
 ·rw[d3T,(oV jf v).mem_iff,U x];simp
 ·have:=n9 (cw jf v);omega
theorem i7K{p:J->Prop}(hC:∀x,x∈C↔p x)(hCl:C.length<=10000):∀(m:Nat)(f:O),am f<=m->P6 f->∀(env:List gq)(i b:Nat),env.length+w9 f<=100000->i+nq f<=1000->nx p b=num p i->
 Z (fun n=>wu n f env (b:Int) C) (fun r=>r.1=F8 (NN p) f (ku env) i/\∃b':Nat,r.2=(b':Int)/\nx p b'=num p (i+nq f)):=by
 intro m
 have sQ:∀x,p x->x∈C:=fun x=>(hC x).2
 induction m with
 |zero=>exact z0
 |succ m ih=>
  intro f hf hwf env i b UN u H;have hnd:=Y8 f;have dU:=wq hwf;have hsl:=sP hwf;have mR:=Kz f;refine Z.succ ?_;simp only[wu];refine Z.B3 (P:=L2 (fun t=>t=f.words.map (sub (ku env))) (fun _=>False)) ((Z.range (fun k s=>s=(f.words.take k).map (sub (ku env))) (fun _=>False) (fun _=>False) B5 (fun k s S hs=>?_)).mono fun e he=>?_) (fun t F=>?_) nofun
  ·unfold UO;refine Z.B3 (d4f (fun k=>(Am.get env k).from_) (fun k=>(Am.get env k).B4) env.length M (Am.get f.words k) (LH env f k) (fun j L=>?_) rfl) (fun t F=>?_) nofun
   ·unfold LH;have e1:decide (0<=(j:Int))=true:=decide_eq_true M;rw[e1,cond_true,sk M];rfl
   ·unfold UP;refine Z.B9 (Z.w6 ?_ (Z.pure ?_))
    ·subst hs;exact lT
    ·show _=_;have F:t=sub (ku env) (Am.get f.words k):=F;rw[hs,F,H8 S,cm];rfl
  ·grind
  ·subst F;have key:∀(env':List gq)(nm:J)(j c:Nat),nm=(if QK f.kind then NN p i else f.name)->ku env'=(if QK f.kind then(f.name,NN p i)::ku env else ku env)->j=i+(if QK f.kind then 1 else 0)->nx p c=num p j->env'.length<=env.length+1->
    Z (fun n=>Cw (wu n) f C (f.words.map (sub (ku env))) ((c:Int),nm,env')) (fun r=>r.1=F8 (NN p) f (ku env) i/\∃b':Nat,r.2=(b':Int)/\nx p b'=num p (i+nq f)):=by
    intro env' nm j c hnm UQ L K hlen
    have hjn:j+K2 f.subs=i+nq f:=by omega
    unfold Cw
    refine Z.B3 (P:=L2 (fun t=>t.2=L4 (NN p) f.subs (ku env') j/\∃b':Nat,t.1=(b':Int)/\nx p b'=num p (j+K2 f.subs)) (fun _=>False)) ((Z.range (fun k s=>s.2=L4 (NN p) (f.subs.take k) (ku env') j/\∃b':Nat,s.1=(b':Int)/\nx p b'=num p (j+K2 (f.subs.take k))) (fun _=>False) (fun _=>False) ⟨by simp[L4],c,rfl,by simpa[K2]using K⟩ (fun k s S hs=>?_)).mono fun e he=>?_) (fun t F=>?_) nofun
    ·have⟨aK,b',V1,jc⟩:=hs;unfold UR;have hsz:=W3 S;have fD:=eO S;have dW:=Ce S;refine Z.bind (P:=fun r=>r.1=F8 (NN p) (Am.get f.subs k) (ku env') (j+K2 (f.subs.take k))/\∃b'':Nat,r.2=(b'':Int)/\nx p b''=num p (j+K2 (f.subs.take k)+nq (Am.get f.subs k))) ?_ fun v Q=>Z.B9 (Z.w6 ?_ (Z.pure ?_))
     ·rw[V1];exact ih _ M (pJ hwf S) env' _ b' M M jc
     ·rw[Y7,aK];simp only[aa,qU,db,an,cz];omega
     ·have⟨hv1,b'',hv2,W4⟩:=Q;refine⟨?_,b'',hv2,?_⟩
      ·show s.2++[v.1]=_;rw[aK,hv1,H8 S,yT]
      ·rw[W4,H8 S,vV,da]
    ·grind
    ·have⟨pF,b',jg,yR⟩:=F;unfold UU;refine Z.pure ⟨?_,b',jg,by rw[yR,hjn]⟩;show O.mk _ _ _ _=_;rw[BK,pF,hnm,UQ,L]
   unfold UW;simp only[nU,ax];have mQ:=(Lf sQ b).1;have mK:=Tz sQ 10000 hCl i;refine Z.cond (fun e=>?_) (fun e=>?_)
   ·replace e:=bx e;rw[if_pos e]at mR;refine Z.bind (i7f hC (b:=b) M) fun v Q=>Z.w6 M (Z.B9 (Z.w6 ?_ ?_))
    ·exact lT
    ·subst Q;exact key _ _ (i+1) (nx p b+1) (by rw[if_pos e,H];rfl) (by rw[if_pos e,i7g,H];rfl) (by rw[if_pos e]) (by rw[H];rfl) B5
   ·grind
theorem i7L{f:O}(h:P6 f)(X:w9 f<=200):Z (fun n=>FX n f) (fun r=>r=cf f):=by unfold FX LI;have hq:=jj f;refine Z.bind (P:=fun r=>r=cf f) (Z.bind (i7J h M) fun v Q=>?_) fun v Q=>Z.pure Q;refine Z.B3 (P:=L2 (fun _=>True) (fun _=>False)) ⟨.B7 (),trivial,0,fun n _=>rfl⟩ (fun _ _=>?_) nofun;unfold UY;exact Z.bind (i7K Q.1 M _ f (ae _) h [] 0 0 (by simp;omega) M rfl) fun r hr=>Z.pure hr.1
def qn(i:Nat):J:=63::cb (i+1)
theorem wv(i j:Nat)(h:qn i=qn j):i=j:=by have:=Cd (en h).2;omega
theorem UZ(i:Nat):¬M0 (qn i):=fun h=>by have:=h.2.2.1.1;simp[P0,qn]at this
set_option maxRecDepth 1000000 in
theorem i7M(m:Nat):FY (m+300)=some true:=by kernel_rfl
theorem i7N:Z FY (fun b=>b=true):=⟨true,rfl,300,fun n hn=>by obtain⟨m,rfl⟩:∃m,n=m+300:=⟨n-300,by omega⟩;exact i7M m⟩
def Er(m E:List (J×J)):Prop:=∀w,(assoc w m).getD w=sub E w
theorem Er.nil:Er [] []:=fun _=>rfl
theorem Er.put{m E:List (J×J)}(h:Er m E)(a v:J):Er (I4 a v m) ((a,v)::E):=fun w=>by
 rw[kh];by_cases e:a=w
 ·subst e;rw[oc,if_pos rfl];rfl
 ·rw[od (fun x=>e x.symm),if_neg e];exact h w
theorem Va{c:Nat}(K:c<=1000000)(B:List C5)(m:List (J×Int))(C':List C6):zc B (c:Int) m C'=some (qn c,((c+1:Nat):Int)):=by
 unfold zc;have hw:wr .i64 ((c:Int)+1)=((c+1:Nat):Int):=by rw[F9 M M];rfl
 have hl:=oa (m:=c+1) M;rw[hw,FL M,ax,sk (show P8 _ _ by unfold P8;simp;omega)];rfl
theorem i7O:∀(m:Nat)(f:O),am f<=m->P6 f->∀(B:List C5) (c:Nat) (mp:List (J×Int)) (C':List C6) (env E:List (J×J)),Er env E->c+nq f<=1000000->
 Z (fun n=>Cx n f B (c:Int) mp C' env) (fun r=>r=(F8 qn f E c,((c+nq f:Nat):Int))):=by
 intro m
 induction m with
 |zero=>exact z0
 |succ m ih=>
  intro f hf N6 B c mp C' env E hE K;have dU:=wq N6;have hsl:=sP N6;have mR:=Kz f;refine Z.succ ?_;simp only[Cx];refine Z.B3 (P:=L2 (fun t=>t=f.words.map (sub E)) (fun _=>False)) ((Z.range (fun k s=>s=(f.words.take k).map (sub E)) (fun _=>False) (fun _=>False) B5 (fun k s S hs=>?_)).mono fun e he=>?_) (fun t F=>?_) nofun
  ·have hw:=hE (Am.get f.words k);have eR:(f.words.take (k+1)).map (sub E)=s++[sub E (Am.get f.words k)]:=by rw[H8 S,cm,hs];rfl
   have hsl:s.length<=3:=by grind
   unfold Vb;cases ha:assoc (Am.get f.words k) env with
   |none=>
    rw[ha]at hw;refine Z.cond (fun e=>by cases e) (fun _=>Z.B9 (Z.w6 ?_ (Z.pure ?_)))
    ·exact lT
    ·show s++[_]=_;rw[eR, <-hw];rfl
   |some v=>
    rw[ha]at hw;refine Z.cond (fun _=>Z.B9 (Z.w6 ?_ (Z.pure ?_))) (fun e=>by cases e)
    ·exact lT
    ·show s++[_]=_;rw[eR, <-hw];rfl
  ·grind
  ·have F:t=f.words.map (sub E):=F;subst F;unfold Vc;simp only[nU,ax];refine Z.cond (fun e=>?_) (fun e=>?_)
   ·replace e:=bx e;rw[if_pos e]at mR;simp only[Va (c:=c) M,ax];refine Z.B9 ?_;have Vd:=hE.put f.name (qn c);refine Z.B3 (P:=L2 (fun t=>t=(((c+1+K2 f.subs:Nat):Int),L4 qn f.subs ((f.name,qn c)::E) (c+1))) (fun _=>False)) ((Z.range (fun k s=>s=(((c+1+K2 (f.subs.take k):Nat):Int),L4 qn (f.subs.take k) ((f.name,qn c)::E) (c+1))) (fun _=>False) (fun _=>False) (by simp[K2,L4]) (fun k s S hs=>?_)).mono fun e he=>?_) (fun t F=>?_) nofun
    ·subst hs;have hsz:=W3 S;have dW:=Ce S;unfold Ve;refine Z.bind (ih _ M (pJ N6 S) B (c+1+K2 (f.subs.take k)) mp C' _ _ Vd M) fun v Q=>Z.B9 (Z.w6 ?_ (Z.pure ?_))
     ·rw[Y7];simp only[aa,qU,db,an,cz];omega
     ·subst Q;show(_,_)=(_,_);rw[H8 S,yT,vV,da (c+1)]
    ·grind
    ·have F:t=_:=F;subst F;unfold Vf;refine Z.pure ?_;rw[BK];simp only[if_pos e];rw[show c+nq f=c+1+K2 f.subs by omega]
   ·replace e:=bx e;rw[if_neg e]at mR;refine Z.B3 (P:=L2 (fun t=>t=(((c+K2 f.subs:Nat):Int),L4 qn f.subs E c)) (fun _=>False)) ((Z.range (fun k s=>s=(((c+K2 (f.subs.take k):Nat):Int),L4 qn (f.subs.take k) E c)) (fun _=>False) (fun _=>False) (by simp[K2,L4]) (fun k s S hs=>?_)).mono fun e he=>?_) (fun t F=>?_) nofun
    ·subst hs;have hsz:=W3 S;have dW:=Ce S;unfold Vg;refine Z.bind (ih _ M (pJ N6 S) B (c+K2 (f.subs.take k)) mp C' _ _ hE M) fun v Q=>Z.B9 (Z.w6 ?_ (Z.pure ?_))
     ·rw[Y7];simp only[aa,qU,db,an,cz];omega
     ·subst Q;show(_,_)=(_,_);rw[H8 S,yT,vV,da c]
    ·grind
    ·have F:t=_:=F;subst F;unfold Vh;refine Z.pure ?_;rw[BK];simp only[if_neg e,ky];rw[show c+nq f=c+K2 f.subs by omega]
theorem d4Q(l:List J):l.map (sub [])=l:=(e8 fun x _=>vJ x).trans (List.map_id' l)
theorem i7P:∀(m:Nat)(f:O),am f<=m->P6 f->∀(B:List C5) (c:Nat) (mp:List (J×Int)) (C':List C6),c+nq f<=1000000->
 Z (fun n=>Cy n f B (c:Int) mp C') (fun r=>r=(F8 qn f [] c,((c+nq f:Nat):Int))):=by
 intro m
 induction m with
 |zero=>exact z0
 |succ m ih=>
  intro f hf N6 B c mp C' K;have dU:=wq N6;have hsl:=sP N6;have mR:=Kz f;refine Z.succ ?_;simp only[Cy];refine Z.B3 (P:=L2 (fun t=>t=f.words) (fun _=>False)) ((Z.range (fun k s=>s=f.words.take k) (fun _=>False) (fun _=>False) B5 (fun k s S hs=>?_)).mono fun e he=>?_) (fun t F=>?_) nofun
  ·subst hs;unfold Vi;refine Z.cond (fun e=>by cases e) (fun _=>Z.B9 (Z.w6 ?_ (Z.pure ?_)))
   ·exact lT
   ·show _++[_]=_;rw[H8 S]
  ·grind
  ·have F:t=f.words:=F;subst F;unfold Vj;simp only[nU,ax];refine Z.cond (fun e=>?_) (fun e=>?_)
   ·replace e:=bx e;rw[if_pos e]at mR;simp only[Va (c:=c) M,ax];refine Z.B9 ?_;have Vd:=Er.nil.put f.name (qn c);refine Z.B3 (P:=L2 (fun t=>t=(((c+1+K2 f.subs:Nat):Int),L4 qn f.subs [(f.name,qn c)] (c+1))) (fun _=>False)) ((Z.range (fun k s=>s=(((c+1+K2 (f.subs.take k):Nat):Int),L4 qn (f.subs.take k) [(f.name,qn c)] (c+1))) (fun _=>False) (fun _=>False) (by simp[K2,L4]) (fun k s S hs=>?_)).mono fun e he=>?_) (fun t F=>?_) nofun
    ·subst hs;have dW:=Ce S;unfold Vk;refine Z.bind (i7O _ _ (ae _) (pJ N6 S) B (c+1+K2 (f.subs.take k)) mp C' _ _ Vd M) fun v Q=>Z.B9 (Z.w6 ?_ (Z.pure ?_))
     ·rw[Y7];simp only[aa,qU,db,an,cz];omega
     ·subst Q;show(_,_)=(_,_);rw[H8 S,yT,vV,da (c+1)]
    ·grind
    ·have F:t=_:=F;subst F;unfold Vl;refine Z.pure ?_;rw[BK,d4Q];simp only[if_pos e];rw[show c+nq f=c+1+K2 f.subs by omega]
   ·replace e:=bx e;rw[if_neg e]at mR;refine Z.B3 (P:=L2 (fun t=>t=(((c+K2 f.subs:Nat):Int),L4 qn f.subs [] c)) (fun _=>False)) ((Z.range (fun k s=>s=(((c+K2 (f.subs.take k):Nat):Int),L4 qn (f.subs.take k) [] c)) (fun _=>False) (fun _=>False) (by simp[K2,L4]) (fun k s S hs=>?_)).mono fun e he=>?_) (fun t F=>?_) nofun
    ·subst hs;have hsz:=W3 S;have dW:=Ce S;unfold Vm;refine Z.bind (ih _ M (pJ N6 S) B (c+K2 (f.subs.take k)) mp C' M) fun v Q=>Z.B9 (Z.w6 ?_ (Z.pure ?_))
     ·rw[Y7];simp only[aa,qU,db,an,cz];omega
     ·subst Q;show(_,_)=(_,_);rw[H8 S,yT,vV,da c]
    ·grind
    ·have F:t=_:=F;subst F;unfold Vn;refine Z.pure ?_;rw[BK,d4Q];simp only[if_neg e,ky];rw[show c+nq f=c+K2 f.subs by omega]
theorem zd{k:Nat}(S:k<10):(cb k).length=1:=by rw[cb,dif_pos S];rfl
theorem Vo:∀(l:List O)(x:O),N4 (l++[x])=max (N4 l) (R0 x)
 | [],x=>by simp[N4]
 |a::l,x=>by rw[di,N4,N4,Vo l x];omega
def lJ(f:O):K1:=⟨f,((w9 f:Nat):Int),((R0 f:Nat):Int)⟩
theorem d4R{l:List O}(hn:B8 l<=100000)(hd:N4 l<=100000):Z (fun _=>Cz (l.map lJ)) (fun r=>r=(((1+B8 l:Nat):Int),((N4 l+1:Nat):Int),decide (1+B8 l<=200/\N4 l<40))):=by
 unfold Cz;rw[bc];refine Z.B3 (P:=L2 (fun t=>t=(((1+B8 l:Nat):Int),((N4 l:Nat):Int))) (fun _=>False)) ((Z.range (fun k t=>t=(((1+B8 (l.take k):Nat):Int),((N4 (l.take k):Nat):Int))) (fun _=>False) (fun _=>False) (by simp[B8,N4]) (fun k t S F=>?_)).mono fun e he=>?_) (fun t F=>?_) nofun
 ·subst F;have fD:=eO S;unfold Vp;rw[get_map lJ S];refine Z.pure ?_;show(_,_)=(_,_);rw[H8 S,lC,Vo];simp only[lJ];rw[F9 M M];refine Prod.ext ?_ ?_
  ·grind
  ·grind
 ·grind
 ·have F:t=_:=F;subst F;unfold Vq;refine Z.pure ?_;show(_,_,_)=(_,_,_);rw[F9 M M];refine Prod.ext rfl (Prod.ext ?_ ?_)
  ·grind
  ·grind
theorem smz:P6 zf:=by show P6 (O.mk 0 [] [] []);rw[P6];exact⟨li _,li _,by rw[cY];trivial⟩
