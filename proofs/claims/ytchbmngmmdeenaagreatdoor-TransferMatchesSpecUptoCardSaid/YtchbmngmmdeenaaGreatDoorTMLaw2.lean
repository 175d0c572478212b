import Derived.Test.YtchbmngmmdeenaaGreatDoorTMLaw1
open Classical renaming not_not->dl,byContradiction->cp
open False renaming elim->gh
open Go.Lib renaming decDigits->cb
open Int renaming toNat_natCast->ai
open List renaming take_succ_cons->mc,take_length->cj,length_map->bc,length_set->mm,map_cons->bv,map_append->cm,map_map->ja,zip_cons_cons->te,map_congr_left->e8,flatMap_cons->qf,length_eq_zero_iff->dt,append_nil->gf,flatMap_append->kn,append_assoc->bl,nil_append->fw,length_append->aa,length_cons->an,length_nil->cz,filter_append->AS,take_append_drop->ew,mem_cons->ce,mem_map->bj,mem_filter->ml,mem_singleton->ao,mem_append->al,getElem_inj->BC,length_replicate->oj,take_zero->fe,range'->fi,mem_flatMap->ed,mem_range'_1->ff,length_range'->mr,drop_zero->lj,drop_length->lm,cons_append->di,getD_eq_getElem?_getD->ac,getElem?_eq_getElem->b7,length_take->db,nil_sublist->kp,nodup_range'->ul,getElem?_append_left->cy,getElem?_append_right->c8,replicate->be,mem_cons_of_mem->aw,mem_cons_self->az,mem_append_left->de,mem_append_right->bz,isEmpty_nil->Cf,sublist_append_right->l8,nodup_cons->ia,pairwise_cons->lw
open List.Nodup renaming sublist->l3
open List.Sublist renaming append->vz,refl->IS
open List.cons renaming sizeOf_spec->uu,inj->en
open Nat renaming add_assoc->da,le_refl->ae,zero_add->dq,not_lt_zero->co
open Option renaming bind_some->ax,getD_some->nf
open Prod renaming fst->AR,snd->GE,ext->uk
open SizeOf renaming sizeOf->am
namespace Go.Proofs.YtchbmngmmdeenaaGreatDoor
open Go Go.Am
variable {α β:Type} {pl:J->Nat} {B:List C5} {AM used:List C6} {out:List IT} {d:Nat} {ν:Nat->J->J}
mutual
def RowK(R:List IT):O->Nat->Prop
 | .mk k n w s,p=>p<R.length/\(Am.get R p).kind=k/\(Am.get R p).name=n/\(Am.get R p).words=w/\(Am.get R p).end_=((p+w9 (.mk k n w s):Nat):Int)/\mY R s (p+1)
def mY(R:List IT):List O->Nat->Prop
 | [],_=>True
 |f::l,p=>RowK R f p/\mY R l (p+w9 f)
end
theorem MD(R:List IT)(f:O)(p:Nat):RowK R f p↔p<R.length/\(Am.get R p).kind=f.kind/\(Am.get R p).name=f.name/\(Am.get R p).words=f.words/\(Am.get R p).end_=((p+w9 f:Nat):Int)/\mY R f.subs (p+1):=by cases f;rw[RowK];rfl
theorem mY.get{R:List IT}:∀ {l:List O} {p:Nat},mY R l p->∀k,k<l.length->RowK R (Am.get l k) (p+B8 (l.take k))
 | [],_,_,k,S=>by simp at S
 |f::l,p,h,0,_=>by rw[mY]at h;simpa[B8,Am.get]using h.1
 |f::l,p,h,k+1,S=>by rw[mY]at h;have:=mY.get h.2 k (by simpa using S);rw[mc,B8, <-da];exact this
mutual
theorem R8.k{R R':List IT}(hl:R'.length=R.length)(hs:∀j,j<R.length->Y1 (Am.get R' j)=Y1 (Am.get R j)/\(Am.get R' j).end_=(Am.get R j).end_):∀ {f:O} {W:List J} {p:Nat},R8 R f W p->RowK R' f p
 | .mk k n w s,W,p,h=>by rw[R8]at h;rw[RowK];have⟨U,X,h3⟩:=h;have⟨e1,e2⟩:=hs p U;rw[X]at e1 e2;unfold Y1 at e1;simp only[Prod.mk.injEq]at e1;exact⟨by omega,e1.1,e1.2.1,e1.2.2,e2,V8.k hl hs h3⟩
theorem V8.k{R R':List IT}(hl:R'.length=R.length)(hs:∀j,j<R.length->Y1 (Am.get R' j)=Y1 (Am.get R j)/\(Am.get R' j).end_=(Am.get R j).end_):∀ {l:List O} {W:List J} {p:Nat},V8 R l W p->mY R' l p
 | [],W,p,h=>by rw[mY];trivial
 |f::l,W,p,h=>by rw[V8]at h;rw[mY];exact⟨R8.k hl hs h.1,V8.k hl hs h.2⟩
end
theorem i9A{f:O}{k:Nat}(S:k<f.subs.length):w9 (Am.get f.subs k)<=w9 f:=by have U:=eO S;rw[Y8 f];omega
theorem i9B{R:List IT}(hR:R.length<=100000):∀(m:Nat)(g:O),am g<=m->D6 g->∀(p:Nat),RowK R g p->Z (fun n=>Db n (p:Int) R) (fun r=>r=g):=by
 intro m;induction m with
 |zero=>exact z0
 |succ m ih=>
  intro g hg hwf p h;have⟨hp,S,hn,hw,he,hl⟩:=(MD R g p).1 h;have dU:=((Q6 _).1 hwf).2.1;have hsl:=((Q6 _).1 hwf).2.2.1;refine Z.succ ?_;simp only[Db];refine Z.w6 M ?_;refine Z.B3 (Z.R5 g.words.length (fun k s=>s=(g.words.take k,(k:Int))) (fun t=>t=g.words) (fun _=>False) B5 (fun k s S hs=>?_) (fun s hs=>?_)) (fun t F=>?_) (fun r hr=>?_)
  ·subst hs;unfold ME;simp only[ai,hw];refine Z.cond (fun _=>Z.w6 M (Z.B9 (Z.w6 ?_ (Z.pure ?_)))) ab
   ·exact lT
   ·show(_,_)=(_,_);rw[H8 S,F9 M M];rfl
  ·subst hs;unfold ME;simp only[ai,hw];refine Z.cond ab (fun _=>Z.pure ?_);show g.words.take g.words.length=_;rw[cj]
  ·have F:t=g.words:=F;subst F;unfold Xi;have hw1:wr .i64 ((p:Int)+1)=((p+1:Nat):Int):=by rw[F9 M M];rfl
   rw[hw1];refine Z.B3 (Z.R5 g.subs.length (fun k s=>s=(g.subs.take k,((p+1+B8 (g.subs.take k):Nat):Int),(k:Int))) (fun t=>t=g.subs) (fun _=>False) (by simp[B8]) (fun k s hk1 hs=>?_) (fun s hs=>?_)) (fun t F=>?_) (fun r hr=>?_)
   ·subst hs;have hsub:=mY.get hl k hk1;have hsz:=W3 hk1;have⟨hp2,_,_,_,nR,_⟩:=(MD R _ _).1 hsub;unfold MF;simp only[ai,S,qZ hwf,ax];refine Z.cond (fun _=>?_) ab;refine Z.bind (ih _ M (hY hwf hk1) _ hsub) fun v Q=>Z.B9 (Z.w6 ?_ (Z.w6 M (Z.pure ?_)))
    ·exact lT
    ·subst Q;show(_,_,_)=(_,_,_);rw[nR,H8 hk1,lC,F9 M M,da (p+1)];rfl
   ·subst hs;unfold MF;simp only[ai,S,qZ hwf,ax];refine Z.cond ab (fun _=>Z.pure ?_);show g.subs.take g.subs.length=_;rw[cj]
   ·have F:t=g.subs:=F;subst F;unfold Xj;refine Z.pure ?_;rw[ai,S,hn];exact Lp g
   ·exact gh hr
  ·exact gh hr
theorem i9C{R:List IT}(hR:R.length<=100000):∀(m:Nat)(g:O),am g<=m->D6 g->w9 g<=100000->∀(p:Nat),RowK R g p->Z (fun n=>Dc n R (p:Int)) (fun r=>r=((R0 g:Nat):Int)):=by
 intro m;induction m with
 |zero=>exact z0
 |succ m ih=>
  intro g hg hwf hnd p h;have⟨hp,S,hn,hw,he,hl⟩:=(MD R g p).1 h;have hsl:=((Q6 _).1 hwf).2.2.1;have hdp:=d3y g;have hdl:=i9z _ g (ae _);have LX:=Y8 g;refine Z.succ ?_;simp only[Dc];have hw1:wr .i64 ((p:Int)+1)=((p+1:Nat):Int):=by rw[F9 M M];rfl
  rw[hw1];refine Z.B3 (Z.R5 g.subs.length (fun k s=>s=(((N4 (g.subs.take k):Nat):Int),((p+1+B8 (g.subs.take k):Nat):Int),(k:Int))) (fun t=>t=((N4 g.subs:Nat):Int)) (fun _=>False) (by simp[B8,N4]) (fun k s hk1 hs=>?_) (fun s hs=>?_)) (fun t F=>?_) (fun r hr=>?_)
  ·subst hs;have hsub:=mY.get hl k hk1;have hsz:=W3 hk1;have hns:=(i9A hk1);have⟨hp2,_,_,_,nR,_⟩:=(MD R _ _).1 hsub;have fD:=eO hk1;unfold MG;simp only[ai,S,qZ hwf,ax];refine Z.w6 M (Z.cond (fun _=>?_) ab);refine Z.bind (ih _ M (hY hwf hk1) M _ hsub) fun v Q=>?_;subst Q;have hwk:wr .i64 ((k:Int)+1)=((k+1:Nat):Int):=by rw[F9 M M];rfl
   have hend:((p+1+B8 (g.subs.take k)+w9 (Am.get g.subs k):Nat):Int)=((p+1+B8 (g.subs.take (k+1)):Nat):Int):=by rw[H8 hk1,lC,da (p+1)]
   have hdd:N4 (g.subs.take (k+1))=max (N4 (g.subs.take k)) (R0 (Am.get g.subs k)):=by rw[H8 hk1,d6S]
   refine Z.cond (fun e=>Z.w6 M (Z.pure ?_)) (fun e=>Z.w6 M (Z.pure ?_))
   ·replace e:=bx e;show(_,_,_)=(_,_,_);rw[nR,hend,hwk,hdd,Nat.max_eq_right M]
   ·replace e:=bx e;show(_,_,_)=(_,_,_);rw[nR,hend,hwk,hdd,Nat.max_eq_left M]
  ·subst hs;unfold MG;simp only[ai,S,qZ hwf,ax];refine Z.w6 M (Z.cond ab (fun _=>Z.pure ?_));show((N4 (g.subs.take g.subs.length):Nat):Int)=_;rw[cj]
  ·have F:t=((N4 g.subs:Nat):Int):=F;subst F;unfold Xk;refine Z.pure ?_;rw[F9 M M,hdp];omega
  ·exact gh hr
theorem i9E{r:O}(hwf:D6 r)(hn:w9 r<=100000){l:List IT}(hl:l.map Y1=(D2 r).map kB):Z (fun n=>GI n l) (fun l'=>l'.length=w9 r/\RowK l' r 0):=by
 have hll:l.length=w9 r:=by have:=congrArg List.length hl;rw[bc,bc,gD]at this;exact this
 have hrr:(D4 r [] 0).length=w9 r:=dS _ _ _;have ideal:∀j,j<w9 r->Y1 (Am.get (D4 r [] 0) j)=kB (Am.get (D2 r) j)/\(Am.get (D4 r [] 0) j).end_=((j+w9 (Am.get (D2 r) j):Nat):Int):=fun j L=>by have F:=vS r [] 0 j L;rw[dq]at F;refine⟨?_,F.2.2.2.1⟩;unfold Y1 kB;rw[F.1,F.2.1,F.2.2.1]
 have i9F:∀j,j<w9 r->∀k,k<(Am.get (D2 r) j).subs.length->j+1+B8 ((Am.get (D2 r) j).subs.take k)<w9 r/\w9 (Am.get (D2 r) (j+1+B8 ((Am.get (D2 r) j).subs.take k)))=w9 (Am.get (Am.get (D2 r) j).subs k):=fun j L k S=>by have⟨ar,ha⟩:=R8.node (yw r []) j L;rw[dq]at ha;have⟨_,_,h3⟩:=(fG _ _ _ _).1 ha;have⟨g1,g2,_⟩:=(fG _ _ _ _).1 (V8.get h3 k S);rw[hrr]at g1;refine⟨g1,?_⟩;have h5:=(ideal _ g1).2;rw[g2]at h5;have h5:((j+1+B8 ((Am.get (D2 r) j).subs.take k)+w9 (Am.get (Am.get (D2 r) j).subs k):Nat):Int)=_:=h5;omega
 have i9G:∀j,j<w9 r->j+w9 (Am.get (D2 r) j)<=w9 r:=fun j L=>by have⟨ar,ha⟩:=R8.node (yw r []) j L;have:=ha.le;rw[hrr]at this;omega
 unfold GI;have hw:wr .i64 ((l.length:Int)-1)=(l.length:Int)-1:=F9 M M;rw[hw];refine Z.B3 (Z.R5 (w9 r) (fun k s=>∃m:Nat,s.2=(m:Int)-1/\m+k=w9 r/\s.1.length=w9 r/\(∀j,j<w9 r->Y1 (Am.get s.1 j)=kB (Am.get (D2 r) j))/\(∀j,m<=j->j<w9 r->(Am.get s.1 j).end_=((j+w9 (Am.get (D2 r) j):Nat):Int))) (fun t=>t.length=w9 r/\(∀j,j<w9 r->Y1 (Am.get t j)=kB (Am.get (D2 r) j))/\(∀j,j<w9 r->(Am.get t j).end_=((j+w9 (Am.get (D2 r) j):Nat):Int))) (fun _=>False) ⟨w9 r,by show(l.length:Int)-1=_;rw[hll],rfl,hll,fun j L=>?_,fun j U X=>absurd U M⟩ (fun k s S hs=>?_) (fun s hs=>?_)) (fun t F=>?_) (fun r hr=>?_)
 ·show Y1 (Am.get l j)=_;rw[<-get_map Y1 (show j<l.length by omega),hl,get_map kB (by rw[gD];exact L)]
 ·have⟨m,aK,hm,V1,jc,tq⟩:=hs;obtain⟨i,rfl⟩:∃i,m=i+1:=⟨m-1,by omega⟩;have u:i<w9 r:=by omega
  have aK:s.2=(i:Int):=by omega
  have⟨AM,p⟩:=s;have aK:p=(i:Int):=aK;subst aK;have V1:AM.length=w9 r:=V1;have jc:∀j,j<w9 r->Y1 (Am.get AM j)=kB (Am.get (D2 r) j):=jc;have tq:∀j,i+1<=j->j<w9 r->(Am.get AM j).end_=((j+w9 (Am.get (D2 r) j):Nat):Int):=tq;have aC:D6 (Am.get (D2 r) i):=d5N r hwf _ (get_mem (by rw[gD];exact u));have hsl:=((Q6 _).1 aC).2.2.1;have hkd:(Am.get AM i).kind=(Am.get (D2 r) i).kind:=congrArg AR (jc i u);have hle:=i9G i u;have LX:=Y8 (Am.get (D2 r) i);unfold MH;refine Z.cond (fun _=>?_) ab;have hw1:wr .i64 ((i:Int)+1)=((i+1:Nat):Int):=by rw[F9 M M];rfl
  simp only[hw1];refine Z.B3 (Z.R5 (Am.get (D2 r) i).subs.length (fun k t=>t=(((i+1+B8 ((Am.get (D2 r) i).subs.take k):Nat):Int),(k:Int))) (fun t=>t=((i+w9 (Am.get (D2 r) i):Nat):Int)) (fun _=>False) (by simp[B8]) (fun k t hk2 F=>?_) (fun t F=>?_)) (fun t F=>?_) (fun r hr=>?_)
  ·subst F;have⟨g1,g2⟩:=i9F i u k hk2;unfold MI;simp only[ai,hkd,qZ aC,ax];refine Z.w6 M (Z.cond (fun _=>Z.w6 M (Z.pure ?_)) ab);show(_,_)=(_,_);rw[tq _ M g1,g2,H8 hk2,lC,F9 M M,da (i+1)];rfl
  ·subst F;unfold MI;simp only[ai,hkd,qZ aC,ax];refine Z.w6 M (Z.cond ab (fun _=>Z.pure ?_));show((i+1+B8 ((Am.get (D2 r) i).subs.take (Am.get (D2 r) i).subs.length):Nat):Int)=_;rw[cj,LX,da]
  ·have F:t=((i+w9 (Am.get (D2 r) i):Nat):Int):=F;subst F;unfold Xl;simp only[ai];refine Z.w6 M (Z.B9 (Z.pure ⟨i,?_,by omega,by rw[mm];exact V1,fun j L=>?_,fun j U X=>?_⟩))
   ·show wr .i64 ((i:Int)-1)=_;exact F9 M M
   ·by_cases ej:j=i
    ·subst ej;rw[get_set_same M, <-jc j L];rfl
    ·rw[kC ej];exact jc j L
   ·by_cases ej:j=i
    ·subst ej;rw[get_set_same M]
    ·rw[kC ej];exact tq j M X
  ·exact gh hr
 ·have⟨m,aK,hm,V1,jc,tq⟩:=hs;obtain rfl:m=0:=by omega
  unfold MH;refine Z.cond ab (fun _=>Z.pure ⟨V1,jc,fun j L=>tq j M L⟩)
 ·have⟨U,X,h3⟩:=F;unfold Xm;refine Z.pure ⟨U,R8.k (R:=D4 r [] 0) M (fun j L=>?_) (yw r [])⟩;rw[hrr]at L;exact⟨(X j L).trans (ideal j L).1.symm,(h3 j L).trans (ideal j L).2.symm⟩
 ·exact gh hr
def Dd(x:O):IT:=⟨x.kind,x.name,x.words,[],0⟩
def bA(f:O):List IT:=(D2 f).map Dd
def iq(l:List O):List IT:=(M4 l).map Dd
theorem d6U(f:O):bA f=Dd f::iq f.subs:=by unfold bA iq;rw[pC,bv]
theorem tu(f:O):(bA f).length=w9 f:=by unfold bA;rw[bc,gD]
theorem d6V:iq []=[]:=by unfold iq;rw[M4];rfl
theorem i9H(f:O)(l:List O):iq (f::l)=bA f++iq l:=by unfold iq bA;rw[M4,cm]
theorem i9I(l:List O)(f:O):iq (l++[f])=iq l++bA f:=by unfold iq bA;rw[Fu,cm]
theorem i9J(f:O):(bA f).map Y1=(D2 f).map kB:=by unfold bA;rw[ja];rfl
def lP(s:B1)(it:IT):Prop:=(it.kind=2/\it.words.length=0)/\it.name∈s.parts
instance(s:B1)(it:IT):Decidable (lP s it):=inferInstanceAs (Decidable (_/\_))
def zB(R:C5)(e:Env)(vr:J->J)(it:IT):List J:=(it.words.zip it.bound).map fun p=>if p.2=true then vr p.1 else if p.1∈R.from_.words then E0 e (46::p.1)else p.1
def zC(R:C5)(e:Env)(vr:J->J)(it:IT):J:=if QK it.kind then vr it.name else if it.kind=2/\it.name∈R.from_.A8 then E0 e (33::it.name)else it.name
def eU(R:C5)(e:Env)(P:J->O)(vr:J->J)(it:IT):List IT:=if lP R.from_ it then bA (P it.name)else [⟨it.kind,zC R e vr it,zB R e vr it,[],0⟩]
theorem d6W{α β γ:Type}(f:α->β)(g:α×β->γ):∀l:List α,(l.zip (l.map f)).map g=l.map fun x=>g (x,f x)
 | []=>rfl
 |x::l=>by rw[bv,te,bv,bv,d6W f g l]
mutual
theorem Xn{R:C5}{e:Env}{P:J->O}{vr:J->J}:∀(f:O)(W:List J)(b:Nat),D6 f->bA (inst' R e P vr W f)=(D4 f W b).flatMap (eU R e P vr)
 | .mk k n w s,W,b,ha=>by
   have hw:∀(it:IT),it=⟨k,n,w,w.map (fun x=>decide (x∈W)),((b+w9 (.mk k n w s):Nat):Int)⟩->zB R e vr it=w.map fun x=>if x∈W then vr x else if x∈R.from_.words then E0 e (46::x)else x:=fun it hit=>by
    subst hit;unfold zB;show((w.zip (w.map fun x=>decide (x∈W))).map _)=_;rw[d6W];refine e8 fun x _=>?_;by_cases H:x∈W
    ·simp[H]
    ·simp[H]
   have hr:D4 (.mk k n w s) W b=⟨k,n,w,w.map (fun x=>decide (x∈W)),((b+w9 (.mk k n w s):Nat):Int)⟩::O9 s (if QK k then n::W else W) (b+1):=yP _ _ _
   rw[hr,qf,inst'];have⟨I,_,_,a4⟩:=(Q6 _).1 ha;by_cases hp:F6 R.from_ (.mk k n w s)
   ·have S:k=2:=hp.1.1;have hs:s=[]:=dt.1 (by have U:((s.length:Nat):Int)=R2 k:=I;rw[S]at U;have e2:R2 2=0:=rfl;omega);subst hs;rw[if_pos hp];have ho:eU R e P vr ⟨k,n,w,w.map (fun x=>decide (x∈W)),((b+w9 (.mk k n w []):Nat):Int)⟩=bA (P n):=by unfold eU;rw[if_pos (show lP R.from_ ⟨k,n,w,w.map (fun x=>decide (x∈W)),((b+w9 (.mk k n w []):Nat):Int)⟩from hp)]
    rw[ho,O9,List.flatMap_nil,gf]
   ·rw[if_neg hp,d6U];have ho:eU R e P vr ⟨k,n,w,w.map (fun x=>decide (x∈W)),((b+w9 (.mk k n w s):Nat):Int)⟩=[Dd (.mk k (if QK k then vr n else if k=2/\n∈R.from_.A8 then E0 e (33::n)else n) (w.map fun x=>if x∈W then vr x else if x∈R.from_.words then E0 e (46::x)else x) (Z0 R e P vr (if QK k then n::W else W) s))]:=by unfold eU;rw[if_neg (show ¬lP R.from_ ⟨k,n,w,w.map (fun x=>decide (x∈W)),((b+w9 (.mk k n w s):Nat):Int)⟩from hp),hw _ rfl];rfl
    rw[ho];show Dd _::iq (Z0 R e P vr (if QK k then n::W else W) s)=[Dd _]++_
    rw[d6X s _ (b+1) a4];rfl
theorem d6X{R:C5}{e:Env}{P:J->O}{vr:J->J}:∀(l:List O)(W:List J)(b:Nat),R9 l->iq (Z0 R e P vr W l)=(O9 l W b).flatMap (eU R e P vr)
 | [],W,b,_=>by rw[Z0,O9,d6V];rfl
 |f::l,W,b,ha=>by rw[R9]at ha;rw[Z0,O9,i9H,kn,Xn f W b ha.1,d6X l W (b+w9 f) ha.2]
end
theorem d6Y{m:Nat}(hm:m<=1000000000):Z (fun n=>zD n (m:Int)) (fun r=>r=cb m):=by
 unfold zD;have hl:=oa hm;refine Z.cond (fun e=>Z.pure ?_) (fun e=>?_)
 ·have e:(m:Int)=0:=of_decide_eq_true e;have e:m=0:=by omega
  subst e;rw[cb,dif_pos M];rfl
 have e:¬(m:Int)=0:=of_decide_eq_false e;refine Z.bind (P:=fun v=>v=(m:Int)) ?_ fun v Q=>?_
 ·unfold MJ;refine Z.cond (fun e=>by have:=of_decide_eq_true e;omega) (fun _=>Z.pure ?_);show((m:Nat):Int)%18446744073709551616=_;omega
 subst Q;refine Z.B3 (Z.loop (fun s:J×Int=>s.2.toNat) (fun s=>∃q:Nat,s.2=(q:Int)/\q<=m/\cb m=(if q=0 then []else cb q)++s.1) (fun t=>t=cb m) (fun _=>False) ⟨m,rfl,ae _,by rw[if_neg M];simp⟩ (fun s hs=>?_)) (fun t F=>?_) (fun r hr=>hr.elim)
 ·have⟨q,hq,hqm,hd⟩:=hs;unfold Xo;have U:Int.tmod s.2 10=((q%10:Nat):Int):=by rw[hq];rfl
  have X:Int.tdiv s.2 10=((q / 10:Nat):Int):=by rw[hq];rfl
  have h3:wr .u8 (wr .u64 (48+((q%10:Nat):Int)))=((48+q%10:Nat):Int):=by
   have:q%10<10:=Nat.mod_lt _ D5;have Tw:wr .u64 (48+((q%10:Nat):Int))=48+((q%10:Nat):Int):=by show(48+((q%10:Nat):Int))%18446744073709551616=_;omega
   rw[Tw];show(48+((q%10:Nat):Int))%256=_;omega
  rw[U,X,h3];simp only[ai];refine Z.cond (fun e0=>?_) (fun e0=>Z.pure ?_)
  ·have e0:0<s.2:=of_decide_eq_true e0;have kS:¬q=0:=by omega
   rw[if_neg kS]at hd;have hl2:(cb q).length+s.1.length<=21:=by grind
   refine Z.w6 (by unfold P8;simp;omega) (Z.w6 ⟨by show 0<=_;omega,by show _<=(18446744073709551615:Int);omega⟩ (Z.pure ⟨⟨q / 10,rfl,by omega,?_⟩,?_⟩))
   ·rw[hd];by_cases hlt:q<10
    ·have:q / 10=0:=by omega
     rw[if_pos this,cb,dif_pos hlt,Nat.mod_eq_of_lt hlt];rfl
    ·rw[if_neg M,cb,dif_neg hlt,bl];rfl
   ·grind
  ·have e0:¬0<s.2:=of_decide_eq_false e0;have kS:q=0:=by omega
   rw[if_pos kS,fw]at hd;exact hd.symm
 ·have F:t=cb m:=F;subst F;unfold Xp;exact Z.cond (fun e=>by have:=of_decide_eq_true e;omega) (fun _=>Z.pure rfl)
def F3(a:Nat)(x:J):J:=O1 (O1 (O1 [35] x) [35]) (cb a)
theorem d6Z(s:B1)(e:Env):(BL s e).drop (s.words.length+s.A8.length+s.parts.length)=(qs s.form).map fun v=>(⟨v,E0 e (63::v),C9 e (63::v)⟩:C4):=by
 have h:BL s e=(s.words.map (fun v=>(⟨v,E0 e (46::v),C9 e (46::v)⟩:C4))++s.A8.map (fun v=>⟨v,E0 e (33::v),C9 e (33::v)⟩)++s.parts.map (fun v=>⟨v,E0 e (43::v),C9 e (43::v)⟩))++(qs s.form).map fun v=>⟨v,E0 e (63::v),C9 e (63::v)⟩:=by unfold BL E4;simp[ja,Function.comp_def]
 rw[h,List.drop_left' (by simp;omega)]
theorem d7a{R:C5}(hs:S4 R.from_)(e:Env){x:J}(A:x.length<=8000000){a:Nat}(ha:a<=1000000):Z (fun n=>Df n (qs R.from_.form) ((qs R.from_.form).map fun v=>(⟨v,E0 e (63::v),C9 e (63::v)⟩:C4)) x (a:Int)) (fun r=>r=N5 F3 R e a x):=by
 have lD:(qs R.from_.form).length<=200:=by rw[ji];have:=jj R.from_.form;have:=hs.form.2.1;omega
 unfold Df;refine Z.bind (eP (qs R.from_.form) x M) fun v Q=>?_;rcases Q with⟨hn,rfl⟩|⟨j,L,lK,_,rfl⟩
 ·have hl:=oa (m:=a) M;refine Z.cond (fun e=>by cases e) (fun _=>Z.w6 (by unfold P8;simp;omega) (Z.w6 (by unfold P8 O1;simp;omega) (Z.bind (d6Y (m:=a) M) fun v Q=>Z.w6 ?_ (Z.pure ?_))))
  ·subst Q;unfold P8 O1;simp only[aa,an,cz];omega
  ·subst Q;unfold N5;rw[if_neg hn];rfl
 ·refine Z.cond (fun _=>Z.w6 ⟨by omega,by rw[bc];omega⟩ (Z.pure ?_)) (fun e=>by replace e:=of_decide_eq_false e;omega);rw[ai,get_map _ L];show E0 e (63::Am.get (qs R.from_.form) j)=_;unfold N5;rw[lK,if_pos (by rw[<-lK];exact get_mem L)]
theorem d7b(s:B1)(hl:s.parts.length<=8000000)(it:IT):Z (fun n=>rA n s it) (fun v=>v=decide (lP s it)):=by
 unfold rA;by_cases K:it.kind=2/\it.words.length=0
 ·have e:(bif (decide (it.kind=2))then(decide ((it.words.length:Int)=0))else false)=true:=by simp[K]
  rw[e];refine Z.bind (P:=pD s.parts it.name) (Z.gd (fun _=>eP _ _ hl) (fun e=>by cases e)) fun v Q=>Z.pure ?_;rw[cond_true];exact decide_eq_decide.2 ⟨fun h=>⟨K,Q.mem.1 h⟩,fun h=>Q.mem.2 h.2⟩
 ·have e:(bif (decide (it.kind=2))then(decide ((it.words.length:Int)=0))else false)=false:=by simp_all
  rw[e];refine Z.bind (P:=fun _=>True) (Z.gd (fun e=>by cases e) (fun _=>trivial)) fun v _=>Z.pure ?_;rw[cond_false];exact(decide_eq_false fun h=>K h.1).symm
def jq(s:B1)(l:List IT):List J:=(l.filter fun it=>decide (lP s it)).map (·.name)
theorem MK(s:B1)(a b:List IT):jq s (a++b)=jq s a++jq s b:=by unfold jq;rw[AS,cm]
theorem Xq(s:B1)(it:IT):jq s [it]=if lP s it then [it.name]else []:=by
 unfold jq;by_cases h:lP s it
 ·simp[h]
 ·simp[h]
mutual
theorem d7c(s:B1):∀(f:O)(W:List J)(b:Nat),jq s (D4 f W b)=jo s f
 | .mk k n w l,W,b=>by
   have hr:D4 (.mk k n w l) W b=[⟨k,n,w,w.map (fun x=>decide (x∈W)),((b+w9 (.mk k n w l):Nat):Int)⟩]++O9 l (if QK k then n::W else W) (b+1):=yP _ _ _
   rw[hr,MK,Xq,d7d s l];unfold jo iL;rw[D2];by_cases h:F6 s (.mk k n w l)
   ·rw[if_pos (show lP s ⟨k,n,w,w.map (fun x=>decide (x∈W)),((b+w9 (.mk k n w l):Nat):Int)⟩from h),List.filter_cons_of_pos (by simp[h])];rfl
   ·rw[if_neg (show ¬lP s ⟨k,n,w,w.map (fun x=>decide (x∈W)),((b+w9 (.mk k n w l):Nat):Int)⟩from h),List.filter_cons_of_neg (by simp[h])];rfl
theorem d7d(s:B1):∀(l:List O)(W:List J)(b:Nat),jq s (O9 l W b)=iL s l
 | [],W,b=>by rw[O9,d6z];rfl
 |f::l,W,b=>by rw[O9,MK,d7c s f,d7d s l];unfold jo iL;rw[M4,AS,cm]
end
theorem i9K(R:C5):cZ R=(jq R.from_ (D4 R.B4 [] 0)).foldl bW []:=by rw[d7c,d6t]
structure om(B:List C5)(R:C5)(d:Nat)(e:Env)(pl:J->Nat)(vr:J->J)(i:Nat)(out:List IT)(used:List C6)(parts:List (List IT)):Prop where
 ML:out=((D4 R.B4 [] 0).take i).flatMap (eU R e (PT B d e pl F3) vr)
 d7e:parts.length=R.from_.parts.length
 d7f:∀q,q<R.from_.parts.length->Am.get parts q=if Am.get R.from_.parts q∈(jq R.from_ ((D4 R.B4 [] 0).take i)).foldl bW []then bA (PT B d e pl F3 (Am.get R.from_.parts q))else []
 Xr:used.Perm ((LD B d (fun v=>C9 e (43::v)) pl ((jq R.from_ ((D4 R.B4 [] 0).take i)).foldl bW [])).map eT)
 small:out.length<=200
theorem d7g(R:C5)(e:Env)(P:J->O)(vr:J->J)(l:List IT){i:Nat}(_:i<=l.length):((l.take i).flatMap (eU R e P vr)).length<=(l.flatMap (eU R e P vr)).length:=by
 have h:l.flatMap (eU R e P vr)=(l.take i).flatMap (eU R e P vr)++(l.drop i).flatMap (eU R e P vr):=by rw[<-kn,ew]
 rw[h,aa];omega
theorem d7h(s:B1)(e:Env){j:Nat}(L:j<(E4 s).length):Am.get (BL s e) j=⟨(Am.get (E4 s) j).drop 1,E0 e (Am.get (E4 s) j),C9 e (Am.get (E4 s) j)⟩:=by unfold BL;exact get_map (fun k:J=>(⟨k.drop 1,E0 e k,C9 e k⟩:C4)) L
theorem i9L(s:B1)(e:Env){j:Nat}(L:j<s.words.length):(Am.get (BL s e) j).text=E0 e (46::Am.get s.words j):=by have S:=sO s;rw[d7h s e M,Lw L]
theorem i9M(s:B1)(e:Env){j:Nat}(L:j<s.A8.length):(Am.get (BL s e) (s.words.length+j)).text=E0 e (33::Am.get s.A8 j):=by have S:=sO s;rw[d7h s e M,UD L]
theorem d7i{α β:Type}[Inhabited α][Inhabited β]:∀(l:List α)(m:List β)(k:Nat),k<l.length->k<m.length->(l.zip m).take (k+1)=(l.zip m).take k++[(Am.get l k,Am.get m k)]
 | [],_,k,h,_=>by simp at h
 |x::l,[],k,_,h=>by simp at h
 |x::l,y::m,0,_,_=>rfl
 |x::l,y::m,k+1,h,X=>by rw[te,mc,mc,d7i l m k (by simpa using h) (by simpa using X)];rfl
theorem i9N{R:C5}(hs:S4 R.from_)(e:Env){a:Nat}(ha:a<=1000000){v2:List IT}{i:Nat}{Y:List IT×List C6×List (List IT)×Int}(hi0:Y.2.2.2=(i:Int))(pz:(Am.get v2 i).words.length<=3)(mQ:(Am.get v2 i).bound.length=(Am.get v2 i).words.length)(hnm:∀w∈(Am.get v2 i).words,w.length<=8000000):
 Z (fun n=>D9 (GJ n v2 Y R (E3 R.from_++qs R.from_.form) (BL R.from_ e) (a:Int)) n ([],0)) (L2 (fun t:List J=>t=zB R e (N5 F3 R e a) (Am.get v2 i)) (fun _=>False)):=by
 have aX:=hs.ly
 have hbL:=LZ R.from_ e
 have mK:(E3 R.from_++qs R.from_.form).length=R.from_.words.length+R.from_.A8.length+R.from_.parts.length+nq R.from_.form:=by rw[aa,gF,ji]
 refine Z.R5 (Am.get v2 i).words.length (fun k s=>s.2=(k:Int)/\s.1=(((Am.get v2 i).words.zip (Am.get v2 i).bound).take k).map fun p=>if p.2=true then N5 F3 R e a p.1 else if p.1∈R.from_.words then E0 e (46::p.1)else p.1) _ _ ⟨rfl,rfl⟩ (fun k s S pS=>?_) (fun s pS=>?_)
 ·have⟨s1,s2⟩:=s;have⟨U,X⟩:=pS;have U:s2=(k:Int):=U;subst U;have X:s1=_:=X;have eR:=d7i (Am.get v2 i).words (Am.get v2 i).bound k S M;have hwm:Am.get (Am.get v2 i).words k∈(Am.get v2 i).words:=get_mem S;have aR:s1.length<=3:=by grind
  have hw:wr .i64 ((k:Int)+1)=((k+1:Nat):Int):=by rw[F9 M M];rfl
  have fin:∀v:J,v=(if Am.get (Am.get v2 i).bound k=true then N5 F3 R e a (Am.get (Am.get v2 i).words k)else if Am.get (Am.get v2 i).words k∈R.from_.words then E0 e (46::Am.get (Am.get v2 i).words k)else Am.get (Am.get v2 i).words k)->s1++[v]=(((Am.get v2 i).words.zip (Am.get v2 i).bound).take (k+1)).map fun p=>if p.2=true then N5 F3 R e a p.1 else if p.1∈R.from_.words then E0 e (46::p.1)else p.1:=fun v Q=>by grind
  unfold GJ;simp only[hi0,ai,wC hs,CO hs,LA,d6Z];refine Z.cond (fun _=>Z.w6 M (Z.w6 M (Z.cond (fun eb=>?_) (fun eb=>?_)))) (fun ee=>by have:=of_decide_eq_false ee;omega)
  ·refine Z.w6 ⟨by omega,by omega⟩ (Z.w6 M (Z.bind (d7a hs e (hnm _ hwm) ha) fun v Q=>Z.B9 (Z.w6 ?_ (Z.pure ⟨hw,fin v ?_⟩))))
   ·exact lT
   ·rw[if_pos eb];exact Q
  ·have hbf:¬Am.get (Am.get v2 i).bound k=true:=by rw[eb];decide
   refine Z.bind (eP R.from_.words _ M) fun v Q=>Z.cond (fun ee=>?_) (fun ee=>?_)
   ·have hm:Am.get (Am.get v2 i).words k∈R.from_.words:=Q.mem.1 (of_decide_eq_true ee);refine Z.bind (eP R.from_.words _ M) fun v3 W4=>?_;rcases W4 with⟨hn,_⟩|⟨j,L,lK,_,rfl⟩
    ·exact absurd hm hn
    refine Z.w6 ⟨by omega,by omega⟩ (Z.B9 (Z.w6 ?_ (Z.pure ⟨hw,fin _ ?_⟩)))
    ·exact lT
    ·rw[if_neg hbf,if_pos hm,ai,i9L R.from_ e L,lK]
   ·have hm:Am.get (Am.get v2 i).words k∉R.from_.words:=fun h=>by have:=Q.mem.2 h;have:=of_decide_eq_false ee;omega
    refine Z.B9 (Z.w6 ?_ (Z.pure ⟨hw,fin _ ?_⟩))
    ·exact lT
    ·rw[if_neg hbf,if_neg hm]
 ·have⟨s1,s2⟩:=s;have⟨U,X⟩:=pS;have U:s2=((Am.get v2 i).words.length:Int):=U;subst U;have X:s1=_:=X;unfold GJ;simp only[hi0,ai];refine Z.cond (fun ee=>by have:=of_decide_eq_true ee;omega) (fun _=>Z.pure ?_);show s1=_;rw[X,List.take_of_length_le (by rw[List.length_zip];omega)];rfl
theorem MN{ρ:Type}[Inhabited α](xs l0:List α)(hl:xs.length<=1000000)(body:List α×Int->Option (C1 ρ (List α×Int) (List α)))(BB:List α->Prop)(hW:∀k,k<xs.length->BB (l0++xs.take (k+1)))[∀c,Decidable (BB c)]
 (H:∀s,body s=bif decide (s.2<(xs.length:Int))then w6 (0<=s.2/\s.2<(xs.length:Int)) <| B9 (s.1++[Am.get xs s.2.toNat]) fun c=>w6 (BB c) <| some (.B7 (c,wr .i64 (s.2+1)))else some (.brk s.1)):
 Z (fun n=>D9 body n (l0,0)) (L2 (fun t=>t=l0++xs) (fun _=>False)):=by
 refine Z.R5 xs.length (fun k s=>s=(l0++xs.take k,(k:Int))) _ _ B5 (fun k s S hs=>?_) (fun s hs=>?_)
 ·subst hs;rw[H];refine Z.cond (fun _=>Z.w6 (by show 0<=(k:Int)/\(k:Int)<_;omega) (Z.B9 (Z.w6 ?_ (Z.pure ?_)))) (fun e=>by have e:¬(k:Int)<(xs.length:Int):=of_decide_eq_false e;omega)
  ·show BB (l0++xs.take k++[Am.get xs (k:Int).toNat]);rw[ai,bl, <-H8 S];exact hW k S
  ·show(l0++xs.take k++[Am.get xs (k:Int).toNat],wr .i64 ((k:Int)+1))=(l0++xs.take (k+1),((k+1:Nat):Int));rw[ai,bl, <-H8 S,F9 M M];rfl
 ·subst hs;rw[H];refine Z.cond (fun e=>by have e:(xs.length:Int)<(xs.length:Int):=of_decide_eq_true e;omega) (fun _=>Z.pure ?_);show l0++xs.take xs.length=_;rw[cj]
structure GK(B:List C5)(d:Nat)(f:O)(a:Nat)(x:List IT×List C6×Bool):Prop where
 iff:x.2.2=true↔w9 (TT B F3 d f a)<=200
 ok:x.2.2=true->x.1=bA (TT B F3 d f a)/\x.2.1.Perm ((HT B d f a).map eT)
 len:x.1.length<=1000/\x.2.1.length<=100001
theorem d7k{R:C5}(hto:Y0 R.B4)(e:Env)(P:J->O)(vr:J->J):((D4 R.B4 [] 0).flatMap (eU R e P vr)).length=w9 (inst' R e P vr [] R.B4):=by rw[<-Xn R.B4 [] 0 (M1.ar _ hto.1),tu]
theorem d7l{R:C5}(hto:Y0 R.B4){e:Env}{vr:J->J}{i:Nat}(u:i<(D4 R.B4 [] 0).length){Y:List IT×List C6×List (List IT)×Int}(hi0:Y.2.2.2=(i:Int)){parts:List (List IT)}(U:out=((D4 R.B4 [] 0).take (i+1)).flatMap (eU R e (PT B d e pl F3) vr))(h:out.length<=200->om B R d e pl vr (i+1) out used parts):
 Z (fun _:Nat=>Dg Y (out,used,parts)) (cU (fun s:List IT×List C6×List (List IT)×Int=>s.2.2.2=((i+1:Nat):Int)/\om B R d e pl vr (i+1) s.1 s.2.1 s.2.2.1) (fun _:List IT×List C6=>False) (fun r:List IT×List C6×Bool=>(r.2.2=false/\r.1=[]/\r.2.1=[])/\¬w9 (inst' R e (PT B d e pl F3) vr [] R.B4)<=200)):=by
 have MO:(D4 R.B4 [] 0).length=w9 R.B4:=dS _ _ _
 have hnt:=hto.2.1
 unfold Dg
 refine Z.cond (fun ee=>Z.pure ⟨⟨rfl,rfl,rfl⟩,?_⟩) (fun ee=>Z.pure ⟨?_,h ?_⟩)
 ·have ee:(200:Int)<(out.length:Int):=of_decide_eq_true ee;have hle:=d7g R e (PT B d e pl F3) vr (D4 R.B4 [] 0) (i:=i+1) M;rw[<-U,d7k hto]at hle;omega
 ·show wr .i64 (Y.2.2.2+1)=_;rw[hi0,F9 M M];rfl
 ·grind
theorem i9Q{R:C5}(hs:S4 R.from_)(hto:Y0 R.B4){e:Env}{a:Nat}(ha:a<=1000000){i:Nat}(u:i<(D4 R.B4 [] 0).length)(hnp:¬lP R.from_ (Am.get (D4 R.B4 [] 0) i)){parts:List (List IT)}(hst:om B R d e pl (N5 F3 R e a) i out used parts)
 (self:Nat->List C5->List IT->Int->Option (List IT×List C6×Bool)) (K9:List Int) (RG:List IT):
 Z (fun n=>zF (self n) n (D4 R.B4 [] 0) R K9 B RG (E3 R.from_++qs R.from_.form) (BL R.from_ e) (a:Int) (out,used,parts,(i:Int))) (cU (fun s:List IT×List C6×List (List IT)×Int=>s.2.2.2=((i+1:Nat):Int)/\om B R d e pl (N5 F3 R e a) (i+1) s.1 s.2.1 s.2.2.1) (fun _:List IT×List C6=>False) (fun r:List IT×List C6×Bool=>(r.2.2=false/\r.1=[]/\r.2.1=[])/\¬w9 (inst' R e (PT B d e pl F3) (N5 F3 R e a) [] R.B4)<=200)):=by
 have MO:(D4 R.B4 [] 0).length=w9 R.B4:=dS _ _ _
 have hnt:=hto.2.1
 have aX:=hs.ly
 have hbL:=LZ R.from_ e
 have mK:(E3 R.from_++qs R.from_.form).length=R.from_.words.length+R.from_.A8.length+R.from_.parts.length+nq R.from_.form:=by rw[aa,gF,ji]
 have F:=vS R.B4 [] 0 i M
 have⟨t1,t2,t3,_,t5⟩:=F
 have hgm:=get_mem (l:=D2 R.B4) (k:=i) (by rw[gD];omega)
 have hwf:=Lc _ hto.1 _ hgm
 have pz:(Am.get (D4 R.B4 [] 0) i).words.length<=3:=by rw[t3];exact vL hwf
 have mQ:(Am.get (D4 R.B4 [] 0) i).bound.length=(Am.get (D4 R.B4 [] 0) i).words.length:=by rw[t3];exact t5
 have hok:=(kg ((dR _).1 hwf).1)
 have hnm:∀w∈(Am.get (D4 R.B4 [] 0) i).words,w.length<=8000000:=fun w hw=>by rw[t3]at hw;have:=(hok.2.2.2.2 w hw).2.1;omega
 have hout:∀it,it=Am.get (D4 R.B4 [] 0) i->out++[⟨it.kind,zC R e (N5 F3 R e a) it,zB R e (N5 F3 R e a) it,[],0⟩]=((D4 R.B4 [] 0).take (i+1)).flatMap (eU R e (PT B d e pl F3) (N5 F3 R e a)):=fun it hit=>by
  rw[H8 u,kn, <-hst.ML, <-hit];have:eU R e (PT B d e pl F3) (N5 F3 R e a) it=[⟨it.kind,zC R e (N5 F3 R e a) it,zB R e (N5 F3 R e a) it,[],0⟩]:=by unfold eU;rw[if_neg (by rw[hit];exact hnp)]
  simp[this]
 have sX:jq R.from_ ((D4 R.B4 [] 0).take (i+1))=jq R.from_ ((D4 R.B4 [] 0).take i):=by rw[H8 u,MK,Xq,if_neg hnp,gf]
 have jI:∀nm:J,nm=zC R e (N5 F3 R e a) (Am.get (D4 R.B4 [] 0) i)->Z (fun n=>zG n (D4 R.B4 [] 0) (out,used,parts,(i:Int)) R (E3 R.from_++qs R.from_.form) (BL R.from_ e) (a:Int) nm) (cU (fun s:List IT×List C6×List (List IT)×Int=>s.2.2.2=((i+1:Nat):Int)/\om B R d e pl (N5 F3 R e a) (i+1) s.1 s.2.1 s.2.2.1) (fun _:List IT×List C6=>False) (fun r:List IT×List C6×Bool=>(r.2.2=false/\r.1=[]/\r.2.1=[])/\¬w9 (inst' R e (PT B d e pl F3) (N5 F3 R e a) [] R.B4)<=200)):=fun nm i9S=>by
  unfold zG;refine Z.B3 (i9N hs e ha (Y:=(out,used,parts,(i:Int))) rfl pz mQ hnm) (fun t F=>?_) nofun;have F:t=zB R e (N5 F3 R e a) (Am.get (D4 R.B4 [] 0) i):=F;have N6:=hst.small;unfold Xt;refine Z.B9 (Z.w6 ?_ ?_)
  ·exact lT
  simp only[ai];rw[F,i9S];refine d7l hto u rfl (hout _ rfl) fun hsmall=>⟨hout _ rfl,hst.d7e,fun q hq=>?_,?_,hsmall⟩
  ·rw[sX];exact hst.d7f q hq
  ·rw[sX];exact hst.Xr
 unfold zF
 simp only[ai,wC hs,CO hs,LA,d6Z]
 refine Z.cond (fun _=>Z.w6 M (Z.bind (d7b _ M _) fun v Q=>?_)) (fun ee=>by have:=of_decide_eq_false ee;omega)
 subst Q
 refine Z.cond (fun ee=>absurd (of_decide_eq_true ee) hnp) (fun _=>Z.cond (fun ee=>?_) (fun ee=>?_))
 ·have hq:QK (Am.get (D4 R.B4 [] 0) i).kind:=by
   unfold QK;by_cases h8:(Am.get (D4 R.B4 [] 0) i).kind=8
   ·exact .inl h8
   ·grind
  have Eu:(Am.get (D4 R.B4 [] 0) i).name.length<=8000000:=by rw[t2];have:=(hok.2.2.1 (.inr (by rw[<-t1];exact hq))).2.1;omega
  refine Z.w6 ⟨by omega,by omega⟩ (Z.w6 M (Z.bind (d7a hs e Eu ha) fun v Q=>jI v ?_))
  unfold zC
  rw[if_pos hq]
  exact Q
 ·have hq:¬QK (Am.get (D4 R.B4 [] 0) i).kind:=fun h=>by unfold QK at h;rcases h with h|h<;>simp[h]at ee
  refine Z.bind (P:=fun v=>(Am.get (D4 R.B4 [] 0) i).kind=2->pD R.from_.A8 (Am.get (D4 R.B4 [] 0) i).name v) (Z.gd (fun _=>(eP _ _ M).mono fun v Q _=>Q) (fun hh U=>by simp[U]at hh)) fun v Q=>Z.cond (fun e1=>?_) (fun e1=>?_)
  ·have S:(Am.get (D4 R.B4 [] 0) i).kind=2/\0<=v:=by simp_all
   have hm:=(Q S.1).mem.1 S.2;refine Z.bind (eP R.from_.A8 _ M) fun v2 hv2=>?_;rcases hv2 with⟨hn,_⟩|⟨j,L,lK,_,rfl⟩
   ·exact absurd hm hn
   have hw:wr .i64 ((R.from_.words.length:Int)+(j:Int))=((R.from_.words.length+j:Nat):Int):=by rw[F9 M M];omega
   rw[hw];refine Z.w6 ⟨by omega,by omega⟩ (jI _ ?_);rw[ai,i9M R.from_ e L,lK];unfold zC;rw[if_neg hq,if_pos ⟨S.1,hm⟩]
  ·refine jI _ ?_;unfold zC;rw[if_neg hq,if_neg];rintro⟨X,hm⟩;rw[decide_eq_true X,cond_true]at e1;have:=(Q X).mem.2 hm;have:=of_decide_eq_false e1;omega
theorem d7m{α β:Type}(B':α->List β){x:α}:∀ {l:List α},x∈l->(B' x).length<=(l.flatMap B').length
 |y::l,h=>by
  rw[qf,aa];rcases ce.1 h with rfl|h
  ·omega
  ·have:=d7m B' h;omega
theorem i9T{R:C5}(hs:S4 R.from_)(hto:Y0 R.B4){e:Env}{a:Nat}{i:Nat}(u:i<(D4 R.B4 [] 0).length)(hp:lP R.from_ (Am.get (D4 R.B4 [] 0) i)){parts:List (List IT)}(hst:om B R d e pl (N5 F3 R e a) i out used parts)(hL:∀D:List J,D.Nodup->(∀v∈D,v∈R.from_.parts)->(LD B d (fun v=>C9 e (43::v)) pl D).length<=100000)
 (self:Nat->List C5->List IT->Int->Option (List IT×List C6×Bool)) (K9:List Int) (RG:List IT) (hfl:K9.length=(E4 R.from_).length) (hfr:∀q,q<R.from_.parts.length->Am.get K9 (R.from_.words.length+R.from_.A8.length+q)=(pl (Am.get R.from_.parts q):Int)) (lN:∀v∈R.from_.parts,Z (fun n=>self n B RG (pl v:Int)) (GK B d (C9 e (43::v)) (pl v))):
 Z (fun n=>zF (self n) n (D4 R.B4 [] 0) R K9 B RG (E3 R.from_++qs R.from_.form) (BL R.from_ e) (a:Int) (out,used,parts,(i:Int))) (cU (fun s:List IT×List C6×List (List IT)×Int=>s.2.2.2=((i+1:Nat):Int)/\om B R d e pl (N5 F3 R e a) (i+1) s.1 s.2.1 s.2.2.1) (fun _:List IT×List C6=>False) (fun r:List IT×List C6×Bool=>(r.2.2=false/\r.1=[]/\r.2.1=[])/\¬w9 (inst' R e (PT B d e pl F3) (N5 F3 R e a) [] R.B4)<=200)):=by
 have MO:(D4 R.B4 [] 0).length=w9 R.B4:=dS _ _ _
 have hnt:=hto.2.1
 have aX:=hs.ly
 have hkl:=sO R.from_
 obtain⟨it,hit⟩:∃it,it=Am.get (D4 R.B4 [] 0) i:=⟨_,rfl⟩
 rw[<-hit]at hp
 have N6:=hst.small
 have d7n:=hst.d7e
 have hout:out++bA (PT B d e pl F3 it.name)=((D4 R.B4 [] 0).take (i+1)).flatMap (eU R e (PT B d e pl F3) (N5 F3 R e a)):=by
  rw[H8 u,kn, <-hst.ML, <-hit];have:eU R e (PT B d e pl F3) (N5 F3 R e a) it=bA (PT B d e pl F3 it.name):=by unfold eU;rw[if_pos hp]
  simp[this]
 have i9U:(out++bA (PT B d e pl F3 it.name)).length<=w9 (inst' R e (PT B d e pl F3) (N5 F3 R e a) [] R.B4):=by rw[hout, <-d7k hto];exact d7g R e _ _ _ M
 obtain⟨D,hD⟩:∃D,D=(jq R.from_ ((D4 R.B4 [] 0).take i)).foldl bW []:=⟨_,rfl⟩
 have MP:=hst.d7f
 have hup:=hst.Xr
 rw[<-hD]at MP hup
 have MQ:(jq R.from_ ((D4 R.B4 [] 0).take (i+1))).foldl bW []=bW D it.name:=by rw[H8 u,MK,Xq, <-hit,if_pos hp,List.foldl_append, <-hD];rfl
 have CW:D.Nodup:=by rw[hD,d6r];exact Mb _
 have hDp:∀v∈D,v∈R.from_.parts:=fun v Q=>by
  rw[hD,Mr]at Q;rcases Q with Q|Q
  ·cases Q
  ·unfold jq at Q;obtain⟨x,A,rfl⟩:=bj.1 Q;exact(of_decide_eq_true (ml.1 A).2).2
 have Wv:used.length<=100000:=by rw[hup.length_eq,bc];exact hL D CW hDp
 have hpos:1<=w9 (PT B d e pl F3 it.name):=by rw[Y8];omega
 have j8:∀(q:Nat) (MR:List C6) (parts':List (List IT)),q<parts'.length->Am.get parts' q=bA (PT B d e pl F3 it.name)->(w9 (PT B d e pl F3 it.name)<=200)->((out++bA (PT B d e pl F3 it.name)).length<=200->om B R d e pl (N5 F3 R e a) (i+1) (out++bA (PT B d e pl F3 it.name)) MR parts')->
  Z (fun n=>Dh n (q:Int) (out,used,parts,(i:Int)) (MR,parts')) (cU (fun s:List IT×List C6×List (List IT)×Int=>s.2.2.2=((i+1:Nat):Int)/\om B R d e pl (N5 F3 R e a) (i+1) s.1 s.2.1 s.2.2.1) (fun _:List IT×List C6=>False) (fun r:List IT×List C6×Bool=>(r.2.2=false/\r.1=[]/\r.2.1=[])/\¬w9 (inst' R e (PT B d e pl F3) (N5 F3 R e a) [] R.B4)<=200)):=fun q MR parts' hq hg hn2 hR=>by
  have hrl:=tu (PT B d e pl F3 it.name)
  unfold Dh
  refine Z.B3 (MN (bA (PT B d e pl F3 it.name)) out M (MS (q:Int) (MR,parts')) (fun c=>c.length*80<=top/\c.length<=top) (fun k S=>?_) (fun s=>?_)) (fun t F=>?_) nofun
  ·exact lT
  ·unfold MS;simp only[ai,hg];rw[sk (show(q:Int)<(parts'.length:Int)by omega),sk (show 0<(bA (PT B d e pl F3 it.name)).length by omega)]
  ·have F:t=out++bA (PT B d e pl F3 it.name):=F;subst F;unfold Xu;exact d7l hto u rfl hout hR
 unfold zF
 simp only[ai,wC hs, <-hit]
 refine Z.cond (fun _=>Z.w6 M (Z.bind (d7b _ M _) fun v Q=>?_)) (fun ee=>by have:=of_decide_eq_false ee;omega)
 subst Q
 refine Z.cond (fun _=>?_) (fun ee=>absurd hp (of_decide_eq_false ee))
 refine Z.bind (eP R.from_.parts _ M) fun v Q=>?_
 rcases Q with⟨hn,_⟩|⟨q,hq,CK,_,rfl⟩
 ·exact absurd hp.2 hn
 refine Z.w6 M ?_
 simp only[ai]
 have wJ:=MP q hq
 rw[CK]at wJ
 by_cases hin:it.name∈D
 ·rw[if_pos hin]at wJ;have hadd:bW D it.name=D:=by unfold bW;rw[if_pos hin]
  have zH:w9 (PT B d e pl F3 it.name)<=200:=by
   have U:=hin;rw[hD,Mr]at U;rcases U with U|U
   ·cases U
   ·unfold jq at U;have⟨x,A,hxn⟩:=bj.1 U;have⟨U8,V3⟩:=ml.1 A;have hxp:lP R.from_ x:=of_decide_eq_true V3;have X:=d7m (eU R e (PT B d e pl F3) (N5 F3 R e a)) U8;rw[<-hst.ML]at X;unfold eU at X;rw[if_pos hxp,tu,hxn]at X;omega
  refine Z.cond (fun ee=>?_) (fun _=>j8 q used parts M wJ zH fun og=>⟨hout,d7n,?_,?_,og⟩)
  ·have ee:((Am.get parts q).length:Int)=0:=of_decide_eq_true ee;rw[wJ,tu]at ee;omega
  ·rw[MQ,hadd];exact MP
  ·rw[MQ,hadd];exact hup
 ·rw[if_neg hin]at wJ;have hadd:bW D it.name=D++[it.name]:=by unfold bW;rw[if_neg hin]
  have hw:wr .i64 (((R.from_.words.length+R.from_.A8.length:Nat):Int)+(q:Int))=((R.from_.words.length+R.from_.A8.length+q:Nat):Int):=by rw[F9 M M];omega
  have hfq:=hfr q hq;rw[CK]at hfq;refine Z.cond (fun _=>?_) (fun ee=>by have ee:¬((Am.get parts q).length:Int)=0:=of_decide_eq_false ee;rw[wJ]at ee;exact absurd rfl ee);rw[hw];refine Z.w6 ⟨by omega,by omega⟩ ?_;rw[ai,hfq];refine Z.bind (lN it.name hp.2) fun v Q=>Z.cond (fun ee=>Z.pure ⟨⟨rfl,rfl,rfl⟩,fun hle=>?_⟩) (fun ee=>?_)
  ·have ee:v.2.2=false:=by simpa using ee
   have hn:¬w9 (TT B F3 d (C9 e (43::it.name)) (pl it.name))<=200:=fun h=>by rw[Q.iff.2 h]at ee;cases ee
   rw[aa,tu]at i9U;refine hn ?_;show w9 (PT B d e pl F3 it.name)<=200;omega
  ·have ee:v.2.2=true:=by simpa using ee
   have⟨v1,v2⟩:=Q.ok ee;have zH:w9 (PT B d e pl F3 it.name)<=200:=Q.iff.1 ee;have i9W:(D++[it.name]).Nodup:=List.nodup_append.2 ⟨CW,by simp,fun x A y hy e1=>by rw[ao]at hy;exact hin (by rw[<-hy, <-e1];exact A)⟩;have i9X:∀w∈D++[it.name],w∈R.from_.parts:=fun w hw=>by
    rcases al.1 hw with hw|hw
    ·exact hDp w hw
    ·rw[ao.1 hw];exact hp.2
   have hll:=hL _ i9W i9X;rw[Gz,aa]at hll;have r0F:v.2.1.length=(HT B d (C9 e (43::it.name)) (pl it.name)).length:=by rw[v2.length_eq,bc]
   have r0G:used.length=(LD B d (fun v=>C9 e (43::v)) pl D).length:=by rw[hup.length_eq,bc]
   have hll:(LD B d (fun v=>C9 e (43::v)) pl D).length+(HT B d (C9 e (43::it.name)) (pl it.name)).length<=100000:=hll;refine Z.w6 (by rw[v1,tu];exact hpos) (Z.B9 (Z.B3 (MN v.2.1 used M (Xv v) (fun c=>c.length*16<=top/\c.length<=top) (fun k S=>?_) (fun s=>rfl)) (fun t F=>?_) nofun))
   ·exact lT
   have F:t=used++v.2.1:=F;subst F;unfold Xw;refine j8 q _ _ (by rw[mm];omega) (by rw[get_set_same M];exact v1) zH fun og=>⟨hout,by rw[mm];exact d7n,fun q2 fq=>?_,?_,og⟩
   ·rw[MQ,hadd];by_cases e2:q2=q
    ·subst e2;rw[get_set_same M,CK,if_pos B5];exact v1
    ·rw[kC e2,MP q2 fq];have hne:Am.get R.from_.parts q2≠it.name:=fun h=>by rw[<-CK]at h;exact e2 ((BC hs.VP).1 (show R.from_.parts[q2]=R.from_.parts[q]by simpa[Am.get,hq,fq]using h))
     have:(Am.get R.from_.parts q2∈D++[it.name])↔Am.get R.from_.parts q2∈D:=by grind
     simp only[this]
   ·rw[MQ,hadd,Gz,cm];exact hup.append v2
theorem i9Y{B:List C5}{R:C5}(hs:S4 R.from_)(hto:Y0 R.B4){d:Nat}{e:Env}{pl:J->Nat}{a:Nat}(ha:a<=1000000)(hL:∀D:List J,D.Nodup->(∀v∈D,v∈R.from_.parts)->(LD B d (fun v=>C9 e (43::v)) pl D).length<=100000)
 (self:Nat->List C5->List IT->Int->Option (List IT×List C6×Bool)) (K9:List Int) (RG:List IT) (hfl:K9.length=(E4 R.from_).length) (hfr:∀q,q<R.from_.parts.length->Am.get K9 (R.from_.words.length+R.from_.A8.length+q)=(pl (Am.get R.from_.parts q):Int)) (lN:∀v∈R.from_.parts,Z (fun n=>self n B RG (pl v:Int)) (GK B d (C9 e (43::v)) (pl v))):
 Z (fun n=>GL (self n) n B RG (a:Int) R (BL R.from_ e) K9) (fun x=>(x.2.2=true↔w9 (inst' R e (PT B d e pl F3) (N5 F3 R e a) [] R.B4)<=200)/\(x.2.2=true->x.1=bA (inst' R e (PT B d e pl F3) (N5 F3 R e a) [] R.B4)/\x.2.1.Perm ((LD B d (fun v=>C9 e (43::v)) pl (cZ R)).map eT))/\(x.2.2=false->x.1=[]/\x.2.1=[])):=by
 have MO:(D4 R.B4 [] 0).length=w9 R.B4:=dS _ _ _
 have hnt:=hto.2.1
 have aX:=hs.ly
 unfold GL
 refine Z.bind (d4K hs) fun v1 hv1=>Z.bind (vO hto.1 [] M B5) fun v2 hv2=>Z.w6 (by rw[Y7];omega) ?_
 subst hv1 hv2
 refine Z.B3 (Z.R5 (D4 R.B4 [] 0).length (fun i (s:List IT×List C6×List (List IT)×Int)=>s.2.2.2=(i:Int)/\om B R d e pl (N5 F3 R e a) i s.1 s.2.1 s.2.2.1) (fun t:List IT×List C6=>t.1=bA (inst' R e (PT B d e pl F3) (N5 F3 R e a) [] R.B4)/\t.1.length<=200/\t.2.Perm ((LD B d (fun v=>C9 e (43::v)) pl (cZ R)).map eT)) (fun r:List IT×List C6×Bool=>(r.2.2=false/\r.1=[]/\r.2.1=[])/\¬w9 (inst' R e (PT B d e pl F3) (N5 F3 R e a) [] R.B4)<=200) ⟨rfl,⟨rfl,oj,fun q hq=>?_,?_,Nat.zero_le _⟩⟩ (fun i s u hsi=>?_) (fun s hsi=>?_)) (fun t F=>?_) (fun r hr=>⟨by rw[hr.1.1];exact⟨fun h=>(by cases h),fun h=>absurd h hr.2⟩,fun h=>(by rw[hr.1.1]at h;cases h),fun _=>hr.1.2⟩)
 ·rw[UJ hq];rfl
 ·exact List.Perm.refl _
 ·have⟨out,used,parts,ii⟩:=s;have⟨U,X⟩:=hsi;have U:ii=(i:Int):=U;subst U;have wrap:∀ {x:Nat->Option (C1 (List IT×List C6×Bool) (List IT×List C6×List (List IT)×Int) (List IT×List C6))},Z x (cU (fun s:List IT×List C6×List (List IT)×Int=>s.2.2.2=((i+1:Nat):Int)/\om B R d e pl (N5 F3 R e a) (i+1) s.1 s.2.1 s.2.2.1) (fun _:List IT×List C6=>False) (fun r:List IT×List C6×Bool=>(r.2.2=false/\r.1=[]/\r.2.1=[])/\¬w9 (inst' R e (PT B d e pl F3) (N5 F3 R e a) [] R.B4)<=200))->Z x (cU (fun s:List IT×List C6×List (List IT)×Int=>s.2.2.2=((i+1:Nat):Int)/\om B R d e pl (N5 F3 R e a) (i+1) s.1 s.2.1 s.2.2.1) (fun t:List IT×List C6=>t.1=bA (inst' R e (PT B d e pl F3) (N5 F3 R e a) [] R.B4)/\t.1.length<=200/\t.2.Perm ((LD B d (fun v=>C9 e (43::v)) pl (cZ R)).map eT)) (fun r:List IT×List C6×Bool=>(r.2.2=false/\r.1=[]/\r.2.1=[])/\¬w9 (inst' R e (PT B d e pl F3) (N5 F3 R e a) [] R.B4)<=200)):=fun h=>h.mono fun c K=>by
   cases c with
   |B7 s=>exact K
   |brk t=>exact K.elim
   |ret z=>exact K
  refine wrap ?_;by_cases hp:lP R.from_ (Am.get (D4 R.B4 [] 0) i)
  ·exact i9T hs hto u hp X hL self K9 RG hfl hfr lN
  ·exact i9Q hs hto ha u hp X self K9 RG
 ·have⟨out,used,parts,ii⟩:=s;have⟨U,X⟩:=hsi;have U:ii=((D4 R.B4 [] 0).length:Int):=U;subst U;unfold zF;refine Z.cond (fun ee=>by have ee:((D4 R.B4 [] 0).length:Int)<((D4 R.B4 [] 0).length:Int):=of_decide_eq_true ee;omega) (fun _=>Z.pure ⟨?_,X.small,?_⟩)
  ·show out=_;have h3:=X.ML;rw[cj]at h3;exact h3.trans (Xn R.B4 [] 0 (M1.ar _ hto.1)).symm
  ·have h3:=X.Xr;rw[cj, <-i9K]at h3;exact h3
 ·have⟨U,X,h3⟩:=F;unfold Xx;refine Z.pure ⟨⟨fun _=>?_,fun _=>rfl⟩,fun _=>⟨U,h3⟩,fun h=>(by cases h)⟩;rw[<-tu, <-U];exact X
theorem i9Z(f:O)(l:List O):bA (.mk f.kind f.name f.words l)=⟨f.kind,f.name,f.words,[],0⟩::iq l:=d6U _
theorem p0a{B:List C5}{d:Nat}{f:O}(har:D6 f){a:Nat}{RG:List IT}(Xy:RG.length<=1000){ar:List J}(hrow:R8 RG f ar a)(self:Nat->List C5->List IT->Int->Option (List IT×List C6×Bool))(lN:∀k,k<f.subs.length->Z (fun n=>self n B RG ((a+1+B8 (f.subs.take k):Nat):Int)) (GK B d (Am.get f.subs k) (a+1+B8 (f.subs.take k))))(hh:∀k,k<=f.subs.length->(E6 (HT B d) (f.subs.take k) (a+1)).flatten.length<=100000):
 Z (fun n=>MU (self n) n (a:Int) RG B ()) (fun x=>(x.2.2=true↔1+B8 (E6 (TT B F3 d) f.subs (a+1))<=200)/\(x.2.2=true->x.1=bA (.mk f.kind f.name f.words (E6 (TT B F3 d) f.subs (a+1)))/\x.2.1.Perm ((E6 (HT B d) f.subs (a+1)).flatten.map eT))/\x.1.length<=1000/\x.2.1.length<=100000):=by
 have⟨hp,hit,hl⟩:=(fG RG f ar a).1 hrow
 have hle:=hrow.le
 have hsl:=sP (D6.sm f har)
 have MO:∀l:List O,(iq l).length=B8 l:=fun l=>by unfold iq;rw[bc,SX]
 unfold MU
 simp only[ai,hit]
 have hw:wr .i64 ((a:Int)+1)=((a+1:Nat):Int):=by rw[F9 M M];rfl
 rw[hw]
 refine Z.w6 M (Z.B3 (Z.R5 f.subs.length (fun k (s:List IT×List C6×Int×Int)=>s.1=⟨f.kind,f.name,f.words,[],0⟩::iq (E6 (TT B F3 d) (f.subs.take k) (a+1))/\s.2.1.Perm ((E6 (HT B d) (f.subs.take k) (a+1)).flatten.map eT)/\(k<f.subs.length->s.2.2.1=((a+1+B8 (f.subs.take k):Nat):Int))/\s.2.2.2=(k:Int)/\B8 (E6 (TT B F3 d) (f.subs.take k) (a+1))<=200*k) (fun t:List IT×List C6=>t.1=⟨f.kind,f.name,f.words,[],0⟩::iq (E6 (TT B F3 d) f.subs (a+1))/\t.2.Perm ((E6 (HT B d) f.subs (a+1)).flatten.map eT)/\t.1.length<=1000) (fun r:List IT×List C6×Bool=>r.2.2=false/\r.1=[]/\r.2.1=[]/\¬1+B8 (E6 (TT B F3 d) f.subs (a+1))<=200) ⟨by rw[fe,E6,d6V],by rw[fe,E6];exact List.Perm.refl _,fun _=>by rw[fe,B8],rfl,by rw[fe,E6,B8];omega⟩ (fun k s S pS=>?_) (fun s pS=>?_)) (fun t F=>?_) (fun r hr=>⟨by rw[hr.1];exact⟨fun h=>(by cases h),fun h=>absurd h hr.2.2.2⟩,fun h=>(by rw[hr.1]at h;cases h),by rw[hr.2.1,hr.2.2.1];simp⟩))
 ·have⟨out,used,nx,ii⟩:=s;have⟨U,X,h3,h4,h5⟩:=pS;have h4:ii=(k:Int):=h4;subst h4;have h3:nx=((a+1+B8 (f.subs.take k):Nat):Int):=h3 S;subst h3;have U:out=⟨f.kind,f.name,f.words,[],0⟩::iq (E6 (TT B F3 d) (f.subs.take k) (a+1)):=U;have X:used.Perm ((E6 (HT B d) (f.subs.take k) (a+1)).flatten.map eT):=X;have hsub:=V8.get hl k S;have⟨hp2,Vz,_⟩:=(fG RG _ _ _).1 hsub;have r0H:=hsub.le;have U7:out.length=1+B8 (E6 (TT B F3 d) (f.subs.take k) (a+1)):=by grind
  have Wv:used.length<=100000:=by rw[X.length_eq,bc];exact hh k M
  have FZ:E6 (TT B F3 d) (f.subs.take (k+1)) (a+1)=E6 (TT B F3 d) (f.subs.take k) (a+1)++[TT B F3 d (Am.get f.subs k) (a+1+B8 (f.subs.take k))]:=by rw[H8 S,Gx]
  have hhs:(E6 (HT B d) (f.subs.take (k+1)) (a+1)).flatten=(E6 (HT B d) (f.subs.take k) (a+1)).flatten++HT B d (Am.get f.subs k) (a+1+B8 (f.subs.take k)):=by rw[H8 S,Gx,List.flatten_append];simp
  unfold MV;simp only[ai,hit,qZ har,ax];refine Z.cond (fun _=>Z.bind (lN k S) fun v Q=>Z.cond (fun ee=>Z.pure ⟨rfl,rfl,rfl,fun N6=>?_⟩) (fun ee=>?_)) (fun ee=>by have ee:¬(k:Int)<(f.subs.length:Int):=of_decide_eq_false ee;omega)
  ·have ee:v.2.2=false:=by simpa using ee
   have⟨l1,_⟩:=Ml (WH (B':=TT B F3 d) f.subs (a+1) k S);rw[Q.iff.2 M]at ee;cases ee
  ·have ee:v.2.2=true:=by simpa using ee
   have⟨v1,v2⟩:=Q.ok ee;have zH:=Q.iff.1 ee;have aX:v.1.length<=200:=by rw[v1,tu];exact zH
   have hvu:used.length+v.2.1.length<=100000:=by have:=hh (k+1) M;rw[hhs,aa]at this;rw[X.length_eq,v2.length_eq,bc,bc];exact this
   refine Z.B3 (MN v.1 out M (Xz v) (fun c=>c.length*80<=top/\c.length<=top) (fun j L=>?_) (fun s=>rfl)) (fun t F=>?_) nofun
   ·exact lT
   have F:t=out++v.1:=F;subst F;unfold XA;refine Z.B3 (MN v.2.1 used M (XB v) (fun c=>c.length*16<=top/\c.length<=top) (fun j L=>?_) (fun s=>rfl)) (fun t F=>?_) nofun
   ·exact lT
   have F:t=used++v.2.1:=F;subst F;unfold XC;simp only[ai,Vz];refine Z.w6 M (Z.pure ⟨?_,?_,fun hk1=>?_,?_,?_⟩)
   ·show out++v.1=_;rw[FZ,i9I,U,v1];rfl
   ·grind
   ·show((a+1+B8 (f.subs.take k)+w9 (Am.get f.subs k):Nat):Int)=_;rw[H8 S,lC,da (a+1)]
   ·show wr .i64 ((k:Int)+1)=_;rw[F9 M M];rfl
   ·rw[FZ,lC];omega
 ·have⟨out,used,nx,ii⟩:=s;have⟨U,X,_,h4,h5⟩:=pS;have h4:ii=(f.subs.length:Int):=h4;subst h4;rw[cj]at U X h5;have U:out=⟨f.kind,f.name,f.words,[],0⟩::iq (E6 (TT B F3 d) f.subs (a+1)):=U;have U7:out.length<=1000:=by grind
  unfold MV;simp only[ai,hit,qZ har,ax];exact Z.cond (fun ee=>by have ee:(f.subs.length:Int)<(f.subs.length:Int):=of_decide_eq_true ee;omega) (fun _=>Z.pure ⟨U,X,U7⟩)
 ·have⟨U,X,h3⟩:=F;unfold XD;refine Z.pure ⟨?_,fun _=>⟨?_,X⟩,h3,by have:=hh f.subs.length (ae _);rw[cj]at this;show t.2.length<=100000;rw[X.length_eq,bc];exact this⟩
  ·grind
  ·show t.1=_;rw[U,i9Z]
mutual
theorem p0c{R:List IT}(s:B1):∀(f g:O)(ar:List J)(p:Nat),D6 g->R8 R g ar p->∀o∈gJ s f g p,D6 o.2.2/\am o.2.2<=am g/\∃P2,R8 R o.2.2 P2 o.2.1
 | .mk k n w l,g,ar,p,hg,hR,o,ho=>by
   rw[gJ]at ho;by_cases h:F6 s (.mk k n w l)
   ·grind
   ·rw[if_neg h]at ho;have⟨U,X,h3⟩:=XE s l g.subs _ (p+1) ((Q6 g).1 hg).2.2.2 ((fG R g ar p).1 hR).2.2 o ho;exact⟨U,Nat.le_of_lt (Nat.lt_of_lt_of_le X (by cases g with|mk k' n' w' s'=>show am s'<=am (O.mk k' n' w' s');simp only[O.mk.sizeOf_spec];omega)),h3⟩
theorem XE{R:List IT}(s:B1):∀(l gs:List O)(ar:List J)(p:Nat),R9 gs->V8 R gs ar p->∀o∈cJ s l gs p,D6 o.2.2/\am o.2.2<am gs/\∃P2,R8 R o.2.2 P2 o.2.1
 | [],gs,ar,p,hg,hR,o,ho=>by rw[cJ]at ho;cases ho
 |f::l,[],ar,p,hg,hR,o,ho=>by rw[cJ]at ho;cases ho
 |f::l,g::gs,ar,p,hg,hR,o,ho=>by
  rw[cJ]at ho;rw[V8]at hR;rw[R9]at hg;rcases al.1 ho with ho|ho
  ·have⟨U,X,h3⟩:=p0c s f g ar p hg.1 hR.1 o ho;exact⟨U,by simp only[uu];omega,h3⟩
  ·have⟨U,X,h3⟩:=XE s l gs ar _ hg.2 hR.2 o ho;exact⟨U,by simp only[uu];omega,h3⟩
end
theorem p0d{s:B1}(_:S4 s){g:O}(_:D6 g){e:Env}(hm:mE s g=some e)(a:Nat){v:J}(Q:v∈s.parts){p:Nat}(hp:assoc v (Z8 s s.form g a)=some p):(v,p,C9 e (43::v))∈gJ s s.form g a:=by
 have⟨ps,hps,he⟩:=pN hm;have jW:=LQ hp;rw[<-Mg]at jW;have⟨o2,V2,Gr⟩:=bj.1 jW;have⟨zp,o22,Gs⟩:=o2;simp only[Prod.mk.injEq]at Gr;obtain⟨rfl,rfl⟩:=Gr;have H:=(jG _ _ _ he).1 _ (Wj s s.form g [] a ps hps _ V2);have e3:C9 e (43::zp)=Gs:=by unfold C9;rw[show assoc (43::zp) e=some ⟨43::zp,[],Gs⟩from H];rfl
 rw[e3];exact V2
theorem p0e(hr:dX B){s:B1}{g:O}{a:Nat}{pf:J->O}(hpi:CT s g a pf pl)(har:∀v∈s.parts,D6 (pf v))(d:Nat){D:List J}(CW:D.Nodup)(hD:∀v∈D,v∈s.parts):(LD B d pf pl D).length<=w9 g:=by
 have U:((LD B d pf pl D).map (·.1)).Nodup:=Mj (pl:=pl) (n:=fun v=>w9 (pf v)) D CW (fun w hw=>⟨wE hr d _ _ (har w (hD w hw)),fun z hz=>by have⟨k1,k2,_⟩:=gK hr d _ _ (har w (hD w hw)) z hz;exact⟨k1,k2⟩⟩) (fun w hw x A=>hpi.Gh w (hD w hw) x (hD x A))
 have X:=CV (m:=fi a (w9 g)) U fun x A=>by obtain⟨z,hz,rfl⟩:=bj.1 A;have⟨w,hw,hz⟩:=ed.1 hz;have⟨k1,k2,_⟩:=gK hr d _ _ (har w (hD w hw)) z hz;have:=hpi.sub w (hD w hw);exact ff.2 ⟨by omega,by omega⟩
 rw[bc,mr]at X;exact X
theorem p0f{B:List C5}(hr:dX B)(hrl:B.length<=1000000){RG:List IT}(Xy:RG.length<=1000)(hw:∀it∈RG,it.words.length<=3):∀(d:Nat)(f:O),am f<=d->D6 f->∀(ar:List J)(a:Nat),R8 RG f ar a->
 Z (fun n=>rB n B RG (a:Int)) (GK B d f a):=by
 intro d
 induction d with
 |zero=>exact z0
 |succ d ih=>
  intro f hf har ar a hrow;have hle:=hrow.le;have hnd:=Y8 f;have hsz:am f.subs<am f:=by cases f with|mk k' n' w' s'=>show am s'<_;simp only[O.mk.sizeOf_spec];omega
  have hsub:R9 f.subs:=((Q6 f).1 har).2.2.2;have hrs:=((fG RG f ar a).1 hrow).2.2;refine Z.succ ?_;simp only[rB];refine Z.B3 (Z.R5 B.length (fun k (s:Int)=>s=(k:Int)/\au B 0 f=au (B.drop k) k f) (fun _:Unit=>au B 0 f=none) (fun x=>GK B (d+1) f a x) ⟨rfl,by rw[lj]⟩ (fun k s S hs=>?_) (fun s hs=>?_)) (fun t F=>?_) (fun r hr=>hr)
  ·have⟨U,X⟩:=hs;subst U;have td:=hr _ (get_mem S);rw[d6K B S f]at X;unfold MW;simp only[ai];refine Z.cond (fun _=>Z.w6 M (Z.bind (i8B td.good Xy hw har hrow) fun v Q=>?_)) (fun ee=>by have ee:¬(k:Int)<(B.length:Int):=of_decide_eq_false ee;omega);have⟨v1,v2⟩:=Q;rw[d5W]at v1;cases hm:mE (Am.get B k).from_ f with
   |none=>rw[hm]at v1 X;have e2:v.2.2=false:=congrArg GE v1;refine Z.cond (fun e=>by rw[e2]at e;cases e) (fun _=>Z.pure ⟨?_,X⟩);rw[F9 M M];rfl
   |some e=>
    rw[hm]at v1 X;simp only at X;have e1:v.1=BL (Am.get B k).from_ e:=congrArg AR v1;have e2:v.2.2=true:=congrArg GE v1;have⟨w1,w2⟩:=v2 e2;have ij:TT B F3 (d+1) f a=inst' (Am.get B k) e (PT B d e (W5 (Am.get B k) f a) F3) (N5 F3 (Am.get B k) e a) [] (Am.get B k).B4:=by rw[TT,X];rfl
    have oh:HT B (d+1) f a=(a,k)::LD B d (fun v=>C9 e (43::v)) (W5 (Am.get B k) f a) (cZ (Am.get B k)):=by rw[HT,X];rfl
    have zm:gJ (Am.get B k).from_ (Am.get B k).from_.form f a=cJ (Am.get B k).from_ (Am.get B k).from_.form.subs f.subs (a+1):=by
     have:∀g:O,¬F6 (Am.get B k).from_ g->gJ (Am.get B k).from_ g f a=cJ (Am.get B k).from_ g.subs f.subs (a+1):=fun g hg=>by cases g;rw[gJ,if_neg hg];rfl
     exact this _ td.root
    have hpt:∀q,q<(Am.get B k).from_.parts.length->D6 (C9 e (43::Am.get (Am.get B k).from_.parts q))/\am (C9 e (43::Am.get (Am.get B k).from_.parts q))<am f.subs/\(∃P2,R8 RG (C9 e (43::Am.get (Am.get B k).from_.parts q)) P2 (W5 (Am.get B k) f a (Am.get (Am.get B k).from_.parts q)))/\Am.get v.2.1 ((Am.get B k).from_.words.length+(Am.get B k).from_.A8.length+q)=(W5 (Am.get B k) f a (Am.get (Am.get B k).from_.parts q):Int):=fun q hq=>by
     have⟨p,p1,p2⟩:=w2 q hq;have pP:W5 (Am.get B k) f a (Am.get (Am.get B k).from_.parts q)=p:=by unfold W5;rw[p1];rfl
     have ho:=p0d td.good har hm a (get_mem hq) p1;rw[zm]at ho;have⟨k1,k2,k3⟩:=XE _ _ _ _ _ hsub hrs _ ho;rw[pP];exact⟨k1,k2,k3,p2⟩
    have hpm:∀v∈(Am.get B k).from_.parts,∃q,q<(Am.get B k).from_.parts.length/\Am.get (Am.get B k).from_.parts q=v:=fun v Q=>by obtain⟨q,hq,rfl⟩:=U0.1 Q;exact⟨q,hq,rfl⟩
    have hL:∀D:List J,D.Nodup->(∀v∈D,v∈(Am.get B k).from_.parts)->(LD B d (fun v=>C9 e (43::v)) (W5 (Am.get B k) f a) D).length<=w9 f:=fun D h3 h4=>p0e hr (Mh td.good td.root har hm a) (fun v Q=>by obtain⟨q,hq,rfl⟩:=hpm v Q;exact(hpt q hq).1) d h3 h4;refine Z.cond (fun _=>?_) (fun e=>by rw[e2]at e;cases e);rw[e1];refine Z.bind (i9Y (B:=B) (d:=d) td.good td.to M (fun D h3 h4=>by have:=hL D h3 h4;omega) (fun n=>rB n) v.2.1 RG w1 (fun q hq=>(hpt q hq).2.2.2) (fun v Q=>by obtain⟨q,hq,rfl⟩:=hpm v Q;have⟨k1,k2,⟨P2,k3⟩,_⟩:=hpt q hq;exact ih _ M k1 P2 _ k3)) fun x A=>?_
    have⟨x1,x2,x3⟩:=A;have hlen:x.2.1.length<=1000:=by
     cases H:x.2.2 with
     |true=>rw[(x2 H).2.length_eq,bc];have:=hL (cZ (Am.get B k)) (Mb _) (fun v Q=>rz Q);omega
     |false=>rw[(x3 H).2];simp
    unfold d7r;refine Z.bind (P:=fun y=>y=x.2.1++[⟨(a:Int),(k:Int)⟩]) ?_ fun y hy=>Z.pure ?_
    ·refine Z.w6 ?_ (Z.pure rfl);rw[Y7];omega
    subst hy;have JA:x.1.length<=1000:=by
     cases H:x.2.2 with
     |true=>have:=x1.1 H;rw[(x2 H).1,tu];omega
     |false=>rw[(x3 H).1];simp
    refine⟨by rw[ij];exact x1,fun H=>⟨by rw[ij];exact(x2 H).1,?_⟩,JA,by show(x.2.1++[_]).length<=_;rw[aa,List.length_singleton];omega⟩;rw[oh,bv];exact((x2 H).2.append_right _).trans List.perm_append_comm
  ·have⟨U,X⟩:=hs;subst U;unfold MW;refine Z.cond (fun ee=>by have ee:(B.length:Int)<(B.length:Int):=of_decide_eq_true ee;omega) (fun _=>Z.pure ?_);rw[lm,au]at X;exact X
  ·have hm:au B 0 f=none:=F;have ij:TT B F3 (d+1) f a= .mk f.kind f.name f.words (E6 (TT B F3 d) f.subs (a+1)):=by rw[TT,hm]
   have oh:HT B (d+1) f a=(E6 (HT B d) f.subs (a+1)).flatten:=by rw[HT,hm]
   refine(p0a (B:=B) (d:=d) har Xy hrow (fun n=>rB n) (fun k S=>?_) (fun k S=>?_)).mono fun x A=>⟨?_,fun H=>⟨?_,?_⟩,A.2.2.1,Nat.le_succ_of_le A.2.2.2⟩
   ·have hz:am (Am.get f.subs k)<am f.subs:=List.sizeOf_lt_of_mem (get_mem S);exact ih _ M ((mS hsub) _ (get_mem S)) _ _ (V8.get hrs k S)
   ·have U:=d6J hr d (f.subs.take k) (a+1) fun x A=>(mS hsub) x (List.mem_of_mem_take A);have X:B8 (f.subs.take k)<=B8 f.subs:=by
     have:∀(l m:List O),B8 (l++m)=B8 l+B8 m:=fun l m=>by
      induction l with
      |nil=>rw[fw,B8];omega
      |cons x l ih=>rw[di,B8,B8,ih];omega
     have h3:=this (f.subs.take k) (f.subs.drop k);rw[ew]at h3;omega
    omega
   ·rw[ij,w9];exact A.1
   ·rw[ij];exact(A.2.1 H).1
   ·rw[oh];exact(A.2.1 H).2
def fJ(a:Nat):J:=O1 [63] (cb a)
mutual
def bg:O->List (J×J)->Nat->O
 | .mk k n w s,env,a=>.mk k (if QK k then fJ a else n) (w.map (sub env)) (dY s (if QK k then(n,fJ a)::env else env) (a+1))
def dY:List O->List (J×J)->Nat->List O
 | [],_,_=>[]
 |x::l,env,a=>bg x env a::dY l env (a+w9 x)
end
theorem p0g(f:O)(env:List (J×J))(a:Nat):bg f env a= .mk f.kind (if QK f.kind then fJ a else f.name) (f.words.map (sub env)) (dY f.subs (if QK f.kind then(f.name,fJ a)::env else env) (a+1)):=by cases f;rw[bg];rfl
theorem d7s:∀(l:List O) (x:O) (env:List (J×J)) (a:Nat),dY (l++[x]) env a=dY l env a++[bg x env (a+B8 l)]
 | [],x,env,a=>by rw[fw,dY,dY,dY,B8];rfl
 |y::l,x,env,a=>by rw[di,dY,dY,d7s l,B8,da];rfl
def ec(env:List (J×J)):List J:=(env.map (·.1)).reverse
def eV(env:List (J×J)):List J:=(env.map (·.2)).reverse
theorem d7t[Inhabited α][Inhabited β](f:α->β)(l:List α){k:Nat}(S:k<l.length):Am.get ((l.map f).reverse) (l.length-1-k)=f (Am.get l k):=by unfold Am.get;rw[ac,ac,b7 (by simp;omega),b7 S,nf,nf,List.getElem_reverse];simp only[bc,List.getElem_map];congr 2;omega
theorem p0h(env:List (J×J))(hl:env.length<=1000000)(w:J)(body:Int->Option (C1 (C1 (O×Int) ((List J)×Int) (List J)) Int J))(H:∀s:Int,body s=bif (decide (0<=s))then w6 (0<=s/\s<((ec env).length:Int)) (bif (decide (Am.get (ec env) s.toNat=w))then w6 (s<((eV env).length:Int)) (some (.brk (Am.get (eV env) s.toNat)))else some (.B7 (wr .i64 (s-1))))else some (.brk w)):
 Z (fun n=>D9 body n (wr .i64 (((ec env).length:Int)-1))) (L2 (fun t=>t=sub env w) (fun _=>False)):=by
 have hf:(ec env).length=env.length:=by unfold ec;simp
 have F:(eV env).length=env.length:=by unfold eV;simp
 refine Z.R5 env.length (fun k s=>s=(env.length:Int)-1-k/\sub env w=sub (env.drop k) w) _ _ ⟨by rw[hf,F9 M M];omega,by rw[lj]⟩ (fun k s S hs=>?_) (fun s hs=>?_)
 ·have⟨U,X⟩:=hs;have e1:s=((env.length-1-k:Nat):Int):=by omega
  have WI:env.drop k=Am.get env k::env.drop (k+1):=by rw[List.drop_eq_getElem_cons S];simp[Am.get,S]
  have g1:Am.get (ec env) (env.length-1-k)=(Am.get env k).1:=d7t AR env S;have g2:Am.get (eV env) (env.length-1-k)=(Am.get env k).2:=d7t GE env S;have hsc:=kh (Am.get env k).1 (Am.get env k).2 w (env.drop (k+1));rw[WI,show sub (Am.get env k::env.drop (k+1)) w=_ from hsc]at X;subst e1;simp only[H,ai,g1,g2,hf,F];refine Z.cond (fun _=>Z.w6 M (Z.cond (fun ee=>Z.w6 M (Z.pure ?_)) (fun ee=>Z.pure ⟨?_,?_⟩))) (fun ee=>by have ee:¬(0:Int)<=((env.length-1-k:Nat):Int):=of_decide_eq_false ee;omega)
  ·have ee:=of_decide_eq_true ee;rw[if_pos ee]at X;exact X.symm
  ·rw[F9 M M];omega
  ·grind
 ·have⟨U,X⟩:=hs;simp only[H];refine Z.cond (fun ee=>by have ee:(0:Int)<=s:=of_decide_eq_true ee;omega) (fun _=>Z.pure ?_);rw[lm,vJ]at X;exact X.symm
theorem p0i{f:O}(dU:f.words.length<=3){env:List (J×J)}(hl:env.length<=1000000):Z (fun n=>D9 (GN n f (ec env) (eV env)) n ([],0)) (L2 (fun t=>t=f.words.map (sub env)) (fun _=>False)):=by
 refine Z.R5 f.words.length (fun k s=>s=((f.words.take k).map (sub env),(k:Int))) _ _ rfl (fun k s S hs=>?_) (fun s hs=>?_)
 ·subst hs;unfold GN;simp only[];refine Z.cond (fun _=>Z.w6 M (Z.B3 (p0h env hl (Am.get f.words k) _ (fun s=>rfl)) (fun t F=>?_) nofun)) (fun ee=>by have ee:¬(k:Int)<(f.words.length:Int):=of_decide_eq_false ee;omega);unfold XF;refine Z.B9 (Z.w6 ?_ (Z.pure ?_))
  ·exact lT
  ·show(_,_)=(_,_);rw[H8 S,cm,F,F9 M M];rfl
 ·subst hs;unfold GN;refine Z.cond (fun ee=>by have ee:(f.words.length:Int)<(f.words.length:Int):=of_decide_eq_true ee;omega) (fun _=>Z.pure ?_);show(f.words.take f.words.length).map (sub env)=_;rw[cj]
theorem p0j{env:List (J×J)}(hl:env.length<=1000000):Z (fun n=>D9 (GO (ec env) (eV env)) n ([],[],0)) (L2 (fun t=>t=(ec env,eV env)) (fun _=>False)):=by
 have hf:(ec env).length=env.length:=by unfold ec;simp
 have F:(eV env).length=env.length:=by unfold eV;simp
 refine Z.R5 env.length (fun k s=>s=((ec env).take k,(eV env).take k,(k:Int))) _ _ rfl (fun k s S hs=>?_) (fun s hs=>?_)
 ·subst hs;unfold GO;simp only[ai,hf,F];refine Z.cond (fun _=>Z.w6 M (Z.B9 (Z.w6 ?_ (Z.w6 M (Z.B9 (Z.w6 ?_ (Z.pure ?_))))))) (fun ee=>by have ee:¬(k:Int)<(env.length:Int):=of_decide_eq_false ee;omega)
  ·exact lT
  ·exact lT
  ·show(_,_,_)=(_,_,_);rw[H8 (by omega:k<(ec env).length),H8 (by omega:k<(eV env).length),F9 M M];rfl
 ·subst hs;unfold GO;simp only[hf];refine Z.cond (fun ee=>by have ee:(env.length:Int)<(env.length:Int):=of_decide_eq_true ee;omega) (fun _=>Z.pure ?_);show((ec env).take env.length,(eV env).take env.length)=_;rw[<-hf,cj,hf, <-F,cj]
theorem d7u{f:O}(N6:P6 f){E:List (J×J)}{nm:J}{a:Nat}(ha:a+w9 f<=1000000)(self:Nat->O->Int->List J->List J->Option (O×Int))(lN:∀k,k<f.subs.length->Z (fun n=>self n (Am.get f.subs k) ((a+1+B8 (f.subs.take k):Nat):Int) (ec E) (eV E)) (fun r=>r=(bg (Am.get f.subs k) E (a+1+B8 (f.subs.take k)),((a+1+B8 (f.subs.take k)+w9 (Am.get f.subs k):Nat):Int))))(ws:List J):
 Z (fun n=>Di (self n) n f (a:Int) ws (nm,ec E,eV E)) (fun r=>r=(.mk f.kind nm ws (dY f.subs E (a+1)),((a+w9 f:Nat):Int))):=by
 have hsl:=sP N6
 have hnd:=Y8 f
 have hal:∀(l:List O)(p:Nat),(dY l E p).length=l.length:=fun l=>by
  induction l with
  |nil=>intro p;rw[dY]
  |cons x l ih=>intro p;rw[dY,an,ih];rfl
 unfold Di
 refine Z.B3 (Z.R5 f.subs.length (fun k s=>s.1=dY (f.subs.take k) E (a+1)/\s.2.1=(k:Int)/\s.2.2=((a+1+B8 (f.subs.take k):Nat):Int)) (fun t=>t=(dY f.subs E (a+1),((a+1+B8 f.subs:Nat):Int))) (fun _=>False) ⟨by rw[fe,dY],rfl,by rw[fe,B8,F9 M M];rfl⟩ (fun k s S hs=>?_) (fun s hs=>?_)) (fun t F=>?_) nofun
 ·have⟨x,y,z⟩:=s;have⟨U,X,h3⟩:=hs;simp only at U X h3;subst U X h3;unfold MX;simp only[ai];refine Z.cond (fun _=>Z.w6 M (Z.bind (lN k S) fun v Q=>Z.B9 (Z.w6 ?_ (Z.pure ⟨?_,?_,?_⟩)))) (fun ee=>by have ee:¬(k:Int)<(f.subs.length:Int):=of_decide_eq_false ee;omega)
  ·rw[Y7];simp only[aa,hal,db,an,cz];omega
  ·subst Q;rw[H8 S,d7s]
  ·show wr .i64 ((k:Int)+1)=_;rw[F9 M M];rfl
  ·subst Q;rw[H8 S,lC, <-da]
 ·have⟨x,y,z⟩:=s;have⟨U,X,h3⟩:=hs;simp only at U X h3;subst U X h3;unfold MX;refine Z.cond (fun ee=>by have ee:(f.subs.length:Int)<(f.subs.length:Int):=of_decide_eq_true ee;omega) (fun _=>Z.pure ?_);show(_,_)=(_,_);rw[cj]
 ·subst F;unfold XG;refine Z.pure ?_;rw[show a+w9 f=a+1+B8 f.subs by omega]
theorem p0k(x:J×J)(E:List (J×J)):ec (x::E)=ec E++[x.1]:=by unfold ec;simp
theorem p0l(x:J×J)(E:List (J×J)):eV (x::E)=eV E++[x.2]:=by unfold eV;simp
theorem p0m:∀(m:Nat)(f:O),am f<=m->P6 f->∀(a:Nat) (E:List (J×J)),E.length+w9 f<=100000->a+w9 f<=1000000->
 Z (fun n=>oo n f (a:Int) (ec E) (eV E)) (fun r=>r=(bg f E a,((a+w9 f:Nat):Int))):=by
 intro m
 induction m with
 |zero=>exact z0
 |succ m ih=>
  intro f hf N6 a E hE ha;have hnd:=Y8 f;have dU:=wq N6;have hfl:(ec E).length=E.length:=by unfold ec;simp
  have nZ:(eV E).length=E.length:=by unfold eV;simp
  have GF:∀E':List (J×J),E'.length<=E.length+1->∀k,k<f.subs.length->Z (fun n=>oo n (Am.get f.subs k) ((a+1+B8 (f.subs.take k):Nat):Int) (ec E') (eV E')) (fun r=>r=(bg (Am.get f.subs k) E' (a+1+B8 (f.subs.take k)),((a+1+B8 (f.subs.take k)+w9 (Am.get f.subs k):Nat):Int))):=fun E' hl k S=>by have hsz:=W3 S;have h3:B8 (f.subs.take k)+w9 (Am.get f.subs k)<=B8 f.subs:=eO S;exact ih _ M (pJ N6 S) _ E' M M
  refine Z.succ ?_;simp only[oo];refine Z.B3 (p0i dU M) (fun t F=>?_) nofun;subst F;unfold XH;refine Z.B3 (p0j M) (fun t F=>?_) nofun;subst F;unfold XI;have hq:∀c:Int,(bif (decide (c=8))then true else decide (c=9))=decide (QK c):=fun c=>by by_cases h:c=8<;>simp[h,QK]
  rw[p0g];refine Z.cond (fun e=>?_) (fun e=>?_)
  ·rw[hq]at e;have e:=of_decide_eq_true e;simp only[if_pos e];refine Z.bind (d6Y M) fun v Q=>Z.w6 ?_ (Z.B9 (Z.w6 ?_ (Z.B9 (Z.w6 ?_ ?_))))
   ·subst Q;have hl:=oa (m:=a) M;unfold P8;simp;omega
   ·exact lT
   ·exact lT
   ·subst Q;have:=d7u N6 (E:=(f.name,fJ a)::E) (nm:=fJ a) (a:=a) M (fun n=>oo n) (GF _ B5) (f.words.map (sub E));rw[p0k,p0l]at this;exact this
  ·rw[hq]at e;have e:=of_decide_eq_false e;simp only[if_neg e];exact d7u N6 (E:=E) (nm:=f.name) (a:=a) M (fun n=>oo n) (GF _ M) (f.words.map (sub E))
theorem p0n(n:Nat)(f:O)(l0 l1:List J)(a:Int):GP n f l0 l1 a=oo (n+1) f a l0 l1:=by simp only[oo];rfl
theorem p0o{f:O}(N6:P6 f)(hnd:w9 f<=100000):Z (fun n=>GP n f [] [] 0) (fun r=>r=(bg f [] 0,(w9 f:Int))):=by have h:=p0m _ f (ae _) N6 0 [] (by simp only[cz];omega) M;rw[dq]at h;have⟨x,A,N,hN⟩:=h;exact⟨x,A,N,fun n hn=>(p0n n f [] [] 0).trans (hN (n+1) M)⟩
mutual
def jJ:O->Nat->List Nat
 | .mk k _ _ s,a=>(if QK k then [a]else [])++lQ s (a+1)
def lQ:List O->Nat->List Nat
 | [],_=>[]
 |x::l,a=>jJ x a++lQ l (a+w9 x)
end
mutual
theorem XJ:∀(f:O)(a:Nat),(jJ f a).length=nq f
 | .mk k n w s,a=>by
   rw[jJ,nq,aa,d7v s];by_cases h:QK k
   ·rw[if_pos h,if_pos h];rfl
   ·rw[if_neg h,if_neg h];rfl
theorem d7v:∀(l:List O)(a:Nat),(lQ l a).length=K2 l
 | [],a=>by rw[lQ,K2];rfl
 |x::l,a=>by rw[lQ,K2,aa,XJ x,d7v l]
end
mutual
theorem XK:∀(f:O)(a:Nat),(jJ f a).Sublist (fi a (w9 f))
 | .mk k n w s,a=>by
   rw[jJ,w9,CS];refine vz ?_ (d7w s (a+1));by_cases h:QK k
   ·grind
   ·grind
theorem d7w:∀(l:List O)(a:Nat),(lQ l a).Sublist (fi a (B8 l))
 | [],a=>by rw[lQ];exact kp _
 |x::l,a=>by rw[lQ,B8,CS];exact(XK x a).append (d7w l (a+w9 x))
end
theorem p0p(f:O)(a:Nat):(jJ f a).Nodup:=l3 (XK f a) (ul ..)
theorem p0q[Inhabited α](l m:List α){j:Nat}(h:j<l.length):Am.get (l++m) j=Am.get l j:=by unfold Am.get;rw[ac,ac,cy h]
theorem d7x[Inhabited α](l m:List α)(j:Nat):Am.get (l++m) (l.length+j)=Am.get m j:=by unfold Am.get;rw[ac,ac,c8 M,Nat.add_sub_cancel_left]
mutual
theorem XL(N:Nat->J):∀(f:O) (env:List (J×J)) (a i:Nat),(∀j,j<nq f->N (i+j)=fJ (Am.get (jJ f a) j))->bg f env a=F8 N f env i
 | .mk k n w s,env,a,i,h=>by
   rw[bg,F8];have hn:nq (.mk k n w s)=(if QK k then 1 else 0)+K2 s:=by rw[nq]
   have hq:jJ (.mk k n w s) a=(if QK k then [a]else [])++lQ s (a+1):=by rw[jJ]
   rw[hn,hq]at h;by_cases S:QK k
   ·simp only[if_pos S]at h⊢;have h0:N i=fJ a:=h 0 M;rw[h0,XM N s _ (a+1) (i+1) fun j L=>by have U:=h (1+j) M;rw[show Am.get ([a]++lQ s (a+1)) (1+j)=_ from d7x [a] _ j, <-da]at U;exact U]
   ·simp only[if_neg S]at h⊢;rw[XM N s _ (a+1) (i+0) fun j L=>by have U:=h j M;rw[fw]at U;exact U]
theorem XM(N:Nat->J):∀(l:List O) (env:List (J×J)) (a i:Nat),(∀j,j<K2 l->N (i+j)=fJ (Am.get (lQ l a) j))->dY l env a=L4 N l env i
 | [],env,a,i,h=>by rw[dY,L4]
 |x::l,env,a,i,h=>by
  have hn:K2 (x::l)=nq x+K2 l:=by rw[K2]
  have hq:lQ (x::l) a=jJ x a++lQ l (a+w9 x):=by rw[lQ]
  have hl:=XJ x a;rw[hn,hq]at h;rw[dY,L4,XL N x env a i fun j L=>by
   rw[h j M,p0q _ _ M],XM N l env (a+w9 x) (i+nq x) fun j L=>by
   rw[da,h (nq x+j) M, <-hl,d7x]]
end
open Classical in
noncomputable def jK(R:J->J->Prop)(m:Nat)(x:J):J:=if M0 x then x else if h:∃y,R x y then h.choose else be (m+1) 63++x
structure MY(R:J->J->Prop)(m:Nat):Prop where
 dom:∀x y,R x y->¬M0 x
 MZ:∀x y,R x y->¬M0 y/\y.length<=m
 fn:∀x y y',R x y->R x y'->y=y'
 inj:∀x x' y,R x y->R x' y->x=x'
theorem d7y(x:J):¬M0 (63::x):=fun h=>by have:=h.2.2.1.1;simp[P0]at this
theorem p0r(x:J):¬M0 (35::x):=fun h=>by have:=h.2.2.1.1;simp[P0]at this
section
variable {R:J->J->Prop} {m:Nat}
theorem XO{x:J}(h:M0 x):jK R m x=x:=by unfold jK;rw[if_pos h]
theorem Na(hR:MY R m){x y:J}(h:R x y):jK R m x=y:=by unfold jK;have he:∃y,R x y:=⟨y,h⟩;rw[if_neg (hR.dom _ _ h),dif_pos he];exact hR.fn _ _ _ he.choose_spec h
theorem p0s{x:J}(h:¬M0 x)(X:∀y,¬R x y):jK R m x=be (m+1) 63++x:=by unfold jK;rw[if_neg h,dif_neg fun⟨y,hy⟩=>X y hy]
theorem d7z(hR:MY R m)(x:J):(M0 x/\jK R m x=x)\/(∃y,R x y/\jK R m x=y)\/(¬M0 x/\jK R m x=be (m+1) 63++x):=by
 by_cases h:M0 x
 ·exact .inl ⟨h,XO h⟩
 ·by_cases X:∃y,R x y
  ·have⟨y,hy⟩:=X;exact .inr (.inl ⟨y,hy,Na hR hy⟩)
  ·exact .inr (.inr ⟨h,p0s h fun y hy=>X ⟨y,hy⟩⟩)
theorem d7A(hR:MY R m)(a b:J)(h:jK R m a=jK R m b):a=b:=by
 have h63:∀x:J,¬M0 (be (m+1) 63++x):=fun x=>by rw[List.replicate_succ];exact d7y _
 have hl:∀x:J,m<(be (m+1) (63:UInt8)++x).length:=fun x=>by rw[aa,oj];omega
 rcases d7z hR a with⟨I,a2⟩|⟨y,I,a2⟩|⟨I,a2⟩<;>rcases d7z hR b with⟨b1,b2⟩|⟨z,b1,b2⟩|⟨b1,b2⟩<;>rw[a2,b2]at h
 ·exact h
 ·exact absurd (h▸I) (hR.MZ _ _ b1).1
 ·grind
 ·exact absurd (h▸b1) (hR.MZ _ _ I).1
 ·subst h;exact hR.inj _ _ _ I b1
 ·have:=(hR.MZ _ _ I).2;have X:=hl b;rw[<-h]at X;omega
 ·grind
 ·have:=(hR.MZ _ _ b1).2;have X:=hl a;rw[h]at X;omega
 ·simp_all
end
section
variable {φ:J->J}
theorem d7B:∀(env:List (J×J)) (w:J),(w∉env.map (·.1)->φ w=w)->φ (sub env w)=sub (env.map fun p=>(p.1,φ p.2)) w
 | [],w,h=>by rw[List.map_nil,vJ];exact h B5
 |(a,b)::env,w,h=>by
  rw[bv,kh,kh];by_cases e:a=w
  ·rw[if_pos e,if_pos e]
  ·rw[if_neg e,if_neg e];exact d7B env w fun hm=>h fun hm2=>by grind
mutual
theorem XP(N yb:Nat->J):∀(f:O) (env:List (J×J)) (i:Nat),(∀x,E5 f (env.map (·.1)) x->φ x=x)->(∀j,i<=j->j<i+nq f->φ (N j)=yb j)->L0 φ (F8 N f env i)=F8 yb f (env.map fun p=>(p.1,φ p.2)) i
 | .mk k n w s,env,i,hf,L=>by
   have hn:nq (.mk k n w s)=(if QK k then 1 else 0)+K2 s:=by rw[nq]
   have e1:(w.map (sub env)).map φ=w.map (sub (env.map fun p=>(p.1,φ p.2))):=by rw[ja];exact e8 fun x A=>d7B env x fun h=>hf x (by rw[E5];exact .inl ⟨A,h⟩)
   rw[F8,F8,L0,e1];rw[hn]at L;by_cases hq:QK k
   ·simp only[if_pos hq]at L⊢;have h0:=L i (ae _) M;have:=XQ N yb s ((n,N i)::env) (i+1) (fun x A=>hf x (by rw[E5,if_pos hq];exact .inr A)) (fun j U X=>L j M M);rw[bv,h0]at this;rw[this,h0]
   ·simp only[if_neg hq]at L⊢;rw[XQ N yb s env (i+0) (fun x A=>hf x (by rw[E5,if_neg hq];exact .inr A)) (fun j U X=>L j M M)]
theorem XQ(N yb:Nat->J):∀(l:List O) (env:List (J×J)) (i:Nat),(∀x,F5 l (env.map (·.1)) x->φ x=x)->(∀j,i<=j->j<i+K2 l->φ (N j)=yb j)->N8 φ (L4 N l env i)=L4 yb l (env.map fun p=>(p.1,φ p.2)) i
 | [],env,i,hf,L=>by rw[L4,L4,N8]
 |f::l,env,i,hf,L=>by rw[K2]at L;rw[L4,L4,N8,XP N yb f env i (fun x A=>hf x (by rw[F5];exact .inl A)) (fun j U X=>L j U M),XQ N yb l env _ (fun x A=>hf x (by rw[F5];exact .inr A)) (fun j U X=>L j M M)]
end
end
theorem XR(B:List C5)(ν ν':Nat->J->J):∀(d:Nat)(f:O)(a:Nat),(∀z∈HT B d f a,∀x,wH B z x->ν z.1 x=ν' z.1 x)->TT B ν d f a=TT B ν' d f a
 |0,f,a,_=>by rw[TT,TT]
 |d+1,f,a,h=>by
  rw[HT]at h;rw[TT,TT];cases hm:au B 0 f with
  |none=>rw[hm]at h;show O.mk _ _ _ _=O.mk _ _ _ _;rw[Mk (xv:=HT B d) (C:=fun z=>∀x,wH B z x->ν z.1 x=ν' z.1 x) (fun x q A=>XR B ν ν' d x q A) f.subs (a+1) h]
  |some y=>
   have⟨k,r,e⟩:=y;rw[hm]at h;have⟨_,_,_,_,h5⟩:=ru B 0 hm;rw[Nat.sub_zero]at h5;refine CQ [] r.B4 (fun v Q hg=>?_) (fun x A=>?_)
   ·exact XR B ν ν' d _ _ fun z hz=>h z (aw _ (ed.2 ⟨v,Mi.2 hg,hz⟩))
   ·have A:x∈qs r.B4:=A.resolve_left (fun h=>by cases h);unfold N5;by_cases hq:x∈qs r.from_.form
    ·rw[if_pos hq,if_pos hq]
    ·rw[if_neg hq,if_neg hq];exact h (a,k) (az ..) x (by unfold wH;rw[h5];exact⟨A,hq⟩)
theorem p0t{a b:Nat}(h:fJ a=fJ b):a=b:=by unfold fJ O1 at h;exact Cd (List.append_cancel_left h)
theorem d7C:∀(x y C' v:J),(35:UInt8)∉x->(35:UInt8)∉y->x++35::C'=y++35::v->x=y/\C'=v
 | [],[],C',v,_,_,h=>⟨rfl,(en h).2⟩
 | [],b::y,C',v,_,hy,h=>by have:=(en h).1;exact absurd (this▸az ..) hy
 |a::x,[],C',v,A,_,h=>by have:=(en h).1;exact absurd (this▸az ..) A
 |a::x,b::y,C',v,A,hy,h=>by have⟨U,X⟩:=en h;have⟨h3,h4⟩:=d7C x y C' v (fun e=>A (aw _ e)) (fun e=>hy (aw _ e)) X;exact⟨by rw[U,h3],h4⟩
theorem d7D{x:J}(h:M0 x):(35:UInt8)∉x:=fun hm=>by
 have⟨k,S,e⟩:=List.mem_iff_getElem.1 hm;have:=h.2.2.2 k S;have e2:P0 x (k:Int)=35:=by unfold P0;simp only[ai];rw[ac,b7 S];show((x[k].toNat:Nat):Int)=35;rw[e];rfl
 rw[e2]at this;unfold mP at this;omega
theorem Dj(a:Nat)(x:J):F3 a x=35::(x++35::cb a):=by unfold F3 O1;simp
theorem p0u{a b:Nat}{x y:J}(A:M0 x)(hy:M0 y)(h:F3 a x=F3 b y):a=b/\x=y:=by rw[Dj,Dj]at h;have⟨U,X⟩:=d7C _ _ _ _ (d7D A) (d7D hy) (en h).2;exact⟨Cd X,U⟩
def Dk(B:List C5)(f:O)(xv:List (Nat×Nat))(ν:Nat->J->J)(x y:J):Prop:=
 (∃j,j<nq f/\x=qn j/\y=fJ (Am.get (jJ f 0) j))\/∃z∈xv,∃w,wH B z w/\x=ν z.1 w/\y=F3 z.1 w
theorem p0v{l:List Nat}(h:l.Nodup){i j:Nat}(u:i<l.length)(L:j<l.length)(e:Am.get l i=Am.get l j):i=j:=by unfold Am.get at e;rw[ac,ac,b7 u,b7 L]at e;exact(BC h).1 e
theorem rlX{B:List C5}(hr:dX B){f:O}(hn:w9 f<=1000){xv:List (Nat×Nat)}(hH:∀z∈xv,z.1<=1000/\z.2<B.length){ν:Nat->J->J}{c2:Nat}(hN:iK B xv ν (nq f) c2):MY (Dk B f xv ν) 100:=by
 have hfr:∀z∈xv,∀w,wH B z w->M0 w:=fun z hz w hw=>d4F (hr _ (get_mem (hH z hz).2)).to.1 w hw.1;have lD:=XJ f 0;have hqr:∀j,j<nq f->Am.get (jJ f 0) j<=1000:=fun j L=>by have U:=(XK f 0).subset (get_mem (l:=jJ f 0) (k:=j) M);have:=ff.1 U;omega
 refine⟨fun x y h=>?_,fun x y h=>?_,fun x y y' h h'=>?_,fun x x' y h h'=>?_⟩
 ·rcases h with⟨j,_,rfl,_⟩|⟨z,hz,w,hw,rfl,_⟩
  ·exact UZ j
  ·have⟨j,_,_,e⟩:=hN.rng z hz w hw;rw[e];exact UZ j
 ·rcases h with⟨j,L,_,rfl⟩|⟨z,hz,w,hw,_,rfl⟩
  ·refine⟨d7y _,?_⟩;have hl:=oa (m:=Am.get (jJ f 0) j) (by have:=hqr j L;omega);unfold fJ O1;simp only[aa,an,cz];omega
  ·rw[Dj];refine⟨p0r _,?_⟩;have hl:=oa (m:=z.1) (by have:=(hH z hz).1;omega);have:=(hfr z hz w hw).2.1;simp only[aa,an];omega
 ·rcases h with⟨j,L,rfl,rfl⟩|⟨z,hz,w,hw,rfl,rfl⟩<;>rcases h' with⟨j',hj',e,rfl⟩|⟨z',hz',w',hw',e,rfl⟩
  ·rw[wv _ _ e]
  ·have⟨k,k1,_,k2⟩:=hN.rng z' hz' w' hw';rw[k2]at e;have:=wv _ _ e;omega
  ·have⟨k,k1,_,k2⟩:=hN.rng z hz w hw;rw[k2]at e;have:=wv _ _ e;omega
  ·have⟨e1,e2⟩:=hN.inj z hz w hw z' hz' w' hw' e;rw[e1,e2]
 ·rcases h with⟨j,L,rfl,rfl⟩|⟨z,hz,w,hw,rfl,rfl⟩<;>rcases h' with⟨j',hj',rfl,e⟩|⟨z',hz',w',hw',rfl,e⟩
  ·have:=p0v (p0p f 0) M M (p0t e);rw[this]
  ·rw[Dj]at e;unfold fJ O1 at e;exact absurd (en e).1 D5
  ·rw[Dj]at e;unfold fJ O1 at e;exact absurd (en e).1 D5
  ·have⟨e1,e2⟩:=p0u (hfr z hz w hw) (hfr z' hz' w' hw') e;rw[e1,e2]
theorem p0w(hr:dX B){f:O}(h:Y0 f)(d:Nat){c2:Nat}(hN:iK B (HT B d (F8 qn f [] 0) 0) ν (nq f) c2):
 ∃φ:J->J,(∀a b,φ a=φ b->a=b)/\(∀x,M0 x->φ x=x)/\TT B F3 d (bg f [] 0) 0=L0 φ (TT B ν d (F8 qn f [] 0) 0)/\HT B d (bg f [] 0) 0=HT B d (F8 qn f [] 0) 0:=by
 have hn:=h.2.1
 have har:=M1.ar f h.1
 have M8:D6 (F8 qn f [] 0):=D6.F8 qn f [] 0 har
 have zo:w9 (F8 qn f [] 0)=w9 f:=Fa qn f [] 0
 have hR:=rlX hr (f:=f) M (fun z hz=>by have⟨k1,k2,k3⟩:=gK hr d _ 0 M8 z hz;exact⟨by omega,k3⟩) hN
 have hinj:=d7A hR
 have hname:∀x,M0 x->jK (Dk B f (HT B d (F8 qn f [] 0) 0) ν) 100 x=x:=fun x A=>XO A
 have hap:bg f [] 0=L0 (jK (Dk B f (HT B d (F8 qn f [] 0) 0) ν) 100) (F8 qn f [] 0):=by rw[XL (fun j=>fJ (Am.get (jJ f 0) j)) f [] 0 0 fun j _=>by rw[dq]];exact(XP qn _ f [] 0 (fun x A=>hname x (Cg f h.1 _ x A)) fun j _ L=>Na hR (.inl ⟨j,by omega,rfl,rfl⟩)).symm
 have oh:=Wi hinj hname hr d (F8 qn f [] 0) 0 M8
 refine⟨_,hinj,hname,?_,?_⟩
 ·rw[hap, <-Mf hinj hname hr ν d (F8 qn f [] 0) 0 M8];refine XR B _ _ d _ _ fun z hz x A=>?_;rw[oh]at hz;exact(Na hR (.inr ⟨z,hz,x,A,rfl,rfl⟩)).symm
 ·rw[hap,oh]
mutual
def S5:O->List J->List (O×List J)
 | .mk k n w s,yn=>(.mk k n w s,yn)::S6 s (if QK k then yn++[n]else yn)
def S6:List O->List J->List (O×List J)
 | [],_=>[]
 |f::l,yn=>S5 f yn++S6 l yn
end
theorem XS(f:O)(yn:List J):S5 f yn=(f,yn)::S6 f.subs (if QK f.kind then yn++[f.name]else yn):=by cases f;rw[S5];rfl
theorem Nb:∀(l:List O)(x:O)(yn:List J),S6 (l++[x]) yn=S6 l yn++S5 x yn
 | [],x,yn=>by rw[fw,S6,S6,S6,gf];rfl
 |f::l,x,yn=>by rw[di,S6,S6,Nb l,bl]
mutual
theorem tA:∀(f:O)(yn:List J),(S5 f yn).length=w9 f
 | .mk k n w s,yn=>by rw[S5,w9,an,d7F s];omega
theorem d7F:∀(l:List O)(yn:List J),(S6 l yn).length=B8 l
 | [],yn=>by rw[S6,B8];rfl
 |f::l,yn=>by rw[S6,B8,aa,tA f,d7F l]
end
mutual
theorem Nc:∀(f:O)(yn:List J),(S5 f yn).map (·.1)=D2 f
 | .mk k n w s,yn=>by rw[S5,D2,bv,d7G s]
theorem d7G:∀(l:List O)(yn:List J),(S6 l yn).map (·.1)=M4 l
 | [],yn=>by rw[S6,M4];rfl
 |f::l,yn=>by rw[S6,M4,cm,Nc f,d7G l]
end
mutual
theorem XT:∀(f:O)(yn:List J),∀x∈S5 f yn,∀y∈x.2,y∈yn\/y∈qs f
 | .mk k n w s,yn,x,A,y,hy=>by
   rw[S5]at A;have hq:=dH (.mk k n w s);rcases ce.1 A with rfl|A
   ·exact .inl hy
   ·have h:=d7H s _ x A y hy;rw[hq];show y∈yn\/y∈(if QK k then [n]else [])++J6 s
    by_cases S:QK k
    ·grind
    ·grind
theorem d7H:∀(l:List O)(yn:List J),∀x∈S6 l yn,∀y∈x.2,y∈yn\/y∈J6 l
 | [],yn,x,A,y,hy=>by rw[S6]at A;cases A
 |f::l,yn,x,A,y,hy=>by
  rw[S6]at A;rw[J6];rcases al.1 A with A|A
  ·exact(XT f yn x A y hy).imp id (de _)
  ·exact(d7H l yn x A y hy).imp id (bz _)
end
mutual
theorem d7I{R:List IT}:∀ {f:O} {W:List J} {p:Nat},R8 R f W p->∀i,p+w9 f<=i->S7 R i (p+w9 f)=S7 R i p
 | .mk k n w s,W,p,h,i,u=>by
   have⟨U,X,h3⟩:=(fG R _ W p).1 h;have h3:V8 R s (if QK k then n::W else W) (p+1):=h3
   have hr:=d7J h3 i (by rw[w9]at u;omega);rw[w9, <-da,hr,S7];have K:tB R i p=false:=by unfold tB;rw[X];show(bif decide ((i:Int)<((p+w9 (.mk k n w s):Nat):Int))then _ else false)=false;rw[decide_eq_false M];rfl
   rw[K,cond_false]
theorem d7J{R:List IT}:∀ {l:List O} {W:List J} {p:Nat},V8 R l W p->∀i,p+B8 l<=i->S7 R i (p+B8 l)=S7 R i p
 | [],W,p,_,i,_=>by rw[B8];rfl
 |f::l,W,p,h,i,u=>by rw[V8]at h;rw[B8]at u⊢;rw[<-da,d7J h.2 i M,d7I h.1 i M]
end
mutual
theorem d7K{R:List IT}:∀ {f:O} {W:List J} {p:Nat},R8 R f W p->∀(yn:List J)(j:Nat),j<w9 f->S7 R (p+j) p=yn->S7 R (p+j) (p+j)=(Am.get (S5 f yn) j).2
 | .mk k n w s,W,p,h,yn,j,L,hA=>by
   have⟨U,X,h3⟩:=(fG R _ W p).1 h;rw[S5];cases j with
   |zero=>exact hA
   |succ j=>
    rw[w9]at L;show _=(Am.get (S6 s _) j).2;rw[show p+(j+1)=p+1+j by omega]at hA⊢;refine d7L (l:=s) h3 _ j M ?_;rw[S7,hA];have K:tB R (p+1+j) p=decide (QK k):=by unfold tB;rw[X];show(bif decide (((p+1+j:Nat):Int)<((p+w9 (.mk k n w s):Nat):Int))then(bif decide (k=8)then true else decide (k=9))else false)=decide (QK k);rw[decide_eq_true (by rw[w9];omega),cond_true];unfold QK;by_cases e1:k=8<;>by_cases e2:k=9<;>simp[e1,e2]
    rw[K,X];by_cases S:QK k
    ·simp_all
    ·grind
theorem d7L{R:List IT}:∀ {l:List O} {W:List J} {p:Nat},V8 R l W p->∀(yn:List J)(j:Nat),j<B8 l->S7 R (p+j) p=yn->S7 R (p+j) (p+j)=(Am.get (S6 l yn) j).2
 | [],W,p,_,yn,j,L,_=>by rw[B8]at L;omega
 |f::l,W,p,h,yn,j,L,hA=>by
  rw[V8]at h;rw[B8]at L;rw[S6];by_cases hjf:j<w9 f
  ·rw[d7K h.1 yn j hjf hA];unfold Am.get;rw[ac,ac,cy (by rw[tA];exact hjf)]
  ·have e:p+j=p+w9 f+(j-w9 f):=by omega
   have pS:=d7I h.1 (p+j) M;rw[hA]at pS;rw[e]at pS⊢;rw[d7L h.2 yn (j-w9 f) M pS];unfold Am.get;rw[ac,ac,c8 (by rw[tA];omega),tA]
end
theorem XU(l:List IT)(i:Nat):∀k,(S7 l i k).length<=k
 |0=>ae _
 |k+1=>by
  have:=XU l i k;rw[S7];cases tB l i k
  ·rw[cond_false];omega
  ·grind
theorem d7N(f:O)(j:Nat)(L:j<w9 f):S7 (D4 f [] 0) j j=(Am.get (S5 f []) j).2:=by have h:=d7K (yw f []) [] j L (by rfl);rw[dq]at h;exact h
def mZ(s:B1)(v:J)(x:O×List J):Prop:=F6 s x.1/\x.1.name=v
def Cr(s:B1)(AM:List (O×List J))(m m':List (J×List J)):Prop:=
 ∀v,((∀x∈AM,¬mZ s v x)->assoc v m'=assoc v m)/\((∃x∈AM,mZ s v x)->∃l,assoc v m'=some l/\∀y,y∈l↔(∀l0,assoc v m=some l0->y∈l0)/\∀x∈AM,mZ s v x->y∈x.2)
theorem Cr.nil(s m):Cr s [] m m:=fun v=>⟨fun _=>rfl,fun⟨x,A,_⟩=>by cases A⟩
theorem Cr.trans{s AM L' m m1 m2}(h:Cr s AM m m1)(k:Cr s L' m1 m2):Cr s (AM++L') m m2:=fun v=>by
 have⟨h0,U⟩:=h v;have⟨k0,k1⟩:=k v;refine⟨fun hn=>?_,fun _=>?_⟩
 ·grind
 ·rename_i hex;by_cases S:∃x∈L',mZ s v x
  ·have⟨l,hl,hy⟩:=k1 S;refine⟨l,hl,fun y=>?_⟩;rw[hy];by_cases hh:∃x∈AM,mZ s v x
   ·grind
   ·grind
  ·have hn:∀x∈L',¬mZ s v x:=fun x A hp=>S ⟨x,A,hp⟩;have hh:∃x∈AM,mZ s v x:=by grind
   have⟨l1,aR,xV⟩:=U hh;refine⟨l1,by rw[k0 hn,aR],fun y=>?_⟩;rw[xV];constructor
   ·grind
   ·grind
theorem p0x(s:B1):∀(b:Nat)(f:O),am f<=b->P6 f->∀(I:List J) (m:List (J×List J)),I.length+w9 f<=100000->wz m->Z (fun n=>ng n f I s m) (fun m'=>wz m'/\Cr s (S5 f I) m m'):=by
 intro b;induction b with
 |zero=>exact z0
 |succ b ih=>
  intro f hf N6 I m ha hm;have hnd:=Y8 f;have cA:∀(m1:List (J×List J)) (c:List J),wz m1->c.length+B8 f.subs<=100000->Z (fun n=>Dl (fun f a m=>ng n f a s m) f m1 c) (fun m'=>wz m'/\Cr s (S6 f.subs c) m1 m'):=fun m1 c U X=>by
   unfold Dl;refine Z.B3 (P:=L2 (fun m'=>wz m'/\Cr s (S6 f.subs c) m1 m') (fun _=>False)) ((Z.range (fun k t=>wz t/\Cr s (S6 (f.subs.take k) c) m1 t) (fun _=>False) (fun _=>False) ⟨U,by rw[fe,S6];exact Cr.nil s m1⟩ (fun k t S F=>?_)).mono fun e he=>?_) (fun t F=>Z.pure F) nofun
   ·have hsz:=W3 S;have fD:=eO S;unfold GQ;refine Z.bind (ih _ M (pJ N6 S) c t M F.1) fun v Q=>Z.pure ⟨Q.1,?_⟩;rw[H8 S,Nb];exact F.2.trans Q.2
   ·grind
  have hj0:∀m1,wz m1->Cr s [(f,I)] m m1->Z (fun n=>zI (fun f a m=>ng n f a s m) f I m1) (fun m'=>wz m'/\Cr s (S5 f I) m m'):=fun m1 U K=>by
   have e:S5 f I=[(f,I)]++S6 f.subs (if QK f.kind then I++[f.name]else I):=XS f I
   unfold zI;simp only[nU,ax,sY,Cf,cond_true];refine Z.cond (fun hq=>Z.B9 (Z.w6 ?_ ((cA _ _ U ?_).mono fun m' h=>⟨h.1,?_⟩))) (fun hq=>(cA _ _ U M).mono fun m' h=>⟨h.1,?_⟩)
   ·exact lT
   ·grind
   ·rw[e,if_pos (of_decide_eq_true hq)];exact K.trans h.2
   ·rw[e,if_neg (of_decide_eq_false hq)];exact K.trans h.2
  refine Z.succ ?_;simp only[ng];rw[yW];simp only[ax];refine Z.cond (fun e=>?_) (fun e=>hj0 m hm fun v=>⟨fun _=>rfl,fun⟨x,A,hp⟩=>?_⟩)
  ·have hp:F6 s f:=of_decide_eq_true e;have hl:((assoc f.name m).getD I).length<=100000:=by
    cases h:assoc f.name m with
    |none=>rw[Option.getD_none];omega
    |some l=>exact hm _ _ h
   refine Z.w6 ⟨hp.2,by omega⟩ (hj0 _ (fun x l A=>?_) fun v=>⟨fun hn=>?_,fun⟨x,A,hpx⟩=>?_⟩)
   ·by_cases ex:x=f.name
    ·rw[ex,oc]at A;cases A;have:=i8g (fK I) ((assoc f.name m).getD I);omega
    ·rw[od ex]at A;exact hm _ _ A
   ·have hne:v≠f.name:=fun e=>hn (f,I) (ao.2 rfl) ⟨hp,e.symm⟩;exact od hne _ _
   ·rw[ao]at A;subst A;obtain⟨_,rfl⟩:=hpx;refine⟨_,oc _ _ _,fun y=>?_⟩;have hy:y∈flt (fK I) ((assoc f.name m).getD I)↔y∈(assoc f.name m).getD I/\y∈I:=by unfold flt fK;rw[ml];simp
    show y∈flt (fK I) ((assoc f.name m).getD I)↔_;rw[hy];cases h:assoc f.name m with
    |none=>grind
    |some l=>grind
  ·rw[ao]at A;subst A;exact absurd hp.1 (of_decide_eq_false e)
theorem p0y{s:B1}(h:S4 s):Z (fun n=>GR n s) (fun m=>Cr s (S5 s.form []) [] m):=by have:=h.form.2.1;unfold GR;exact Z.w6 h.VP ((p0x s _ s.form (ae _) (M1.sm _ h.form.1) [] [] (by simp;omega) (fun x l A=>by cases A)).mono fun m hm=>hm.2)
def Bad(s:B1)(need:List (J×List J))(vars:List J)(x:O×List J):Prop:=
 (F6 s x.1/\∃y∈(assoc x.1.name need).getD [],y∉x.2)\/∃w∈x.1.words,w∈vars/\w∉x.2
theorem p0z(r:C5)(need:List (J×List J))(vars:List J):∀(m:Nat)(f:O),am f<=m->P6 f->∀W:List J,W.length+w9 f<=100000->Z (fun n=>oq n f W r.from_.form.kind r.from_.form.name r.from_.form.words r.from_.form.subs r.from_.words r.from_.A8 r.from_.parts r.B4.kind r.B4.name r.B4.words r.B4.subs need vars) (fun b=>b=true↔ ∃x∈S5 f W,Bad r.from_ need vars x):=by
 intro m;induction m with
 |zero=>exact z0
 |succ m ih=>
  intro f hf N6 W hbd;have hnd:=Y8 f;have hj0:(¬(F6 r.from_ f/\∃y∈(assoc f.name need).getD [],y∉W))->Z (fun n=>Dm (oq n) vars f W r.from_.form.kind r.from_.form.name r.from_.form.words r.from_.form.subs r.from_.words r.from_.A8 r.from_.parts r.B4.kind r.B4.name r.B4.words r.B4.subs need ()) (fun b=>b=true↔ ∃x∈S5 f W,Bad r.from_ need vars x):=fun hnp=>by
   have qz:∀P:O×List J->Prop,(∃x∈S5 f W,P x)↔P (f,W)\/∃x∈S6 f.subs (if QK f.kind then W++[f.name]else W),P x:=fun P=>by rw[XS];simp
   unfold Dm;refine Z.B3 (Z.scan (fun k _=>∀j,j<k->¬(Am.get f.words j∈vars/\Am.get f.words j∉W)) (fun k b=>b=true/\(Am.get f.words k∈vars/\Am.get f.words k∉W)) (fun j L=>absurd L (co _)) (fun k s S u=>?_)) (fun t F=>?_) (fun b H=>?_)
   ·unfold XV;rw[jl,jl];simp only[ax];by_cases U:Am.get f.words k∈vars
    ·rw[decide_eq_true U];refine Z.bind (P:=fun v=>v=decide (Am.get f.words k∈W)) (Z.gd (fun _=>Z.pure rfl) (fun e=>by cases e)) fun v Q=>?_;subst Q;refine Z.cond (fun e=>Z.pure ⟨rfl,U,?_⟩) (fun e=>Z.pure fun j L=>?_)
     ·simpa using e
     ·grind
    ·rw[decide_eq_false U];refine Z.bind (P:=fun _=>True) (Z.gd (fun e=>by cases e) (fun _=>trivial)) fun v Q=>Z.cond (fun e=>by cases e) (fun e=>Z.pure fun j L=>?_);by_cases ej:j=k
     ·grind
     ·exact u j M
   ·have gS:¬ ∃w∈f.words,w∈vars/\w∉W:=fun⟨w,hw,h⟩=>by obtain⟨j,L,rfl⟩:=U0.1 hw;exact F j L h
    have hnb:¬Bad r.from_ need vars (f,W):=fun h=>h.elim hnp gS
    have rest:∀I8:List J,I8=(if QK f.kind then W++[f.name]else W)->Z (fun n=>Dn (oq n) f r.from_.form.kind r.from_.form.name r.from_.form.words r.from_.form.subs r.from_.words r.from_.A8 r.from_.parts r.B4.kind r.B4.name r.B4.words r.B4.subs need vars I8) (fun b=>b=true↔ ∃x∈S5 f W,Bad r.from_ need vars x):=fun I8 H=>by
     have mQ:I8.length<=W.length+1:=by rw[H];split<;>simp
     unfold Dn Nd Nf;refine Z.bind (P:=fun b=>b=true↔ ∃x∈S6 f.subs I8,Bad r.from_ need vars x) (Z.bind (P:=fun k:Int=>0<=k↔ ∃x∈S6 f.subs I8,Bad r.from_ need vars x) ?_ fun k S=>Z.pure (by rw[decide_eq_true_eq];exact S)) fun v Q=>Z.pure ?_
     ·refine Z.B3 (Z.scan (fun k _=>¬ ∃x∈S6 (f.subs.take k) I8,Bad r.from_ need vars x) (fun k z=>z=(k:Int)/\∃x∈S5 (Am.get f.subs k) I8,Bad r.from_ need vars x) (fun⟨x,A,_⟩=>by rw[fe,S6]at A;cases A) (fun k s S u=>?_)) (fun t F=>?_) (fun z hz=>?_)
      ·have hsz:=W3 S;have fD:=eO S;unfold XW Ng;refine Z.bind (P:=fun b=>b=true↔ ∃x∈S5 (Am.get f.subs k) I8,Bad r.from_ need vars x) (Z.bind (ih _ M (pJ N6 S) I8 M) fun v Q=>Z.pure Q) fun v Q=>Z.cond (fun e=>Z.pure ⟨rfl,Q.1 e⟩) (fun e=>Z.pure ?_);rintro⟨x,A,XY⟩;rw[H8 S,Nb]at A;rcases al.1 A with A|A
       ·exact u ⟨x,A,XY⟩
       ·grind
      ·unfold XZ;rw[cj]at F;exact Z.pure ⟨fun h=>by omega,fun h=>absurd h F⟩
      ·obtain⟨k,_,S,_,rfl,x,A,XY⟩:=hz;refine⟨fun _=>⟨x,?_,XY⟩,fun _=>by omega⟩;have e:f.subs=f.subs.take (k+1)++f.subs.drop (k+1):=(ew _ _).symm;have happ:∀(a b:List O)(yn:List J),S6 (a++b) yn=S6 a yn++S6 b yn:=fun a b yn=>by
        induction a with
        |nil=>rw[fw,S6,fw]
        |cons y a iha=>rw[di,S6,S6,iha,bl]
       rw[e,happ,H8 S,Nb];exact de _ (bz _ A)
     ·simp_all
    unfold Ya
    simp only[nU,ax,sY,Cf,cond_true]
    refine Z.cond (fun e=>Z.B9 (Z.w6 ?_ (rest _ ?_))) (fun e=>rest _ ?_)
    ·exact lT
    ·grind
    ·grind
   ·obtain⟨k,_,S,_,rfl,H⟩:=H;exact⟨fun _=>(qz _).2 (.inl (.inr ⟨_,get_mem S,H⟩)),fun _=>rfl⟩
  refine Z.succ ?_;simp only[oq];show Z (fun n=>(lF r.from_ f).bind _) _;rw[yW];simp only[ax];refine Z.cond (fun e=>?_) (fun e=>hj0 fun h=>of_decide_eq_false e h.1);have hp:F6 r.from_ f:=of_decide_eq_true e;refine Z.B3 (Z.scan (fun k _=>∀j,j<k->Am.get ((assoc f.name need).getD default) j∈W) (fun k b=>b=true/\Am.get ((assoc f.name need).getD default) k∉W) (fun j L=>absurd L (co _)) (fun k s S u=>?_)) (fun t F=>?_) (fun b H=>?_)
  ·unfold Yb;rw[jl];simp only[ax];refine Z.cond (fun e=>Z.pure ⟨rfl,by simpa using e⟩) (fun e=>Z.pure fun j L=>?_);by_cases ej:j=k
   ·subst ej;simpa using e
   ·exact u j M
  ·unfold Yc;refine hj0 fun⟨_,y,hy,Yd⟩=>?_;obtain⟨j,L,rfl⟩:=U0.1 hy;exact Yd (F j L)
  ·obtain⟨k,_,S,_,rfl,H⟩:=H;refine⟨fun _=>⟨(f,W),by rw[XS];exact az ..,.inl ⟨hp,_,get_mem S,H⟩⟩,fun _=>rfl⟩
mutual
theorem Ye:∀(f:O)(x:J),x∈qs f↔ ∃g∈D2 f,QK g.kind/\g.name=x
 | .mk k n w s,x=>by
   have hq:=dH (.mk k n w s);have hq:qs (.mk k n w s)=(if QK k then [n]else [])++J6 s:=hq
   rw[hq,D2,al,d7O s];constructor
   ·rintro(h|⟨g,hg,h⟩)
    ·by_cases S:QK k
     ·simp_all
     ·rw[if_neg S]at h;cases h
    ·grind
   ·rintro⟨g,hg,S,h⟩;rcases ce.1 hg with rfl|hg
    ·simp_all
    ·exact .inr ⟨g,hg,S,h⟩
theorem d7O:∀(l:List O)(x:J),x∈J6 l↔ ∃g∈M4 l,QK g.kind/\g.name=x
 | [],x=>by rw[J6,M4];simp
 |f::l,x=>by
  rw[J6,M4,al,Ye f,d7O l];constructor
  ·grind
  ·grind
end
def nh(r:C5):Prop:=
 ∃x∈S5 r.B4 [],∃q∈qs r.from_.form,q∉x.2/\(q∈x.1.words\/(F6 r.from_ x.1/\∀z∈S5 r.from_.form [],mZ r.from_ x.1.name z->q∈z.2))
theorem p0A{r:C5}(hg:S4 r.from_)(F:Y0 r.B4):Z (fun n=>GS n r) (fun b=>b=true↔nh r):=by
 have hfn:=hg.form.2.1;have htn:=F.2.1;unfold GS;refine Z.bind (p0y hg) fun need p0B=>Z.bind (Ft _ _ (ae _) M) fun vars Kw=>Z.bind (p0z r need vars _ r.B4 (ae _) (M1.sm _ F.1) [] (by simp;omega)) fun b H=>Z.pure ?_;subst Kw;rw[H];have key:∀x:O×List J,Bad r.from_ need (qs r.from_.form) x↔ ∃q∈qs r.from_.form,q∉x.2/\(q∈x.1.words\/(F6 r.from_ x.1/\∀z∈S5 r.from_.form [],mZ r.from_ x.1.name z->q∈z.2)):=fun x=>by
  have⟨n0,n1⟩:=p0B x.1.name;constructor
  ·rintro(⟨hp,y,hy,Yd⟩|⟨w,hw,hq,hn⟩)
   ·by_cases hh:∃z∈S5 r.from_.form [],mZ r.from_ x.1.name z
    ·have⟨l,hl,Yf⟩:=n1 hh;rw[hl]at hy;have⟨_,X⟩:=(Yf y).1 hy;have⟨z,hz,GU⟩:=hh;refine⟨y,?_,Yd,.inr ⟨hp,X⟩⟩;rcases XT _ _ z hz y (X z hz GU)with h|h
     ·cases h
     ·exact h
    ·rw[n0 fun z hz h=>hh ⟨z,hz,h⟩]at hy;cases hy
   ·exact⟨w,hq,hn,.inl hw⟩
  ·rintro⟨q,hq,hn,hw|⟨hp,X⟩⟩
   ·exact .inr ⟨q,hw,hq,hn⟩
   ·have⟨_,g,JF,U,h3,h4⟩:=hg.parts _ hp.2;rw[<-Nc r.from_.form []]at JF;obtain⟨z,hz,rfl⟩:=bj.1 JF;have GU:mZ r.from_ x.1.name z:=⟨⟨⟨U,h4⟩,by rw[h3];exact hp.2⟩,h3⟩;have⟨l,hl,Yf⟩:=n1 ⟨z,hz,GU⟩;refine .inl ⟨hp,q,?_,hn⟩;rw[hl];exact(Yf q).2 ⟨fun l0 e=>(by cases e),X⟩
 unfold nh;simp only[key]
theorem Yg(s:B1)(hl:s.parts.length<=8000000){b:Nat}{f:O}{it:IT}(h:BX b f it):Z (fun n=>rA n s it) (fun v=>v=decide (F6 s f)):=by
 have⟨U,X,h3,_⟩:=h;unfold rA;by_cases K:f.kind=2/\f.words.length=0
 ·have e:(bif (decide (it.kind=2))then(decide ((it.words.length:Int)=0))else false)=true:=by rw[U,h3];simp[K]
  rw[e];refine Z.bind (P:=pD s.parts f.name) (Z.gd (fun _=>by rw[X];exact eP _ _ hl) (fun e=>by cases e)) fun v Q=>Z.pure ?_;rw[cond_true];exact decide_eq_decide.2 ⟨fun h=>⟨K,Q.mem.1 h⟩,fun h=>Q.mem.2 h.2⟩
 ·have e:(bif (decide (it.kind=2))then(decide ((it.words.length:Int)=0))else false)=false:=by grind
  rw[e];refine Z.bind (P:=fun _=>True) (Z.gd (fun e=>by cases e) (fun _=>trivial)) fun v _=>Z.pure ?_;rw[cond_false];exact(decide_eq_false fun h=>K h.1).symm
def lR(r:C5)(i k:Nat):Prop:=
 QK (Am.get (D2 r.from_.form) k).kind/\(Am.get (D2 r.from_.form) k).name∉ (Am.get (S5 r.B4 []) i).2/\
  ((Am.get (D2 r.from_.form) k).name∈(Am.get (D2 r.B4) i).words\/(F6 r.from_ (Am.get (D2 r.B4) i)/\∀j,j<w9 r.from_.form->F6 r.from_ (Am.get (D2 r.from_.form) j)->(Am.get (D2 r.from_.form) j).name=(Am.get (D2 r.B4) i).name->(Am.get (D2 r.from_.form) k).name∈(Am.get (S5 r.from_.form []) j).2))
theorem GV(f:O)(j:Nat)(L:j<w9 f):(Am.get (S5 f []) j).1=Am.get (D2 f) j:=by rw[<-Nc f [],get_map (fun x:O×List J=>x.1) (by rw[tA];exact L)]
theorem p0C(r:C5):(∃i k,i<w9 r.B4/\k<w9 r.from_.form/\lR r i k)↔nh r:=by
 constructor
 ·rintro⟨i,k,u,S,U,X,h3⟩;refine⟨Am.get (S5 r.B4 []) i,get_mem (by rw[tA];exact u),_,(Ye _ _).2 ⟨_,get_mem (by rw[gD];exact S),U,rfl⟩,X,?_⟩;rw[GV _ _ u];refine h3.imp id fun⟨hp,h⟩=>⟨hp,fun z hz GU=>?_⟩;obtain⟨j,L,rfl⟩:=U0.1 hz;rw[tA]at L;have⟨a,b⟩:=GU;rw[GV _ _ L]at a b;exact h j L a b
 ·rintro⟨x,A,q,hq,X,h3⟩;obtain⟨i,u,rfl⟩:=U0.1 A;rw[tA]at u;obtain⟨g,hg,S,rfl⟩:=(Ye _ _).1 hq;obtain⟨k,hkl,rfl⟩:=U0.1 hg;rw[gD]at hkl;rw[GV _ _ u]at h3;refine⟨i,k,u,hkl,S,X,h3.imp id fun⟨hp,h⟩=>⟨hp,fun j L a b=>?_⟩⟩;refine h _ (get_mem (by rw[tA];exact L)) ⟨?_,?_⟩
  ·rw[GV _ _ L];exact a
  ·rw[GV _ _ L];exact b
theorem Nh[Inhabited α](n:Nat)(f:Nat->α)(i:Nat)(h:i<n):Am.get (rf n f) i=f i:=by unfold rf;rw[get_map f (by rw[List.length_range];exact h)];simp[Am.get,h]
theorem d7Q(n:Nat)(f:Nat->α):(rf n f).length=n:=by unfold rf;simp
theorem p0D{r:C5}(hg:S4 r.from_)(F:Y0 r.B4):Z (fun n=>GW n r) (fun b=>b=true↔nh r):=by
 have hfn:=hg.form.2.1;have htn:=F.2.1;have aX:r.from_.parts.length<=8000000:=by have:=hg.len;unfold E3 at this;simp only[aa]at this;omega
 have hF:∀j,j<w9 r.from_.form->BX (0+j) (Am.get (D2 r.from_.form) j) (Am.get (D4 r.from_.form [] 0) j):=fun j L=>vS _ _ _ _ L;have hT:∀j,j<w9 r.B4->BX (0+j) (Am.get (D2 r.B4) j) (Am.get (D4 r.B4 [] 0) j):=fun j L=>vS _ _ _ _ L;have hlF:(D4 r.from_.form [] 0).length=w9 r.from_.form:=dS _ _ _;have hlT:(D4 r.B4 [] 0).length=w9 r.B4:=dS _ _ _;have hwr:∀k:Nat,k<=200->wr .i64 ((k:Int)+1)=((k+1:Nat):Int):=fun k S=>by rw[F9 M M];rfl
 unfold GW;refine Z.bind (vO hg.form.1 [] M B5) fun v1 e1=>Z.bind (vO F.1 [] M B5) fun v2 e2=>?_;subst e1 e2;have ha:∀f:O,w9 f<=200->Dp (D4 f [] 0)=some (rf (w9 f) fun i=>S7 (D4 f [] 0) i i):=fun f hf=>by unfold Dp;rw[dS,sk ⟨by rw[Y7];omega,by omega⟩]
 rw[ha _ hfn,ha _ htn];simp only[ax];obtain⟨AF,Ni⟩:∃x,x=rf (w9 r.from_.form) fun i=>S7 (D4 r.from_.form [] 0) i i:=⟨_,rfl⟩;obtain⟨AT,Nj⟩:∃x,x=rf (w9 r.B4) fun i=>S7 (D4 r.B4 [] 0) i i:=⟨_,rfl⟩;have hgF:∀j,j<w9 r.from_.form->Am.get AF j=(Am.get (S5 r.from_.form []) j).2:=fun j L=>by rw[Ni,Nh _ _ _ L];exact d7N _ _ L
 have hgT:∀j,j<w9 r.B4->Am.get AT j=(Am.get (S5 r.B4 []) j).2:=fun j L=>by rw[Nj,Nh _ _ _ L];exact d7N _ _ L
 have r0K:AF.length=w9 r.from_.form:=by rw[Ni,d7Q]
 have r0L:AT.length=w9 r.B4:=by rw[Nj,d7Q]
 rw[<-Ni, <-Nj];refine(Z.B3 (BE:=fun b=>b=true↔ ∃i k,i<w9 r.B4/\k<w9 r.from_.form/\lR r i k) (Z.R5 (w9 r.B4) (fun i s=>s=(i:Int)/\∀i' k,i'<i->k<w9 r.from_.form->¬lR r i' k) (fun _=>∀i' k,i'<w9 r.B4->k<w9 r.from_.form->¬lR r i' k) (fun b=>b=true/\∃i k,i<w9 r.B4/\k<w9 r.from_.form/\lR r i k) ⟨rfl,fun i' k h=>absurd h (co _)⟩ (fun i s u hs=>?_) (fun s hs=>?_)) (fun t F=>?_) (fun b H=>?_)).mono fun b H=>H.trans (p0C r)
 ·obtain⟨rfl,hs⟩:=hs;have⟨t1,t2,t3,_⟩:=hT i u;have hTi:=hT i u;have d7T:(Am.get AT i).length<=8000000:=by rw[Nj,Nh _ _ _ u];have:=XU (D4 r.B4 [] 0) i i;omega
  have pz:(Am.get (D2 r.B4) i).words.length<=8000000:=by have:=wq (M1.sm _ (Lc _ F.1 _ (get_mem (by rw[gD];exact u))));omega
  unfold Nk;refine Z.cond (fun _=>?_) ab;refine Z.B3 (Z.R5 (w9 r.from_.form) (fun k s=>s=(k:Int)/\∀k',k'<k->¬lR r i k') (fun _=>∀k',k'<w9 r.from_.form->¬lR r i k') (fun z=>z= .ret true/\∃k,k<w9 r.from_.form/\lR r i k) ⟨rfl,fun k' h=>absurd h (co _)⟩ (fun k s S V1=>?_) (fun s V1=>?_)) (fun t jg=>?_) (fun z hz=>?_)
  ·obtain⟨rfl,V1⟩:=V1;have⟨f1,f2,f3,_⟩:=hF k S;have Eu:¬lR r i k->∀k',k'<k+1->¬lR r i k':=fun h k' hk'=>by grind
   have Nl:¬lR r i k->cU (fun s:Int=>s=((k+1:Nat):Int)/\∀k',k'<k+1->¬lR r i k') (fun _:Unit=>∀k',k'<w9 r.from_.form->¬lR r i k') (fun z:C1 Bool Int Unit=>z= .ret true/\∃k,k<w9 r.from_.form/\lR r i k) (.B7 (wr .i64 ((k:Int)+1))):=fun h=>⟨hwr k M,Eu h⟩;unfold Nn;simp only[ai,f1,f2,t3,hgT i u];refine Z.cond (fun _=>Z.w6 M (Z.cond (fun e=>Z.pure (Nl fun h=>?_)) (fun e=>?_))) ab
   ·have hq:=h.1;unfold QK at hq;rcases hq with hq|hq<;>simp[hq]at e
   have hq:QK (Am.get (D2 r.from_.form) k).kind:=by
    unfold QK;by_cases a:(Am.get (D2 r.from_.form) k).kind=8
    ·exact .inl a
    ·grind
   rw[hgT i u]at d7T;refine Z.w6 M (Z.bind (eP _ _ d7T) fun v60 Q=>Z.cond (fun e=>Z.pure (Nl fun h=>h.2.1 (Q.mem.1 (bx e)))) (fun e=>?_));have hn:(Am.get (D2 r.from_.form) k).name∉ (Am.get (S5 r.B4 []) i).2:=fun h=>by have:=Q.mem.2 h;replace e:=bx e;omega
   refine Z.w6 M (Z.bind (eP _ _ pz) fun wL hv2=>Z.cond (fun e=>Z.pure ⟨rfl,k,S,hq,hn,.inl (hv2.mem.1 (bx e))⟩) (fun e=>?_));have gS:(Am.get (D2 r.from_.form) k).name∉ (Am.get (D2 r.B4) i).words:=fun h=>by have:=hv2.mem.2 h;replace e:=bx e;omega
   refine Z.bind (Yg _ aX hTi) fun eW W4=>?_;subst W4;refine Z.cond (fun e=>Z.pure (Nl fun h=>?_)) (fun e=>?_)
   ·have e:¬F6 r.from_ (Am.get (D2 r.B4) i):=by simpa using e
    exact h.2.2.elim gS fun h=>e h.1
   have hip:F6 r.from_ (Am.get (D2 r.B4) i):=by simpa using e
   refine Z.B3 (Z.R5 (w9 r.from_.form) (fun j s=>s.2=(j:Int)/\(s.1=true↔ ∀j',j'<j->F6 r.from_ (Am.get (D2 r.from_.form) j')->(Am.get (D2 r.from_.form) j').name=(Am.get (D2 r.B4) i).name->(Am.get (D2 r.from_.form) k).name∈(Am.get (S5 r.from_.form []) j').2)) (fun b=>b=true↔ ∀j',j'<w9 r.from_.form->F6 r.from_ (Am.get (D2 r.from_.form) j')->(Am.get (D2 r.from_.form) j').name=(Am.get (D2 r.B4) i).name->(Am.get (D2 r.from_.form) k).name∈(Am.get (S5 r.from_.form []) j').2) (fun _=>False) ⟨rfl,fun _ j' h=>absurd h (co _),fun _=>rfl⟩ (fun j s L jc=>?_) (fun s jc=>?_)) (fun t yR=>?_) nofun
   ·have⟨s1,s2⟩:=s;have⟨X,U⟩:=jc;have X:s2=(j:Int):=X;subst X;have⟨j1,j2,j3,_⟩:=hF j L;have p0G:(Am.get (S5 r.from_.form []) j).2.length<=8000000:=by rw[<-hgF j L,Ni,Nh _ _ _ L];have:=XU (D4 r.from_.form [] 0) j j;omega
    unfold Np;simp only[ai,j2,t2,f2,hgF j L];refine Z.cond (fun _=>Z.w6 M (Z.bind (Yg _ aX (hF j L)) fun GX Yh=>?_)) ab;subst Yh;obtain⟨C,hC⟩:∃C:Bool,C=(bif decide (F6 r.from_ (Am.get (D2 r.from_.form) j))then decide ((Am.get (D2 r.from_.form) j).name=(Am.get (D2 r.B4) i).name)else false):=⟨_,rfl⟩;have sQ:C=true↔F6 r.from_ (Am.get (D2 r.from_.form) j)/\(Am.get (D2 r.from_.form) j).name=(Am.get (D2 r.B4) i).name:=by grind
    rw[<-hC];refine Z.w6 (fun _=>by omega) (Z.bind (P:=fun v=>C=true->pD (Am.get (S5 r.from_.form []) j).2 (Am.get (D2 r.from_.form) k).name v) (Z.gd (fun _=>(eP _ _ p0G).mono fun v Q _=>Q) (fun e h=>by rw[e]at h;cases h)) fun GY Nq=>?_);refine Z.cond (fun e=>Z.pure ⟨hwr j M,fun h=>(by cases h),fun h=>?_⟩) (fun e=>Z.pure ⟨hwr j M,fun h j' hj' a b=>?_,fun h=>U.2 fun j' hj'=>h j' M⟩)
    ·cases T4:C with
     |false=>rw[T4]at e;cases e
     |true=>rw[T4]at e;have e:GY<0:=bx e;have:=(Nq T4).mem.2 (h j M (sQ.1 T4).1 (sQ.1 T4).2);omega
    ·by_cases ej:j'=j
     ·subst ej;have T4:=sQ.2 ⟨a,b⟩;rw[T4]at e;have e:0<=GY:=bx e;exact(Nq T4).mem.1 e
     ·exact U.1 h j' M a b
   ·have⟨s1,s2⟩:=s;have⟨X,U⟩:=jc;have X:s2=((w9 r.from_.form:Nat):Int):=X;subst X;unfold Np;exact Z.cond ab (fun _=>Z.pure U)
   ·unfold Yi;refine Z.cond (fun e=>Z.pure ⟨rfl,k,S,hq,hn,.inr ⟨hip,yR.1 e⟩⟩) (fun e=>Z.pure (Nl fun h=>?_));have:=yR.2 (h.2.2.resolve_left gS).2;rw[e]at this;cases this
  ·obtain⟨rfl,V1⟩:=V1;unfold Nn;exact Z.cond ab (fun _=>Z.pure V1)
  ·unfold Yj;refine Z.pure ⟨hwr i M,fun i' k hi' S=>?_⟩;by_cases e:i'=i
   ·subst e;exact jg k S
   ·exact hs i' k M S
  ·obtain⟨rfl,k,S,h⟩:=hz;exact⟨rfl,i,k,u,S,h⟩
 ·obtain⟨rfl,hs⟩:=hs;unfold Nk;refine Z.cond ab (fun _=>Z.pure hs)
 ·unfold Yk;refine Z.pure ⟨fun e=>(by cases e),fun⟨i,k,u,S,h⟩=>absurd h (F i k u S)⟩
 ·exact⟨fun _=>H.2,fun _=>H.1⟩
theorem p0H:∀(m:Nat)(f:O),am f<=m->∀(W AD:List J)(x:J),E5 f W x->x∉AD->E5 f (W++AD) x:=by
 intro m;induction m with
 |zero=>exact z0
 |succ m ih=>
  intro f hf W AD x A hB;have hL:∀l:List O,(∀y∈l,am y<=m)->∀W:List J,F5 l W x->F5 l (W++AD) x:=by
   intro l;induction l with
   |nil=>intro _ W h;rw[F5]at h;exact h.elim
   |cons a l ihl=>intro hl W h;rw[F5]at h⊢;exact h.elim (fun h=>.inl (ih a (hl a (az ..)) W AD x h hB)) fun h=>.inr (ihl (fun y hy=>hl y (aw _ hy)) W h)
  rw[oZ]at A⊢;rcases A with⟨U,X⟩|A
  ·grind
  ·refine .inr ?_;have:=hL f.subs (fun y hy=>by obtain⟨j,L,rfl⟩:=U0.1 hy;have:=W3 L;omega) _ A
   by_cases hq:QK f.kind
   ·grind
   ·grind
theorem d7U{f:O}{AD:List J}{x:J}(h:E5 f [] x)(hB:x∉AD):E5 f AD x:=by have:=p0H _ f (ae _) [] AD x h hB;rwa[fw]at this
theorem d7V:∀(l:List O)(W:List J)(x:J),F5 l W x↔ ∃f∈l,E5 f W x
 | [],W,x=>by rw[F5];simp
 |f::l,W,x=>by
  rw[F5,d7V l];constructor
  ·grind
  ·grind
theorem d7W(BB W:List J):∀(ws ys:List J)(l:List C4),ws.length=ys.length->J8 BB W ws ys=some l->∀x∈ws,x∉W->x∈BB->∃y∈ys,(⟨46::x,y,zf⟩:C4)∈l
 | [],ys,l,_,_,x,A,_,_=>by cases A
 |a::ws,[],l,hl,_,x,_,_,_=>by simp at hl
 |a::ws,b::ys,l,hl,h,x,A,H,hW=>by
  rw[J8]at h;have hl':ws.length=ys.length:=by simpa using hl
  have rest:∀l',J8 BB W ws ys=some l'->(∀c∈l',c∈l)->x∈ws->∃y∈b::ys,(⟨46::x,y,zf⟩:C4)∈l:=fun l' U X h3=>by have⟨y,h4,h5⟩:=d7W BB W ws ys l' hl' U x h3 H hW;exact⟨y,aw _ h4,X _ h5⟩
  by_cases ha0:a∈W
  ·rw[if_pos ha0]at h;cases hp:J8 BB W ws ys with
   |none=>rw[hp]at h;cases h
   |some l'=>grind
  ·rw[if_neg ha0]at h;by_cases ha:a∈BB
   ·rw[if_pos ha]at h;cases hp:J8 BB W ws ys with
    |none=>rw[hp]at h;cases h
    |some l'=>grind
   ·grind
mutual
theorem d7X(s:B1):∀(f g:O)(W AD:List J)(ps:List C4),D6 f->D6 g->R3 s f W g=some ps->∀x,E5 f W x->x∈s.words->∃y,(⟨46::x,y,zf⟩:C4)∈ps/\(E5 g AD y\/y∈AD\/∃q∈qs f,(⟨63::q,y,zf⟩:C4)∈ps)
 | .mk k n w l,g,W,AD,ps,har,M8,h,x,A,hW=>by
   have⟨I,_,_,a4⟩:=(Q6 _).1 har;have⟨c1,_,_,c4⟩:=(Q6 _).1 M8;rw[R3]at h;rw[E5]at A;by_cases hp:F6 s (.mk k n w l)
   ·have hw:w=[]:=dt.1 hp.1.2;have hl:l=[]:=dt.1 (by have U:((l.length:Nat):Int)=R2 k:=I;rw[show k=2 from hp.1.1]at U;have e2:R2 2=0:=rfl;omega);subst hw hl;rcases A with⟨U,_⟩|A
    ·cases U
    ·rw[F5]at A;exact A.elim
   ·rw[if_neg hp]at h;by_cases S:k≠g.kind\/w.length≠g.words.length
    ·rw[if_pos S]at h;cases h
    rw[if_neg S]at h;rw[not_or,dl,dl]at S;obtain⟨a,y0,U,X,rfl⟩:=aB h;obtain⟨b,c,h3,h4,rfl⟩:=aB X;have hq:qs (.mk k n w l)=(if QK k then [n]else [])++J6 l:=dH (.mk k n w l)
    rcases A with⟨A,hnb⟩|A
    ·have⟨y,hy,hm⟩:=d7W _ _ _ _ _ S.2 h3 x A hnb hW;refine⟨y,bz _ (de _ hm),?_⟩;by_cases hB:y∈AD
     ·exact .inr (.inl hB)
     ·exact .inl (by rw[oZ];exact .inl ⟨hy,hB⟩)
    ·have⟨y,hm,hy⟩:=d7Y s l g.subs _ (if QK g.kind then g.name::AD else AD) c a4 c4 (by have e1:((l.length:Nat):Int)=R2 k:=I;rw[S.1, <-c1]at e1;omega) h4 x A hW
     refine⟨y,bz _ (bz _ hm),?_⟩;rcases hy with hy|hy|⟨q,hq1,fq⟩
     ·exact .inl (by rw[oZ];exact .inr hy)
     ·by_cases hQ:QK k
      ·have GZ:QK g.kind:=S.1▸hQ;rw[if_pos GZ]at hy;rcases ce.1 hy with rfl|hy
       ·refine .inr (.inr ⟨n,by rw[hq,if_pos hQ];exact de _ (az ..),de _ ?_⟩);unfold aA at U;rw[if_pos (show QK (O.mk k n w l).kind from hQ)]at U;cases U;exact az ..
       ·exact .inr (.inl hy)
      ·grind
     ·grind
theorem d7Y(s:B1):∀(l gs:List O)(W AD:List J)(ps:List C4),R9 l->R9 gs->l.length=gs.length->N7 s l W gs=some ps->∀x,F5 l W x->x∈s.words->∃y,(⟨46::x,y,zf⟩:C4)∈ps/\(F5 gs AD y\/y∈AD\/∃q∈J6 l,(⟨63::q,y,zf⟩:C4)∈ps)
 | [],gs,W,AD,ps,_,_,_,h,x,A,hW=>by rw[F5]at A;exact A.elim
 |f::l,[],W,AD,ps,_,_,hl,h,x,A,hW=>by simp at hl
 |f::l,g::gs,W,AD,ps,har,M8,hl,h,x,A,hW=>by
  rw[R9]at har M8;rw[N7]at h;rw[F5]at A;rw[J6];obtain⟨a,b,U,X,rfl⟩:=aB h;rcases A with A|A
  ·have⟨y,hm,hy⟩:=d7X s f g W AD a har.1 M8.1 U x A hW;refine⟨y,de _ hm,?_⟩;rcases hy with hy|hy|⟨q,hq1,fq⟩
   ·exact .inl (by rw[F5];exact .inl hy)
   ·exact .inr (.inl hy)
   ·grind
  ·have⟨y,hm,hy⟩:=d7Y s l gs W AD b har.2 M8.2 (by simpa using hl) X x A hW;refine⟨y,bz _ hm,?_⟩;rcases hy with hy|hy|⟨q,hq1,fq⟩
   ·exact .inl (by rw[F5];exact .inr hy)
   ·exact .inr (.inl hy)
   ·grind
end
mutual
theorem p0I:∀(f:O)(yn:List J),∀z∈S5 f yn,∀q∈yn,q∈z.2
 | .mk k n w s,yn,z,hz,q,hq=>by
   rw[S5]at hz;rcases ce.1 hz with rfl|hz
   ·exact hq
   ·refine Yl s _ z hz q ?_;by_cases h:QK k
    ·grind
    ·rw[if_neg h];exact hq
theorem Yl:∀(l:List O)(yn:List J),∀z∈S6 l yn,∀q∈yn,q∈z.2
 | [],yn,z,hz,q,hq=>by rw[S6]at hz;cases hz
 |f::l,yn,z,hz,q,hq=>by rw[S6]at hz;exact(al.1 hz).elim (fun hz=>p0I f yn z hz q hq) fun hz=>Yl l yn z hz q hq
end
mutual
theorem d7Z(s:B1):∀(f g:O)(W yn AD:List J)(ps:List C4),D6 f->D6 g->R3 s f W g=some ps->∀z∈S5 f yn,F6 s z.1->∃h,(⟨43::z.1.name,[],h⟩:C4)∈ps/\∀y,E5 h [] y->E5 g AD y\/y∈AD\/∃q∈z.2,(⟨63::q,y,zf⟩:C4)∈ps
 | .mk k n w l,g,W,yn,AD,ps,har,M8,h,z,hz,lO=>by
   have⟨I,_,_,a4⟩:=(Q6 _).1 har;have⟨c1,_,_,c4⟩:=(Q6 _).1 M8;rw[R3]at h;rw[S5]at hz;by_cases hp:F6 s (.mk k n w l)
   ·have hl:l=[]:=dt.1 (by have U:((l.length:Nat):Int)=R2 k:=I;rw[show k=2 from hp.1.1]at U;have e2:R2 2=0:=rfl;omega);subst hl;rw[S6,ao]at hz;subst hz;rw[if_pos hp]at h;cases h;refine⟨g,az ..,fun y hy=>?_⟩;by_cases hB:y∈AD
    ·exact .inr (.inl hB)
    ·exact .inl (d7U hy hB)
   ·rcases ce.1 hz with rfl|hz
    ·exact absurd lO hp
    rw[if_neg hp]at h;by_cases S:k≠g.kind\/w.length≠g.words.length
    ·rw[if_pos S]at h;cases h
    rw[if_neg S]at h;rw[not_or,dl,dl]at S;obtain⟨a,y0,U,X,rfl⟩:=aB h;obtain⟨b,c,h3,h4,rfl⟩:=aB X;have⟨hf,hm,hy⟩:=d8a s l g.subs _ _ (if QK g.kind then g.name::AD else AD) c a4 c4 (by have e1:((l.length:Nat):Int)=R2 k:=I;rw[S.1, <-c1]at e1;omega) h4 z hz lO
    refine⟨hf,bz _ (bz _ hm),fun y He=>?_⟩;rcases hy y He with hy|hy|⟨q,hq1,fq⟩
    ·exact .inl (by rw[oZ];exact .inr hy)
    ·by_cases hQ:QK k
     ·have GZ:QK g.kind:=S.1▸hQ;rw[if_pos GZ]at hy;rw[if_pos hQ]at hz;rcases ce.1 hy with rfl|hy
      ·refine .inr (.inr ⟨n,Yl l _ z hz n B5,de _ ?_⟩);unfold aA at U;rw[if_pos (show QK (O.mk k n w l).kind from hQ)]at U;cases U;exact az ..
      ·exact .inr (.inl hy)
     ·grind
    ·grind
theorem d8a(s:B1):∀(l gs:List O)(W yn AD:List J)(ps:List C4),R9 l->R9 gs->l.length=gs.length->N7 s l W gs=some ps->∀z∈S6 l yn,F6 s z.1->∃h,(⟨43::z.1.name,[],h⟩:C4)∈ps/\∀y,E5 h [] y->F5 gs AD y\/y∈AD\/∃q∈z.2,(⟨63::q,y,zf⟩:C4)∈ps
 | [],gs,W,yn,AD,ps,_,_,_,h,z,hz,lO=>by rw[S6]at hz;cases hz
 |f::l,[],W,yn,AD,ps,_,_,hl,h,z,hz,lO=>by simp at hl
 |f::l,g::gs,W,yn,AD,ps,har,M8,hl,h,z,hz,lO=>by
  rw[R9]at har M8;rw[N7]at h;rw[S6]at hz;obtain⟨a,b,U,X,rfl⟩:=aB h;rcases al.1 hz with hz|hz
  ·have⟨hf,hm,hy⟩:=d7Z s f g W yn AD a har.1 M8.1 U z hz lO;refine⟨hf,de _ hm,fun y He=>?_⟩;rcases hy y He with hy|hy|⟨q,hq1,fq⟩
   ·exact .inl (by rw[F5];exact .inl hy)
   ·exact .inr (.inl hy)
   ·grind
  ·have⟨hf,hm,hy⟩:=d8a s l gs W yn AD b har.2 M8.2 (by simpa using hl) X z hz lO;refine⟨hf,bz _ hm,fun y He=>?_⟩;rcases hy y He with hy|hy|⟨q,hq1,fq⟩
   ·exact .inl (by rw[F5];exact .inr hy)
   ·exact .inr (.inl hy)
   ·grind
end
mutual
theorem d8b(s:B1)(De:J->J):∀(f g:O)(W:List J)(ps:List C4),D6 f->D6 g->R3 s f W g=some ps->(∀q t m,(⟨63::q,t,m⟩:C4)∈ps->De q=t)->((qs f).map De).Sublist (qs g)
 | .mk k n w l,g,W,ps,har,M8,h,hT=>by
   have⟨I,_,_,a4⟩:=(Q6 _).1 har;have⟨c1,_,_,c4⟩:=(Q6 _).1 M8;have hq:qs (.mk k n w l)=(if QK k then [n]else [])++J6 l:=dH (.mk k n w l)
   rw[R3]at h;by_cases hp:F6 s (.mk k n w l)
   ·have hk2:k=2:=hp.1.1;have hl:l=[]:=dt.1 (by have U:((l.length:Nat):Int)=R2 k:=I;rw[hk2]at U;have e2:R2 2=0:=rfl;omega);subst hl hk2;rw[hq,if_neg D5,J6];exact kp _
   ·rw[if_neg hp]at h;by_cases S:k≠g.kind\/w.length≠g.words.length
    ·rw[if_pos S]at h;cases h
    rw[if_neg S]at h;rw[not_or,dl,dl]at S;obtain⟨a,y0,U,X,rfl⟩:=aB h;obtain⟨b,c,h3,h4,rfl⟩:=aB X;have h5:=d8c s De l g.subs _ c a4 c4 (by have e1:((l.length:Nat):Int)=R2 k:=I;rw[S.1, <-c1]at e1;omega) h4 fun q t m hm=>hT q t m (bz _ (bz _ hm));rw[hq,dH g,cm];refine vz ?_ h5;by_cases hQ:QK k
    ·have GZ:QK g.kind:=S.1▸hQ;rw[if_pos hQ,if_pos GZ];unfold aA at U;rw[if_pos (show QK (O.mk k n w l).kind from hQ)]at U;cases U;have:=hT n g.name zf (de _ (az ..));rw[bv,this];exact IS _
    ·grind
theorem d8c(s:B1)(De:J->J):∀(l gs:List O)(W:List J)(ps:List C4),R9 l->R9 gs->l.length=gs.length->N7 s l W gs=some ps->(∀q t m,(⟨63::q,t,m⟩:C4)∈ps->De q=t)->((J6 l).map De).Sublist (J6 gs)
 | [],gs,W,ps,_,_,_,h,hT=>by rw[J6];exact kp _
 |f::l,[],W,ps,_,_,hl,h,hT=>by simp at hl
 |f::l,g::gs,W,ps,har,M8,hl,h,hT=>by rw[R9]at har M8;rw[N7]at h;obtain⟨a,b,U,X,rfl⟩:=aB h;rw[J6,J6,cm];exact(d8b s De f g W a har.1 M8.1 U fun q t m hm=>hT q t m (de _ hm)).append (d8c s De l gs W b har.2 M8.2 (by simpa using hl) X fun q t m hm=>hT q t m (bz _ hm))
end
mutual
theorem d8d(s:B1):∀(f g:O)(W:List J)(ps:List C4),R3 s f W g=some ps->∀b∈ps,(qs b.form).Sublist (qs g)
 | .mk k n w l,g,W,ps,h,b,H=>by
   rw[R3]at h;by_cases hp:F6 s (.mk k n w l)
   ·grind
   ·rw[if_neg hp]at h;by_cases S:k≠g.kind\/w.length≠g.words.length
    ·rw[if_pos S]at h;cases h
    ·rw[if_neg S]at h;obtain⟨a,y,U,X,rfl⟩:=aB h;obtain⟨x2,y2,h3,h4,rfl⟩:=aB X;rcases al.1 H with H|H
     ·have:b.form=zf:=by
       unfold aA at U;split at U
       ·grind
       ·grind
      rw[this,Mw]
      exact kp _
     ·rcases al.1 H with H|H
      ·rw[GC h3 b H,Mw];exact kp _
      ·rw[dH g];exact(d8e s l g.subs _ y2 h4 b H).trans (l8 _ _)
theorem d8e(s:B1):∀(l gs:List O)(W:List J)(ps:List C4),N7 s l W gs=some ps->∀b∈ps,(qs b.form).Sublist (J6 gs)
 | [],gs,W,ps,h,b,H=>by rw[N7]at h;cases h;cases H
 |f::l,[],W,ps,h,b,H=>by rw[N7]at h;cases h;cases H
 |f::l,g::gs,W,ps,h,b,H=>by
  rw[N7]at h;rw[J6];obtain⟨a,y,U,X,rfl⟩:=aB h;rcases al.1 H with H|H
  ·exact(d8d s f g W a U b H).trans (List.sublist_append_left _ _)
  ·exact(d8e s l gs W y X b H).trans (l8 _ _)
end
theorem d8f{De:J->J}:∀ {l:List J},(l.map De).Nodup->∀a∈l,∀b∈l,De a=De b->a=b
 | [],_,a,ha,_,_,_=>by cases ha
 |x::l,h,a,ha,b,H,e=>by
  rw[bv,ia]at h;rcases ce.1 ha with U|U<;>rcases ce.1 H with X|X
  ·rw[U,X]
  ·grind
  ·grind
  ·exact d8f h.2 a U b X e
theorem Nr{ps:List C4}{e:Env}(h:H9 [] ps=some e){k t:J}{m:O}(hm:(⟨k,t,m⟩:C4)∈ps):E0 e k=t/\C9 e k=m:=by have:=(jG _ _ _ h).1 _ hm;have this:assoc k e=some ⟨k,t,m⟩:=this;unfold E0 C9;rw[this];exact⟨rfl,rfl⟩
structure p0J(s:B1)(g:O)(e:Env):Prop where
 word:∀x∈s.words,E5 g [] (E0 e (46::x))
 inj:∀q∈qs s.form,∀q'∈qs s.form,E0 e (63::q)=E0 e (63::q')->q=q'
 part:∀z∈S5 s.form [],F6 s z.1->∀y,E5 (C9 e (43::z.1.name)) [] y->E5 g [] y\/∃q∈z.2,E0 e (63::q)=y
 sub:∀v∈s.parts,(qs (C9 e (43::v))).Sublist (qs g)
theorem p0K{s:B1}(hs:S4 s){g:O}(hg:D6 g)(hn:(qs g).Nodup){e:Env}(h:mE s g=some e):p0J s g e:=by
 have har:=M1.ar _ hs.form.1;have p0L:¬caught s e:=by have⟨ps,hp,he⟩:=pN h;intro K;unfold mE at h;rw[hp,ax,he]at h;simp only[if_pos K]at h;cases h
 have fY:=Md hs hg h;have⟨ps,hp,he⟩:=pN h;have d8g:∀q t m,(⟨63::q,t,m⟩:C4)∈ps->E0 e (63::q)=t:=fun q t m hm=>(Nr he hm).1;refine⟨fun x A=>?_,fun q hq q' kR ee=>?_,fun z hz lO y hy=>?_,fun v Q=>?_⟩
 ·have⟨y,U,X⟩:=d7X s s.form g [] [] ps har hg hp x (hs.words x A) A;rw[(Nr he U).1];rcases X with X|X|⟨q,hq,X⟩
  ·exact X
  ·cases X
  ·refine absurd ⟨x,A,bj.2 ⟨q,hq,?_⟩⟩ p0L;rw[(Nr he U).1,d8g _ _ _ X]
 ·exact d8f (De:=fun q=>E0 e (63::q)) (l3 (d8b s (fun q=>E0 e (63::q)) s.form g [] ps har hg hp d8g) hn) q hq q' kR ee
 ·have⟨hf,U,X⟩:=d7Z s s.form g [] [] [] ps har hg hp z hz lO;rw[(Nr he U).2]at hy;rcases X y hy with X|X|⟨q,hq,X⟩
  ·exact .inl X
  ·cases X
  ·grind
 ·have⟨b,H⟩:=fY.all (43::v) (by unfold E4;simp[Q]);have hfm:C9 e (43::v)=b.form:=by unfold C9;rw[H];rfl
  rw[hfm];rcases(jG _ _ _ he).2.2 _ _ H with h|⟨b',hb',_,rfl⟩
  ·cases h
  ·exact d8d s s.form g [] ps hp _ hb'
def wM(r:C5)(e:Env)(P:J->O)(vr:J->J)(AM:List (O×List J))(y:J):Prop:=
 (∃x∈r.from_.words,y=E0 e (46::x))\/M0 y\/∃z∈AM,F6 r.from_ z.1/\E5 (P z.1.name) [] y/\∀q∈z.2,vr q≠y
theorem wM.mono{r e P vr AM L' y}(h:wM r e P vr AM y)(hL:∀z∈AM,z∈L'):wM r e P vr L' y:=
 h.imp id fun h=>h.imp id fun⟨z,hz,h⟩=>⟨z,hL z hz,h⟩
mutual
theorem d8h(r:C5)(e:Env)(P:J->O)(vr:J->J):∀(f:O)(W yn AD:List J),M1 f->(∀q∈W,vr q∈AD)->(∀q∈yn,vr q∈AD)->∀y,E5 (inst' r e P vr W f) AD y->wM r e P vr (S5 f yn) y
 | .mk k n w s,W,yn,AD,hw,H,hA,y,h=>by
   rw[inst']at h;rw[S5];by_cases hp:F6 r.from_ (.mk k n w s)
   ·rw[if_pos hp]at h;refine .inr (.inr ⟨_,az ..,hp,d5s _ _ (ae _) AD [] y (fun y hy=>by cases hy) h,fun q hq e=>?_⟩);have:=KA _ _ _ h;exact this (e▸hA q hq)
   ·rw[if_neg hp,E5]at h;have hnm:=(kg ((dR _).1 hw).1).2.2.2.2;rcases h with⟨U,X⟩|h
    ·obtain⟨x,A,rfl⟩:=bj.1 U;by_cases Ym:x∈W
     ·grind
     ·rw[if_neg Ym];by_cases hxw:x∈r.from_.words
      ·rw[if_pos hxw];exact .inl ⟨x,hxw,rfl⟩
      ·rw[if_neg hxw];exact .inr (.inl (hnm x A))
    ·refine wM.mono (d8i r e P vr s _ (if QK k then yn++[n]else yn) _ ((dR _).1 hw).2 ?_ ?_ y h) fun z hz=>aw _ hz
     ·grind
     ·grind
theorem d8i(r:C5)(e:Env)(P:J->O)(vr:J->J):∀(l:List O)(W yn AD:List J),cx l->(∀q∈W,vr q∈AD)->(∀q∈yn,vr q∈AD)->∀y,F5 (Z0 r e P vr W l) AD y->wM r e P vr (S6 l yn) y
 | [],W,yn,AD,hw,H,hA,y,h=>by rw[Z0,F5]at h;exact h.elim
 |f::l,W,yn,AD,hw,H,hA,y,h=>by
  rw[cx]at hw;rw[Z0,F5]at h;rw[S6];rcases h with h|h
  ·exact wM.mono (d8h r e P vr f W yn AD hw.1 H hA y h) fun z hz=>de _ hz
  ·exact wM.mono (d8i r e P vr l W yn AD hw.2 H hA y h) fun z hz=>bz _ hz
end
theorem d8j{B':O->Nat->O}{AD:List J}{y:J}:∀(l:List O)(p:Nat),F5 (E6 B' l p) AD y->∃x∈l,∃q,E5 (B' x q) AD y
 | [],p,h=>by rw[E6,F5]at h;exact h.elim
 |x::l,p,h=>by
  rw[E6,F5]at h;rcases h with h|h
  ·grind
  ·have⟨x',U,q,X⟩:=d8j l _ h;exact⟨x',aw _ U,q,X⟩
theorem d8k:∀ {l:List O} {x:O},x∈l->(qs x).Sublist (J6 l)
 |f::l,x,h=>by
  rw[J6];rcases ce.1 h with rfl|h
  ·grind
  ·exact(d8k h).trans (l8 _ _)
theorem Yn{B:List C5}(hr:dX B)(hu:∀r∈B,¬nh r)(ν:Nat->J->J):∀(d:Nat)(f:O)(a:Nat),D6 f->(qs f).Nodup->∀y,E5 (TT B ν d f a) [] y->E5 f [] y\/M0 y
 |0,f,a,_,_,y,h=>by rw[TT]at h;exact .inl h
 |d+1,f,a,har,hn,y,h=>by
  rw[TT]at h;cases hm:au B 0 f with
  |none=>
   rw[hm]at h;have h:E5 (.mk f.kind f.name f.words (E6 (TT B ν d) f.subs (a+1))) [] y:=h;rw[E5]at h;rw[oZ];rcases h with h|h
   ·exact .inl (.inl h)
   ·have⟨x,A,q,U⟩:=d8j _ _ h;have hsl:(qs x).Sublist (qs f):=by rw[dH f];exact(d8k A).trans (l8 _ _)
    rcases Yn hr hu ν d x q (mS ((Q6 f).1 har).2.2.2 x A) (l3 hsl hn) y (d5s _ _ (ae _) _ [] y (fun y hy=>by cases hy) U)with X|X
    ·exact .inl (.inr ((d7V _ _ _).2 ⟨x,A,d7U X (KA _ _ _ U)⟩))
    ·exact .inr X
  |some z=>
   have⟨k,r,e⟩:=z;rw[hm]at h;have h:E5 (inst' r e (fun v=>TT B ν d (C9 e (43::v)) (W5 r f a v)) (N5 ν r e a) [] r.B4) [] y:=h;have⟨kD,gI,_⟩:=ru B 0 hm;have Z1:=hr r kD;have hM:=p0K Z1.good har hn gI;rcases d8h r e _ _ r.B4 [] [] [] Z1.to.1 (fun q hq=>by cases hq) (fun q hq=>by cases hq) y h with⟨x,A,rfl⟩|h|⟨z,hz,lO,U,X⟩
   ·exact .inl (hM.word x A)
   ·exact .inr h
   ·have Q:z.1.name∈r.from_.parts:=lO.2;rcases Yn hr hu ν d _ _ (mW Z1 har gI _ Q).1 (l3 (hM.sub _ Q) hn) y U with h3|h3
    ·refine cp fun hno=>?_;rw[not_or]at hno;have⟨_,g0,yx,b1,b2,b3⟩:=Z1.good.parts _ Q;rw[<-Nc r.from_.form []]at yx;obtain⟨z0,hz0,rfl⟩:=bj.1 yx;have Ns:F6 r.from_ z0.1:=⟨⟨b1,b3⟩,by rw[b2];exact Q⟩;have key:∀z'∈S5 r.from_.form [],mZ r.from_ z.1.name z'->∃q∈z'.2,q∈qs r.from_.form/\E0 e (63::q)=y:=fun z' hz' ⟨c1,c2⟩=>by
      rcases hM.part z' hz' c1 y (by rw[c2];exact h3)with h4|⟨q,hq,h4⟩
      ·exact absurd h4 hno.1
      ·exact⟨q,hq,(XT _ _ z' hz' q hq).resolve_left (fun h=>by cases h),h4⟩
     have⟨q0,kS,Yo,e0⟩:=key z0 hz0 ⟨Ns,b2⟩;have hall:∀z'∈S5 r.from_.form [],mZ r.from_ z.1.name z'->q0∈z'.2:=fun z' hz' hh=>by have⟨q,hq,wB,e1⟩:=key z' hz' hh;rw[hM.inj q0 Yo q wB (e0.trans e1.symm)];exact hq
     by_cases hin:q0∈z.2
     ·refine X q0 hin ?_;unfold N5;rw[if_pos Yo];exact e0
     ·exact hu r kD ⟨z,hz,q0,Yo,hin,.inr ⟨lO,hall⟩⟩
    ·exact .inr h3
mutual
def bX(BB:J->Prop):O->Prop
 | .mk k n w s=>(∀x∈w,BB x)/\(QK k->BB n)/\eX BB s
def eX(BB:J->Prop):List O->Prop
 | []=>True
 |f::l=>bX BB f/\eX BB l
end
section
variable {BB:J->Prop}
theorem d8l(f:O):bX BB f↔(∀x∈f.words,BB x)/\(QK f.kind->BB f.name)/\eX BB f.subs:=by cases f;rw[bX];rfl
theorem d8m:∀ {l:List O},eX BB l->∀x∈l,bX BB x
 |f::l,h,x,A=>by
  rw[eX]at h;rcases ce.1 A with rfl|A
  ·exact h.1
  ·exact d8m h.2 x A
theorem Nu:bX BB zf:=by show bX BB (O.mk 0 [] [] []);rw[bX,eX];exact⟨fun x A=>(by cases A),fun h=>absurd h D5,trivial⟩
mutual
theorem bX.nm(hW:∀x,BB x->pR x):∀f:O,bX BB f->tg f
 | .mk k n w s,h=>by rw[bX]at h;rw[tg];exact⟨fun x A=>hW x (h.1 x A),eX.nm hW s h.2.2⟩
theorem eX.nm(hW:∀x,BB x->pR x):∀l:List O,eX BB l->tj l
 | [],_=>by rw[tj];trivial
 |f::l,h=>by rw[eX]at h;rw[tj];exact⟨bX.nm hW f h.1,eX.nm hW l h.2⟩
end
def Nv(BB:J->Prop)(b:C4):Prop:=(b.name.head? =some 46\/b.name.head? =some 63->BB b.text)/\bX BB b.form
theorem Nw{si W:List J}:∀ {ws ys:List J} {ps:List C4},(∀y∈ys,BB y)->J8 si W ws ys=some ps->∀b∈ps,Nv BB b
 | [],ys,ps,hy,h,b,H=>by cases ys<;>(rw[J8]at h;cases h;cases H)<;>simp
 |x::ws,[],ps,hy,h,b,H=>by rw[J8]at h;cases h;cases H;simp
 |x::ws,y::ys,ps,hy,h,b,H=>by
  have hy0:=hy y (az ..);have hys:∀y∈ys,BB y:=fun z hz=>hy z (aw _ hz);rw[J8]at h;by_cases U:x∈W
  ·rw[if_pos U]at h;cases hp:J8 si W ws ys with
   |none=>rw[hp]at h;cases h
   |some l=>
    rw[hp]at h;cases h;rcases ce.1 H with rfl|H
    ·exact⟨fun _=>hy0,Nu⟩
    ·exact Nw hys hp b H
  ·rw[if_neg U]at h;by_cases X:x∈si
   ·rw[if_pos X]at h;cases hp:J8 si W ws ys with
    |none=>rw[hp]at h;cases h
    |some l=>
     rw[hp]at h;cases h;rcases ce.1 H with rfl|H
     ·exact⟨fun _=>hy0,Nu⟩
     ·exact Nw hys hp b H
   ·rw[if_neg X]at h;by_cases h3:x=y
    ·rw[if_pos h3]at h;exact Nw hys h b H
    ·rw[if_neg h3]at h;cases h
mutual
theorem d8n(s:B1):∀(f g:O)(W:List J)(ps:List C4),bX BB g->R3 s f W g=some ps->∀b∈ps,Nv BB b
 | .mk k n w l,g,W,ps,hg,h,b,H=>by
   rw[R3]at h;have⟨g1,g2,g3⟩:=(d8l g).1 hg;by_cases hp:F6 s (.mk k n w l)
   ·rw[if_pos hp]at h;cases h;rw[ao]at H;subst H;exact⟨fun h=>by simp at h,hg⟩
   ·rw[if_neg hp]at h;by_cases S:k≠g.kind\/w.length≠g.words.length
    ·rw[if_pos S]at h;cases h
    ·rw[if_neg S]at h;rw[not_or,dl,dl]at S;obtain⟨a,y,U,X,rfl⟩:=aB h;obtain⟨x2,y2,h3,h4,rfl⟩:=aB X;rcases al.1 H with H|H
     ·unfold aA at U;split at U
      ·rename_i hq;have hq:QK k:=hq;cases U;rw[ao.1 H];exact⟨fun _=>g2 (S.1▸hq),Nu⟩
      ·split at U
       ·cases U;rw[ao.1 H];exact⟨fun h=>by simp at h,Nu⟩
       ·grind
     ·rcases al.1 H with H|H
      ·exact Nw g1 h3 b H
      ·exact d8o s l g.subs _ y2 g3 h4 b H
theorem d8o(s:B1):∀(l gs:List O)(W:List J)(ps:List C4),eX BB gs->N7 s l W gs=some ps->∀b∈ps,Nv BB b
 | [],gs,W,ps,_,h,b,H=>by rw[N7]at h;cases h;cases H
 |f::l,[],W,ps,_,h,b,H=>by rw[N7]at h;cases h;cases H
 |f::l,g::gs,W,ps,hg,h,b,H=>by
  rw[N7]at h;rw[eX]at hg;obtain⟨a,y,U,X,rfl⟩:=aB h;rcases al.1 H with H|H
  ·exact d8n s f g W a hg.1 U b H
  ·exact d8o s l gs W y hg.2 X b H
end
theorem p0M{s:B1}(hs:S4 s){g:O}(hg:D6 g)(hw:bX BB g){e:Env}(h:mE s g=some e):(∀x∈s.words,BB (E0 e (46::x)))/\(∀x∈qs s.form,BB (E0 e (63::x)))/\∀v∈s.parts,bX BB (C9 e (43::v)):=by
 have fY:=Md hs hg h;have⟨ps,hp,he⟩:=pN h;have key:∀k∈E4 s,∃b,Nv BB b/\b.name=k/\E0 e k=b.text/\C9 e k=b.form:=fun k S=>by
  have⟨b,H⟩:=fY.all k S;refine⟨b,?_,fY.nm _ _ H,by unfold E0;rw[H];rfl,by unfold C9;rw[H];rfl⟩;rcases(jG _ _ _ he).2.2 _ _ H with h|⟨b',hb',_,rfl⟩
  ·cases h
  ·exact d8n s s.form g [] ps hw hp _ hb'
 refine⟨fun x A=>?_,fun x A=>?_,fun v Q=>?_⟩
 ·have⟨b,U,X,h3,_⟩:=key (46::x) (by unfold E4;simp[A]);rw[h3];exact U.1 (by rw[X];simp)
 ·have⟨b,U,X,h3,_⟩:=key (63::x) (by unfold E4;simp[A]);rw[h3];exact U.1 (by rw[X];simp)
 ·have⟨b,U,_,_,h4⟩:=key (43::v) (by unfold E4;simp[Q]);rw[h4];exact U.2
mutual
theorem d8p(r:C5)(e:Env)(P:J->O)(vr:J->J)(hP:∀v∈r.from_.parts,bX BB (P v))(A:∀x∈r.from_.words,BB (E0 e (46::x)))(hn:∀x,M0 x->BB x):∀(f:O)(W:List J),M1 f->(∀q,q∈W\/q∈qs f->BB (vr q))->bX BB (inst' r e P vr W f)
 | .mk k n w s,W,hw,Q=>by
   have hq:qs (.mk k n w s)=(if QK k then [n]else [])++J6 s:=dH (.mk k n w s)
   rw[hq]at Q;rw[inst'];by_cases hp:F6 r.from_ (.mk k n w s)
   ·rw[if_pos hp];exact hP n hp.2
   ·rw[if_neg hp,bX];have hnm:=(kg ((dR _).1 hw).1).2.2.2.2;refine⟨fun y hy=>?_,fun S=>?_,d8q r e P vr hP A hn s _ ((dR _).1 hw).2 fun q h=>Q q ?_⟩
    ·obtain⟨x,hxw,rfl⟩:=bj.1 hy;by_cases Ym:x∈W
     ·grind
     ·rw[if_neg Ym];by_cases hxr:x∈r.from_.words
      ·grind
      ·simp_all
    ·grind
    ·grind
theorem d8q(r:C5)(e:Env)(P:J->O)(vr:J->J)(hP:∀v∈r.from_.parts,bX BB (P v))(A:∀x∈r.from_.words,BB (E0 e (46::x)))(hn:∀x,M0 x->BB x):∀(l:List O)(W:List J),cx l->(∀q,q∈W\/q∈J6 l->BB (vr q))->eX BB (Z0 r e P vr W l)
 | [],W,_,_=>by rw[Z0,eX];trivial
 |f::l,W,hw,Q=>by rw[cx]at hw;rw[J6]at Q;rw[Z0,eX];exact⟨d8p r e P vr hP A hn f W hw.1 fun q h=>Q q (h.imp id fun h=>de _ h),d8q r e P vr hP A hn l W hw.2 fun q h=>Q q (h.imp id fun h=>bz _ h)⟩
end
theorem d8r{B':O->Nat->O}:∀(l:List O)(p:Nat),(∀x∈l,∀q,bX BB (B' x q))->eX BB (E6 B' l p)
 | [],_,_=>by rw[E6,eX];trivial
 |x::l,p,h=>by rw[E6,eX];exact⟨h x (az ..) p,d8r l _ fun y hy=>h y (aw _ hy)⟩
theorem Yp{B:List C5}(hr:dX B)(hn:∀x,M0 x->BB x){ν:Nat->J->J}(hν:∀r∈B,∀a,∀x∈qs r.B4,BB (ν a x)):∀(d:Nat)(f:O)(a:Nat),D6 f->bX BB f->bX BB (TT B ν d f a)
 |0,f,a,_,h=>by rw[TT];exact h
 |d+1,f,a,har,h=>by
  rw[TT];cases hm:au B 0 f with
  |none=>show bX BB (.mk f.kind f.name f.words (E6 (TT B ν d) f.subs (a+1)));have⟨U,X,h3⟩:=(d8l f).1 h;rw[bX];exact⟨U,X,d8r _ _ fun x A q=>Yp hr hn hν d x q (mS ((Q6 f).1 har).2.2.2 x A) (d8m h3 x A)⟩
  |some z=>
   have⟨k,r,e⟩:=z;show bX BB (inst' r e (fun v=>TT B ν d (C9 e (43::v)) (W5 r f a v)) (N5 ν r e a) [] r.B4);have⟨kD,gI,_⟩:=ru B 0 hm;have Z1:=hr r kD;have⟨m1,m2,m3⟩:=p0M Z1.good har h gI;refine d8p r e _ _ (fun v Q=>Yp hr hn hν d _ _ (mW Z1 har gI v Q).1 (m3 v Q)) m1 hn r.B4 [] Z1.to.1 fun q hq=>?_;unfold N5;by_cases sV:q∈qs r.from_.form
   ·grind
   ·grind
theorem p0N(env:List (J×J))(w:J):sub env w=w\/∃p∈env,sub env w=p.2:=by
 by_cases h:w∈env.map (·.1)
 ·exact .inr (d4X h)
 ·exact .inl (Sv fun p hp e=>h (bj.2 ⟨p,hp,e⟩))
mutual
theorem d8s(hn:∀x,M0 x->BB x)(h8:∀a,BB (fJ a)):∀(f:O) (env:List (J×J)) (a:Nat),M1 f->(∀p∈env,BB p.2)->bX BB (bg f env a)
 | .mk k n w s,env,a,hw,he=>by
   rw[bg,bX];have hnm:=(kg ((dR _).1 hw).1).2.2.2.2;refine⟨fun y hy=>?_,fun S=>by rw[if_pos S];exact h8 a,d8t hn h8 s _ _ ((dR _).1 hw).2 fun p hp=>?_⟩
   ·obtain⟨x,A,rfl⟩:=bj.1 hy;rcases p0N env x with e|⟨p,hp,e⟩
    ·rw[e];exact hn x (hnm x A)
    ·rw[e];exact he p hp
   ·grind
theorem d8t(hn:∀x,M0 x->BB x)(h8:∀a,BB (fJ a)):∀(l:List O) (env:List (J×J)) (a:Nat),cx l->(∀p∈env,BB p.2)->eX BB (dY l env a)
 | [],env,a,_,_=>by rw[dY,eX];trivial
 |f::l,env,a,hw,he=>by rw[cx]at hw;rw[dY,eX];exact⟨d8s hn h8 f env a hw.1 he,d8t hn h8 l env _ hw.2 he⟩
end
end
theorem d8u{x:J}(h:M0 x):pR x:=fun m e=>by subst e;have:=h.2.2.1.1;simp[P0,mk]at this
theorem p0O(hr:dX B){f:O}(h:Y0 f)(d:Nat)(har:D6 (bg f [] 0)):tg (TT B F3 d (bg f [] 0) 0):=by
 refine bX.nm (fun x A=>A) _ (Yp (BB:=pR) hr (fun x A=>d8u A) (fun r kD a x A m e=>?_) d _ 0 har (d8s (fun x A=>d8u A) (fun a m e=>?_) f [] 0 h.1 fun p hp=>by cases hp))
 ·rw[Dj]at e;unfold mk at e;exact absurd (en e).1 D5
 ·unfold fJ O1 mk at e;exact absurd (en e).1 D5
open Go.Sort (SWO)
def p0P(l:List C6)(i k:Nat):Prop:=(∀p q,p<q->q<=i->p≠k->q≠k->(Am.get l p).at_<=(Am.get l q).at_)/\∀q,k<q->q<=i->(Am.get l k).at_<=(Am.get l q).at_
def Dq(l:List C6)(i:Nat):Prop:=∀p q,p<q->q<i->(Am.get l p).at_<=(Am.get l q).at_
theorem Nx{α:Type}[Inhabited α]{l:List α}{j:Nat}(h:j<l.length):Am.get l j=l[j]:=by unfold Am.get;rw[ac,b7 h];rfl
theorem p0Q(hL:AM.length<=1000000){i:Nat}(u:i<AM.length){l0:List C6}(Ns:l0.Perm AM)(hs0:Dq l0 i):Z (fun n=>D9 Hf n (l0,(i:Int))) (L2 (fun t:List C6=>t.Perm AM/\Dq t (i+1)) (fun _:C1 (O×List C6×Bool) (List C6×Int) (List C6)=>False)):=by
 refine Z.loop (body:=fun _=>Hf) (fun s=>s.2.toNat) (fun s=>∃k:Nat,s.2=(k:Int)/\k<=i/\s.1.Perm AM/\p0P s.1 i k) _ _ ⟨i,rfl,ae _,Ns,fun p q U X h3 h4=>hs0 p q U M,fun q U X=>by omega⟩ fun s hs=>?_;have⟨l,z⟩:=s;have⟨k,hz,S,hp,U,X⟩:=hs;have hz:z=(k:Int):=hz;subst hz;have hp:l.Perm AM:=hp;have hlen:=hp.length_eq;unfold Hf;simp only;by_cases h0:k=0
 ·subst h0;have e1:(wr .i64 (((0:Nat):Int)-1)).toNat=0:=rfl;refine Z.w6 ⟨by simp[L1],by simp[L1]⟩ (Z.w6 (by simp;omega) (Z.w6 ⟨by simp[L1],by simp[L1]⟩ (Z.w6 (by rw[e1];omega) ?_)));refine Z.cond (fun e=>by simp at e) (fun _=>Z.pure ⟨hp,fun p q hpq hq=>?_⟩);have U:∀p q,p<q->q<=i->p≠0->q≠0->(Am.get l p).at_<=(Am.get l q).at_:=U;have X:∀q,0<q->q<=i->(Am.get l 0).at_<=(Am.get l q).at_:=X;by_cases Ns:p=0
  ·grind
  ·grind
 ·have hw:wr .i64 ((k:Int)-1)=((k-1:Nat):Int):=by rw[F9 M M];omega
  rw[hw];simp only[ai];have hkl:k<l.length:=by omega
  have hd:decide (0<(k:Int))=true:=decide_eq_true M;refine Z.w6 ⟨fun _=>by omega,fun _=>by omega⟩ (Z.w6 hkl (Z.w6 ⟨fun _=>by omega,fun _=>by omega⟩ (Z.w6 M ?_)));rw[hd,cond_true];have U:∀p q,p<q->q<=i->p≠k->q≠k->(Am.get l p).at_<=(Am.get l q).at_:=U;have X:∀q,k<q->q<=i->(Am.get l k).at_<=(Am.get l q).at_:=X;refine Z.cond (fun e=>Z.w6 ⟨by omega,by omega⟩ (Z.w6 ⟨by omega,by omega⟩ (Z.B9 (Z.B9 (Z.pure ⟨⟨k-1,rfl,by omega,?_,?_,?_⟩,?_⟩))))) (fun e=>Z.pure ⟨hp,fun p q hpq hq=>?_⟩)
  ·show((l.set k (Am.get l (k-1))).set (k-1) (Am.get l k)).Perm AM;rw[Nx hkl,Nx (l:=l) (j:=k-1) M];exact(List.set_set_perm hkl M).trans hp
  ·have e:(Am.get l k).at_<(Am.get l (k-1)).at_:=of_decide_eq_true e;show ∀p q,p<q->q<=i->p≠k-1->q≠k-1->(Am.get ((l.set k (Am.get l (k-1))).set (k-1) (Am.get l k)) p).at_<=(Am.get ((l.set k (Am.get l (k-1))).set (k-1) (Am.get l k)) q).at_;intro p q hpq hq hpk dW;rw[kC hpk,kC dW];by_cases ep:p=k
   ·subst ep;rw[get_set_same hkl,kC M];exact U (p-1) q M hq M M
   ·rw[kC ep];by_cases eq:q=k
    ·subst eq;rw[get_set_same hkl];exact U p (q-1) M M M M
    ·rw[kC eq];exact U p q hpq hq ep eq
  ·have e:(Am.get l k).at_<(Am.get l (k-1)).at_:=of_decide_eq_true e;show ∀q,k-1<q->q<=i->(Am.get ((l.set k (Am.get l (k-1))).set (k-1) (Am.get l k)) (k-1)).at_<=(Am.get ((l.set k (Am.get l (k-1))).set (k-1) (Am.get l k)) q).at_;intro q Ms hq;rw[get_set_same (by rw[mm];omega),kC M];by_cases eq:q=k
   ·subst eq;rw[get_set_same hkl];omega
   ·rw[kC eq];exact X q M hq
  ·grind
  ·have e:¬(Am.get l k).at_<(Am.get l (k-1)).at_:=of_decide_eq_false e;by_cases ep:p=k
   ·grind
   ·by_cases eq:q=k
    ·subst eq;by_cases e3:p=q-1
     ·subst e3;omega
     ·have:=U p (q-1) M M M M;omega
    ·grind
theorem p0R{AM:List C6}(hL:AM.length<=1000000):Z (fun n=>D9 (Hg n) n (AM,0)) (L2 (fun t:List C6=>t.Perm AM/\Dq t AM.length) (fun _:O×List C6×Bool=>False)):=by
 refine Z.R5 AM.length (fun i (s:List C6×Int)=>s.2=(i:Int)/\s.1.Perm AM/\Dq s.1 i) _ _ ⟨rfl,.refl _,fun p q U X=>by omega⟩ (fun i s u hs=>?_) (fun s hs=>?_)
 ·have⟨l,z⟩:=s;have⟨U,X,h3⟩:=hs;have U:z=(i:Int):=U;subst U;have X:l.Perm AM:=X;have hlen:=X.length_eq;unfold Hg;refine Z.cond (fun _=>?_) (fun e=>by have e:¬(i:Int)<(l.length:Int):=of_decide_eq_false e;omega);refine Z.B3 (p0Q hL u X h3) (fun t F=>?_) nofun;unfold Yq;refine Z.pure ⟨?_,F.1,F.2⟩;show wr .i64 ((i:Int)+1)=_;rw[F9 M M];rfl
 ·have⟨l,z⟩:=s;have⟨U,X,h3⟩:=hs;have U:z=(AM.length:Int):=U;subst U;have X:l.Perm AM:=X;have hlen:=X.length_eq;unfold Hg;exact Z.cond (fun e=>by have e:(AM.length:Int)<(l.length:Int):=of_decide_eq_true e;omega) (fun _=>Z.pure ⟨X,h3⟩)
theorem p0S:SWO (Bm gu) where
 irrefl x:=decide_eq_false (by unfold gu;omega)
 trans x y z h k:=decide_eq_true (by have h:=of_decide_eq_true h;have k:=of_decide_eq_true k;unfold gu at *; omega)
 ntrans x y z h k:=decide_eq_false (by have h:=of_decide_eq_false h;have k:=of_decide_eq_false k;unfold gu at *; omega)
def Ny(l:List C6):Prop:=l.Pairwise fun a b=>¬gu b a<0
theorem p0T{l:List C6}(h:Dq l l.length):Ny l:=by unfold Ny;rw[List.pairwise_iff_getElem];intro i j u L hij;have:=h i j hij L;rw[Nx u,Nx L]at this;unfold gu;omega
theorem d8v:∀(l m:List C6),Ny l->Ny m->(l.map (·.at_)).Nodup->l.Perm m->l=m
 | [],m,_,_,_,h=>(List.nil_perm.1 h).symm
 |a::l,[],_,_,_,h=>absurd (h.length_eq) B5
 |a::l,b::m,U,X,hn,h=>by
  have⟨p1,p2⟩:=lw.1 U;have⟨q1,q2⟩:=lw.1 X;rw[bv,ia]at hn;have e:a=b:=by
   rcases ce.1 (h.mem_iff.1 (az ..))with e|ha'
   ·exact e
   ·rcases ce.1 (h.symm.mem_iff.1 (az ..))with e|hb'
    ·exact e.symm
    ·have c1:=q1 a ha';have c2:=p1 b hb';unfold gu at c1 c2;exact absurd (bj.2 ⟨b,hb',(by omega:b.at_=a.at_)⟩) hn.1
  subst e;rw[d8v l m p2 q2 hn.2 (List.Perm.cons_inv h)]
theorem p0U{yb t:List C6}(hp:AM.Perm yb)(hn:(yb.map (·.at_)).Nodup)(U:t.Perm AM)(X:Dq t AM.length):t=cw gu yb:=by refine d8v _ _ (p0T (by rw[U.length_eq];exact X)) (JT p0S yb) ?_ ((U.trans hp).trans (oV gu yb).symm);exact(((U.trans hp).map (·.at_)).nodup_iff).2 hn
end Go.Proofs.YtchbmngmmdeenaaGreatDoor
namespace Go.Proofs.YtchbmngmmdeenaaGreatDoor
open Go Go.Am
variable {B:List C5}
theorem d8w:∀(m:Nat)(f:O),am f<=m->D6 f->∀(ar:List J)(l:List IT),l.length+w9 f<=100000->ar.length+w9 f<=100000->
 Z (fun n=>pA n f ar l) (fun r=>r=l++D4 f ar l.length):=by
 intro m
 induction m with
 |zero=>exact z0
 |succ m ih=>
  intro f hf hwf ar l hl ha;have hnd:=Y8 f;have dU:=((Q6 _).1 hwf).2.1;refine Z.succ ?_;simp only[pA];refine Z.B3 (P:=L2 (fun t=>t=f.words.map fun x=>decide (x∈ar)) (fun _=>False)) ?_ (fun t F=>?_) nofun
  ·refine KG f ar dU M (fun n=>KI n f ar) (fun s=>KJ ar s f) (fun n s=>rfl) (fun s hs0 aK=>?_);refine KF ar (Am.get f.words s.2.toNat) _ (fun s2=>L1 (!s2.1) (0<=s2.2)/\L1 (!s2.1) (s2.2<(ar.length:Int))) (fun s2=>L1 (!s2.1) (0<=s.2)/\L1 (!s2.1) (s.2<(f.words.length:Int))) (fun s2=>rfl) (fun s2 U X=>⟨fun _=>U,fun _=>X⟩) (fun _=>⟨fun _=>hs0,fun _=>aK⟩) M
  ·have F:t=_:=F;subst F;unfold KL;refine Z.B9 (Z.w6 ?_ ?_)
   ·rw[Y7];simp only[aa,an,cz];omega
   have key:∀P2:List J,P2=(if QK f.kind then f.name::ar else ar)->Z (fun n=>vN (pA n) n f (l++[⟨f.kind,f.name,f.words,f.words.map fun x=>decide (x∈ar),0⟩]) l P2) (fun r=>r=l++D4 f ar l.length):=by
    intro P2 har;have hal:P2.length<=ar.length+1:=by rw[har];split<;>simp
    unfold vN;have hsl2:=((Q6 _).1 hwf).2.2.1;refine Z.B3 (Z.R5 f.subs.length (fun k s=>s=((l++[⟨f.kind,f.name,f.words,f.words.map fun x=>decide (x∈ar),0⟩])++O9 (f.subs.take k) P2 (l.length+1),(k:Int))) (fun t=>t=(l++[⟨f.kind,f.name,f.words,f.words.map fun x=>decide (x∈ar),0⟩])++O9 f.subs P2 (l.length+1)) (fun _=>False) (by simp[O9]) (fun k s S hs=>?_) (fun s hs=>?_)) (fun t F=>?_) nofun
    ·subst hs;unfold BT;have hsz:=W3 S;have F:=eO S;have hrl:=qX (f.subs.take k) P2 (l.length+1);refine Z.cond (fun _=>Z.w6 (by simp;omega) (Z.bind (ih _ (by simp only[ai];omega) (hY hwf (by simpa using S)) P2 _ ?_ ?_) fun v Q=>Z.pure ?_)) ab
     ·grind
     ·grind
     ·subst Q;show(_,_)=(_,_);rw[F9 M M,H8 S,Fm,ai,bl];simp only[aa,an,cz,hrl];rfl
    ·subst hs;unfold BT;refine Z.cond ab (fun _=>Z.pure ?_);show _++O9 (f.subs.take f.subs.length) P2 _=_;rw[cj]
    ·have F:t=_:=F;subst F;unfold KM;refine Z.w6 (by simp only[aa,an,cz];omega) (Z.B9 (Z.pure ?_));have⟨U,X⟩:=KH l (⟨f.kind,f.name,f.words,f.words.map fun x=>decide (x∈ar),0⟩:IT) ⟨f.kind,f.name,f.words,f.words.map fun x=>decide (x∈ar),((l.length+w9 f:Nat):Int)⟩ (O9 f.subs P2 (l.length+1));rw[X,yP, <-har, <-U];congr 2;simp only[aa,an,cz,qX];omega
   refine Z.cond (fun e=>?_) (fun e=>key ar ?_)
   ·have hq:QK f.kind:=by
     unfold QK;by_cases h8:f.kind=8
     ·exact .inl h8
     ·simpa[h8]using e
    refine Z.B3 (qW ar (KN ar) (fun s=>rfl) [f.name] (by simp;omega)) (fun t F=>?_) nofun
    have F:t=_:=F
    subst F
    exact key _ (by rw[if_pos hq];rfl)
   ·rw[if_neg];unfold QK;by_cases h8:f.kind=8
    ·simp[h8]at e
    ·simpa[h8]using e
theorem p0V{f:O}(hwf:D6 f)(ar:List J)(hl:w9 f<=50000)(ha:ar.length<=50000):Z (fun n=>kl n f ar) (fun r=>r=D4 f ar 0):=by
 have h:=(d8w _ f (ae _) hwf ar [] (by simp;omega) M).mono (P':=fun r=>r=D4 f ar 0) fun r hr=>by simpa using hr
 have hnd:=Y8 f;have dU:=((Q6 _).1 hwf).2.1;unfold kl;refine Z.B3 (P:=L2 (fun t=>t=f.words.map fun x=>decide (x∈ar)) (fun _=>False)) ?_ (fun t F=>?_) nofun
 ·refine KG f ar dU M (fun n=>KO n f ar) (fun s=>KP ar s f) (fun n s=>rfl) (fun s hs0 aK=>?_);refine KF ar (Am.get f.words s.2.toNat) _ (fun s2=>L1 (!s2.1) (0<=s2.2)/\L1 (!s2.1) (s2.2<(ar.length:Int))) (fun s2=>L1 (!s2.1) (0<=s.2)/\L1 (!s2.1) (s.2<(f.words.length:Int))) (fun s2=>rfl) (fun s2 U X=>⟨fun _=>U,fun _=>X⟩) (fun _=>⟨fun _=>hs0,fun _=>aK⟩) M
 ·have F:t=_:=F;subst F;unfold KQ;refine Z.B9 (Z.w6 (by simp[Y7]) ?_);have key:∀P2:List J,P2=(if QK f.kind then f.name::ar else ar)->Z (fun n=>vP n f [⟨f.kind,f.name,f.words,f.words.map fun x=>decide (x∈ar),0⟩] P2) (fun r=>r=D4 f ar 0):=by
   intro P2 har;have hal:P2.length<=ar.length+1:=by rw[har];split<;>simp
   unfold vP;have hsl2:=((Q6 _).1 hwf).2.2.1;refine Z.B3 (Z.R5 f.subs.length (fun k s=>s=([⟨f.kind,f.name,f.words,f.words.map fun x=>decide (x∈ar),0⟩]++O9 (f.subs.take k) P2 1,(k:Int))) (fun t=>t=[⟨f.kind,f.name,f.words,f.words.map fun x=>decide (x∈ar),0⟩]++O9 f.subs P2 1) (fun _=>False) (by simp[O9]) (fun k s S hs=>?_) (fun s hs=>?_)) (fun t F=>?_) nofun
   ·subst hs;unfold BU;have F:=eO S;have hrl:=qX (f.subs.take k) P2 1;refine Z.cond (fun _=>Z.w6 (by simp;omega) (Z.bind (d8w _ _ (ae _) (hY hwf (by simpa using S)) P2 _ ?_ ?_) fun v Q=>Z.pure ?_)) ab
    ·grind
    ·grind
    ·subst Q;show(_,_)=(_,_);rw[F9 M M,H8 S,Fm,ai,bl];simp only[aa,an,cz,hrl];rfl
   ·subst hs;unfold BU;refine Z.cond ab (fun _=>Z.pure ?_);show _++O9 (f.subs.take f.subs.length) P2 _=_;rw[cj]
   ·have F:t=_:=F;subst F;unfold KR;refine Z.w6 (by simp only[aa,an,cz];omega) (Z.B9 (Z.pure ?_));have⟨U,X⟩:=KH [] (⟨f.kind,f.name,f.words,f.words.map fun x=>decide (x∈ar),0⟩:IT) ⟨f.kind,f.name,f.words,f.words.map fun x=>decide (x∈ar),((0+w9 f:Nat):Int)⟩ (O9 f.subs P2 1);simp only[fw,cz]at U X;rw[X,yP, <-har, <-U];congr 2;simp only[aa,an,cz,qX];omega
  refine Z.cond (fun e=>?_) (fun e=>key ar ?_)
  ·have hq:QK f.kind:=by
    unfold QK;by_cases h8:f.kind=8
    ·exact .inl h8
    ·simpa[h8]using e
   refine Z.B3 (qW ar (KS ar) (fun s=>rfl) [f.name] (by simp;omega)) (fun t F=>?_) nofun
   have F:t=_:=F
   subst F
   exact key _ (by rw[if_pos hq];rfl)
  ·rw[if_neg];unfold QK;by_cases h8:f.kind=8
   ·simp[h8]at e
   ·simpa[h8]using e
mutual
theorem d8x(N:Nat->J):∀(f:O) (env:List (J×J)) (i:Nat),qs (F8 N f env i)=(fi i (nq f)).map N
 | .mk k n w s,env,i=>by
   have hn:nq (.mk k n w s)=(if QK k then 1 else 0)+K2 s:=by rw[nq]
   rw[F8,hn,CS,cm];have hq:∀(n':J)(w':List J)(s':List O),qs (.mk k n' w' s')=(if QK k then [n']else [])++J6 s':=fun n' w' s'=>dH _
   rw[hq,d8y N s];by_cases S:QK k
   ·simp only[if_pos S];rfl
   ·simp only[if_neg S];rfl
theorem d8y(N:Nat->J):∀(l:List O) (env:List (J×J)) (i:Nat),J6 (L4 N l env i)=(fi i (K2 l)).map N
 | [],env,i=>by rw[L4,J6,K2];rfl
 |f::l,env,i=>by rw[L4,J6,K2,CS,cm,d8x N f,d8y N l]
end
theorem p0W(f:O):(qs (F8 qn f [] 0)).Nodup:=by rw[d8x];unfold List.Nodup;rw[List.pairwise_map];exact List.Pairwise.imp (fun {a b} h e=>h (wv _ _ e)) (ul (s:=0) (n:=nq f))
structure Hh(B:List C5):Prop where
 g:dX B
 uniq:∀R∈B,∀j,j<(qs R.B4).length->Am.get (qs R.B4) j∉ (qs R.B4).take j
 cov:∀r∈B,¬nh r
 len:B.length<=40
noncomputable def dZ(f:O):Nat:=am (F8 qn f [] 0)+am (bg f [] 0)
noncomputable def tZ(B:List C5)(f:O):O:=TT B F3 (dZ f) (bg f [] 0) 0
noncomputable def hZ(B:List C5)(f:O):List C6:=(HT B (dZ f) (bg f [] 0) 0).map eT
open Classical in
noncomputable def kE(B:List C5)(f:O):O×List C6×Bool:=if dK (tZ B f)then(cf (tZ B f),cw gu (hZ B f),true)else(zf,[],false)
theorem Yr(f:O):bg f [] 0=F8 (fun j=>fJ (Am.get (jJ f 0) j)) f [] 0:=XL _ f [] 0 0 fun j _=>by rw[dq]
theorem Ys{f:O}(h:D6 f):D6 (bg f [] 0):=by rw[Yr];exact D6.F8 _ f [] 0 h
theorem d8z(f:O):w9 (bg f [] 0)=w9 f:=by rw[Yr];exact Fa _ f [] 0
theorem p0Y(hr:dX B){f:O}(h:Y0 f)(ν:Nat->J->J):w9 (tZ B f)=w9 (TT B ν (dZ f) (F8 qn f [] 0) 0)/\R0 (tZ B f)=R0 (TT B ν (dZ f) (F8 qn f [] 0) 0):=by
 have hn:=h.2.1;have har:=M1.ar f h.1;have M8:D6 (F8 qn f [] 0):=D6.F8 qn f [] 0 har;have hR:=rlX (B:=B) hr (f:=f) M (xv:=[]) (fun z hz=>by cases hz) (iK.nil B ν (nq f));have hinj:=d7A hR;have hname:∀x,M0 x->jK (Dk B f [] ν) 100 x=x:=fun x A=>XO A;have hap:bg f [] 0=L0 (jK (Dk B f [] ν) 100) (F8 qn f [] 0):=by rw[Yr];exact(XP qn _ f [] 0 (fun x A=>hname x (Cg f h.1 _ x A)) fun j _ L=>Na hR (.inl ⟨j,by omega,rfl,rfl⟩)).symm
 have U:=wD B F3 (fun a x=>jK (Dk B f [] ν) 100 (ν a x)) (dZ f) (bg f [] 0) 0;have X:=Mf hinj hname hr ν (dZ f) (F8 qn f [] 0) 0 M8;unfold tZ;rw[U.1,U.2,hap,X,d4Y,d5a];exact⟨rfl,rfl⟩
theorem d8A(hR:Hh B){f:O}(h:Y0 f):Z (fun n=>zA n B f) (fun x=>x=kE B f):=by
 have hl:=hR.len;have har:=M1.ar f h.1;have M8:D6 (F8 qn f [] 0):=D6.F8 qn f [] 0 har;refine(i9w hR.g hR.uniq M h (d:=dZ f) (by unfold dZ;omega)).mono fun x A=>?_;have hsz:=p0Y hR.g h (fun _ _=>[]);have hs:dK (tZ B f)↔dK (TT B (fun _ _=>[]) (dZ f) (F8 qn f [] 0) 0):=by unfold dK;rw[hsz.1,hsz.2]
 unfold kE;by_cases K:dK (tZ B f)
 ·have U8:=A.iff.2 (hs.1 K);have⟨ν,c2,e1,e2,e3⟩:=A.ok U8;have⟨φ,f1,f2,f3,f4⟩:=p0w hR.g h (dZ f) e3;have e4:cf (tZ B f)=cf (TT B ν (dZ f) (F8 qn f [] 0) 0):=by
   unfold tZ;rw[f3];refine i8b f1 fun y hy=>f2 y ?_;rcases Yn hR.g hR.cov ν (dZ f) _ 0 M8 (p0W f) y hy with U|U
   ·have⟨_,X⟩:=d5t qn f [] [] 0 y U;rcases X with⟨p,hp,_⟩|X
    ·cases hp
    ·exact Cg f h.1 _ y X
   ·exact U
  rw[if_pos K];refine uk ?_ (uk ?_ U8)
  ·grind
  ·show x.2.1=cw gu (hZ B f);unfold hZ;rw[f4,e2]
 ·rw[if_neg K];have hx0:x.2.2=false:=Bool.eq_false_iff.2 fun e=>K (hs.2 (A.iff.1 e));have⟨e1,e2⟩:=A.no hx0;exact uk e1 (uk e2 hx0)
theorem p0Z(hR:Hh B){f:O}(h:Y0 f):Z (fun n=>Hi n B f) (fun x=>x=kE B f):=by
 have hl:=hR.len;have hn:=h.2.1;have har:=M1.ar f h.1;have M8:=Ys har;have zo:=d8z f;have ij:=zu hR.g F3 (dZ f) (bg f [] 0) 0 M8;have hrl:(D4 (bg f [] 0) [] 0).length=w9 f:=by rw[dS,zo]
 unfold Hi;refine Z.bind (p0o (M1.sm f h.1) M) fun v1 hv1=>?_;subst hv1;refine Z.bind (p0V M8 [] M B5) fun v2 hv2=>?_;subst hv2;refine Z.bind (p0f hR.g M (RG:=D4 (bg f [] 0) [] 0) M (i8A M8) (dZ f) (bg f [] 0) (by unfold dZ;omega) M8 [] 0 (yw (bg f [] 0) [])) fun v3 W4=>?_;have⟨l1,l2⟩:=W4.len;refine Z.B9 (Z.w6 (by rw[Y7];omega) (Z.B9 (Z.w6 (by rw[Y7];omega) ?_)));unfold kE dK;refine Z.cond (fun e=>Z.pure ?_) (fun e=>?_)
 ·have e:v3.2.2=false:=by simpa using e
  rw[if_neg fun K=>by rw[W4.iff.2 K.1]at e;cases e];rfl
 have e:v3.2.2=true:=by simpa using e
 have hnd:w9 (tZ B f)<=200:=W4.iff.1 e;have⟨o1,o2⟩:=W4.ok e;have o1:v3.1=bA (tZ B f):=o1;have o2:v3.2.1.Perm (hZ B f):=o2;have ij:D6 (tZ B f):=ij;refine Z.bind (i9E ij M (l:=v3.1) (by rw[o1];exact i9J _)) fun bf Hj=>?_;have⟨r1,r2⟩:=Hj;refine Z.bind (i9C (R:=bf) M _ (tZ B f) (ae _) ij M 0 r2) fun cK tC=>?_;have tC:cK=((R0 (tZ B f):Nat):Int):=tC;subst tC;refine Z.cond (fun e=>Z.pure ?_) (fun e=>?_)
 ·have e:(40:Int)<((R0 (tZ B f):Nat):Int):=of_decide_eq_true e;rw[if_neg fun K=>by omega];rfl
 have e:¬(40:Int)<((R0 (tZ B f):Nat):Int):=of_decide_eq_false e;rw[if_pos ⟨hnd,by omega⟩];refine Z.B3 (p0R (AM:=v3.2.1) M) (fun t F=>?_) nofun;have⟨t1,t2⟩:=F;have zH:((hZ B f).map (·.at_)).Nodup:=(d6N hR.g (dZ f) M8 M).2;have F:=p0U o2 zH t1 t2;unfold Yt;refine Z.bind (i9B (R:=bf) M _ (tZ B f) (ae _) ij 0 r2) fun P7 Hl=>?_;subst Hl;refine Z.bind (i9y (D6.sm _ ij) hnd (p0O hR.g h (dZ f) M8)) fun Nz p1a=>Z.pure ?_;rw[p1a,F]
def iN(BB l:List J):Prop:=∃k,k<l.length/\(Am.get l k∈l.take k\/Am.get l k∈BB)
theorem d8B(BB l:List J)(x:J):iN BB (l++[x])↔iN BB l\/x∈l\/x∈BB:=by
 have A:Am.get (l++[x]) l.length=x:=by simp[Am.get]
 have S:∀k,k<l.length->Am.get (l++[x]) k=Am.get l k:=fun k h=>by unfold Am.get;rw[ac,ac,cy h]
 have F:∀k,k<=l.length->(l++[x]).take k=l.take k:=fun k h=>List.take_append_of_le_length h;constructor
 ·rintro⟨k,hkl,h⟩;rw[aa]at hkl;have hkl:k<l.length+1:=hkl;by_cases e:k=l.length
  ·grind
  ·rw[S k M,F k M]at h;exact .inl ⟨k,by omega,h⟩
 ·rintro(⟨k,hkl,h⟩|h)
  ·exact⟨k,by rw[aa];omega,by rw[S k hkl,F k M];exact h⟩
  ·exact⟨l.length,by rw[aa];exact Nat.lt_succ_self _,by rw[A,F _ (ae _),cj];exact h⟩
theorem p1b(BB:List J):¬iN BB []:=fun⟨_,h,_⟩=>absurd h (co _)
theorem d8C:∀l:List IT,(T7 l).length<=l.length
 | []=>ae _
 |x::l=>by have:=d8C l;have e:T7 (x::l)=T7 [x]++T7 l:=vT [x] l;rw[e,Cc,aa,an];split<;>simp<;>omega
open Classical in
noncomputable def ni(r:C5)(v:F1):Int:=
 if v.code≠0 then v.code else if F6 r.from_ r.from_.form then 5 else if(eN r.B4).code≠0 then(eN r.B4).code else if iN r.from_.words (qs r.B4)then 7 else if nh r then 15 else 0
def dL(r:C5)(c:Int):Prop:=∃v,pE r.from_ v/\c=ni r v
theorem dL.uniq{r c c'}(h:dL r c)(h':dL r c'):c=c':=by obtain⟨v,Q,rfl⟩:=h;obtain⟨v',hv',rfl⟩:=h';rw[Q.uniq hv']
def tD(B:List C5)(k:Nat)(z:F1):Prop:=∃c,c≠0/\dL (Am.get B k) c/\z=⟨c,(k:Int)⟩
def tF(B:List C5)(z:F1):Prop:=
 (40<B.length/\z=⟨2, -1⟩)\/(B.length<=40/\∃k,k<B.length/\(∀j,j<k->dL (Am.get B j) 0)/\tD B k z)\/(B.length<=40/\(∀j,j<B.length->dL (Am.get B j) 0)/\z=⟨0,0⟩)
theorem tF.uniq{B z z'}(h:tF B z)(h':tF B z'):z=z':=by
 rcases h with⟨U,rfl⟩|⟨U,k,X,h3,c,h4,h5,rfl⟩|⟨U,X,rfl⟩
 ·rcases h' with⟨_,rfl⟩|⟨g1,_⟩|⟨g1,_⟩
  ·rfl
  ·omega
  ·omega
 ·rcases h' with⟨g1,_⟩|⟨_,k',g2,g3,c',g4,g5,rfl⟩|⟨_,g2,_⟩
  ·omega
  ·rcases Nat.lt_trichotomy k k' with h|h|h
   ·exact absurd (h5.uniq (g3 k h)) h4
   ·subst h;rw[h5.uniq g5]
   ·exact absurd (g5.uniq (h3 k' h)) g4
  ·exact absurd (h5.uniq (g2 k X)) h4
 ·rcases h' with⟨g1,_⟩|⟨_,k',g2,_,c',g4,g5,_⟩|⟨_,_,rfl⟩
  ·omega
  ·exact absurd (g5.uniq (X k' g2)) g4
  ·rfl
theorem p1c(H:∀r∈B,SB r.from_):Z (fun n=>Ho n B) (tF B):=by
 unfold Ho jL;refine Z.cond (fun e=>Z.pure (.inl ⟨by replace e:=bx e;omega,rfl⟩)) (fun e=>?_);replace e:=bx e;have hlen:B.length<=40:=by omega
 refine Z.B3 (Z.scan (fun k _=>∀j,j<k->dL (Am.get B j) 0) (fun k z=>tD B k z) (fun j L=>absurd L (co _)) (fun k s S u=>?_)) (fun t F=>?_) (fun r hr=>?_)
 ·unfold Yu jL;have hm:=get_mem S;refine Z.bind (i6W (H _ hm)) fun v Q=>?_;refine Z.cond (fun e=>Z.pure ?_) (fun e=>?_)
  ·have h:v.code≠0:=by simpa using e
   exact⟨v.code,h,⟨v,Q,by unfold ni;rw[if_pos h]⟩,rfl⟩
  have h0:v.code=0:=by simpa using e
  have hs:=(Q.code h0).1;rw[yW];simp only[ax];refine Z.cond (fun hp=>Z.pure ?_) (fun hp=>?_)
  ·have hp:F6 _ _:=of_decide_eq_true hp;exact⟨5,by decide,⟨v,Q,by unfold ni;rw[if_neg (fun h=>h h0),if_pos hp]⟩,rfl⟩
  have hp:=of_decide_eq_false hp;refine Z.bind (SF _) fun v2 hv2=>?_;subst hv2;refine Z.cond (fun e=>Z.pure ?_) (fun e=>?_)
  ·have h:(eN (Am.get B k).B4).code≠0:=by simpa using e
   exact⟨_,h,⟨v,Q,by unfold ni;rw[if_neg (fun h=>h h0),if_neg hp,if_pos h]⟩,rfl⟩
  have hf0:(eN (Am.get B k).B4).code=0:=by simpa using e
  have hto:Y0 (Am.get B k).B4:=(nW _).1 hf0;have hnt:=hto.2.1;have mR:=jj (Am.get B k).B4;have lD:=ji (Am.get B k).B4;refine Z.bind (Ft _ _ (ae _) M) fun v3 W4=>?_;subst W4;refine Z.B3 (Z.scan (fun i _=>∀j,j<i->¬(Am.get (qs (Am.get B k).B4) j∈(qs (Am.get B k).B4).take j\/Am.get (qs (Am.get B k).B4) j∈(Am.get B k).from_.words)) (fun i r=>r= .ret ⟨7,(k:Int)⟩/\(Am.get (qs (Am.get B k).B4) i∈(qs (Am.get B k).B4).take i\/Am.get (qs (Am.get B k).B4) i∈(Am.get B k).from_.words)) (fun j L=>absurd L (co _)) (fun i s u hI=>?_)) (fun t F=>?_) (fun r hr=>?_)
  ·unfold Yv jL;rw[jl];simp only[ax,jl];refine Z.w6 M ?_;by_cases U:Am.get (qs (Am.get B k).B4) i∈(qs (Am.get B k).B4).take i
   ·rw[decide_eq_true U];exact Z.bind (P:=fun _=>True) (Z.gd (fun e=>by cases e) (fun _=>trivial)) fun tG _=>Z.cond (fun _=>Z.pure ⟨rfl,.inl U⟩) (fun e=>by cases e)
   ·rw[decide_eq_false U];refine Z.bind (P:=fun v=>v=decide (Am.get (qs (Am.get B k).B4) i∈(Am.get B k).from_.words)) (Z.gd (fun _=>Z.pure rfl) (fun e=>by cases e)) fun tG h36=>?_;subst h36;refine Z.cond (fun e=>Z.pure ⟨rfl,.inr (of_decide_eq_true e)⟩) (fun e=>Z.pure fun j L=>?_);by_cases ej:j=i
    ·grind
    ·exact hI j M
  ·have hnd:¬iN (Am.get B k).from_.words (qs (Am.get B k).B4):=fun⟨j,L,h⟩=>F j L h;have K:∀c,(nh (Am.get B k)->c=15)->(¬nh (Am.get B k)->c=0)->dL (Am.get B k) c:=fun c U X=>⟨v,Q,by
    unfold ni;rw[if_neg (fun h=>h h0),if_neg hp,if_neg (fun h=>h hf0),if_neg hnd];by_cases hu:nh (Am.get B k)
    ·rw[if_pos hu,U hu]
    ·rw[if_neg hu,X hu]⟩
   unfold Yw jL;refine Z.bind (p0A hs.good hto) fun b NA=>Z.cond (fun eb=>Z.pure ?_) (fun eb=>Z.pure fun j L=>?_)
   ·exact⟨15,by decide,K 15 (fun _=>rfl) (fun h=>absurd (NA.1 eb) h),rfl⟩
   ·grind
  ·obtain⟨i,_,u,_,rfl,h⟩:=hr;have hd:iN (Am.get B k).from_.words (qs (Am.get B k).B4):=⟨i,u,h⟩;exact⟨7,by decide,⟨v,Q,by unfold ni;rw[if_neg (fun h=>h h0),if_neg hp,if_neg (fun h=>h hf0),if_pos hd]⟩,rfl⟩
 ·unfold Yx;exact Z.pure (.inr (.inr ⟨hlen,F,rfl⟩))
 ·have⟨k,_,S,u,hz⟩:=hr;exact .inr (.inl ⟨hlen,k,S,u,hz⟩)
theorem Yy{i:Nat}(u:i<41){c:Int}(K:dL (Am.get B i) c):Z (fun _=>Ds (i:Int) c) (cU (fun s:Int=>s=((i+1:Nat):Int)/\dL (Am.get B i) 0) (fun _:Unit=>False) (tD B i)):=by
 unfold Ds;refine Z.cond (fun e=>Z.pure ⟨c,by simpa using e,K,rfl⟩) (fun e=>Z.pure ?_);have h:c=0:=by simpa using e
 subst h;exact⟨by rw[F9 M M];rfl,K⟩
theorem d8D{i:Nat}(u:i<41){c:Int}(hc0:c≠0)(K:dL (Am.get B i) c):Z (fun n=>zJ n B (i:Int) c) (cU (fun s:Int=>s=((i+1:Nat):Int)/\dL (Am.get B i) 0) (fun _:Unit=>False) (tD B i)):=by unfold zJ;rw[decide_eq_false hc0];exact Z.bind (P:=fun _=>True) (Z.gd (fun e=>by cases e) (fun _=>trivial)) fun v _=>Z.cond (fun e=>by cases e) (fun _=>Yy u K)
theorem p1e(H:∀r∈B,SB r.from_):Z (fun n=>Hp n B) (tF B):=by
 unfold Hp;refine Z.cond (fun e=>Z.pure (.inl ⟨by replace e:=bx e;omega,rfl⟩)) (fun e=>?_);replace e:=bx e;have hlen:B.length<=40:=by omega
 refine Z.B3 (Z.R5 B.length (fun i s=>s=(i:Int)/\∀j,j<i->dL (Am.get B j) 0) (fun _=>∀j,j<B.length->dL (Am.get B j) 0) (fun z=>∃k,k<B.length/\(∀j,j<k->dL (Am.get B j) 0)/\tD B k z) ⟨rfl,fun j L=>absurd L (co _)⟩ (fun i s u hs=>?_) (fun s hs=>?_)) (fun t F=>?_) (fun z hz=>?_)
 ·obtain⟨rfl,hs⟩:=hs;have hm:=get_mem u;have hsb:=H _ hm;have wrap:∀ {x:Nat->Option (C1 F1 Int Unit)},Z x (cU (fun s:Int=>s=((i+1:Nat):Int)/\dL (Am.get B i) 0) (fun _:Unit=>False) (tD B i))->Z x (cU (fun s:Int=>s=((i+1:Nat):Int)/\∀j,j<i+1->dL (Am.get B j) 0) (fun _:Unit=>∀j,j<B.length->dL (Am.get B j) 0) (fun z=>∃k,k<B.length/\(∀j,j<k->dL (Am.get B j) 0)/\tD B k z)):=fun h=>h.mono fun c K=>by
   cases c with
   |B7 s=>
    have⟨U,X⟩:=K;refine⟨U,fun j L=>?_⟩;by_cases e:j=i
    ·subst e;exact X
    ·exact hs j M
   |brk t=>exact K.elim
   |ret z=>exact⟨i,u,hs,K⟩
  refine wrap ?_;unfold NC;simp only[ai];refine Z.cond (fun _=>Z.w6 M (Z.bind (i7c hsb) fun v Q=>?_)) ab;have j7:∀(c d:Int),c≠0->dL (Am.get B i) c->Z (fun n=>zK n B (i:Int) (c,d)) (cU (fun s:Int=>s=((i+1:Nat):Int)/\dL (Am.get B i) 0) (fun _:Unit=>False) (tD B i)):=fun c d h0 K=>by unfold zK;exact Z.cond (fun e=>absurd (of_decide_eq_true e) h0) (fun _=>d8D M h0 K)
  have j6:∀c:Int,c≠0->dL (Am.get B i) c->Z (fun n=>wN n B (i:Int) v c) (cU (fun s:Int=>s=((i+1:Nat):Int)/\dL (Am.get B i) 0) (fun _:Unit=>False) (tD B i)):=fun c h0 K=>by unfold wN;exact Z.cond (fun e=>absurd (of_decide_eq_true e) h0) (fun _=>j7 _ _ h0 K)
  refine Z.cond (fun e=>?_) (fun e=>j6 _ (of_decide_eq_false e) ⟨v,Q,by unfold ni;rw[if_pos (of_decide_eq_false e)]⟩);have h0:v.code=0:=of_decide_eq_true e;have hok:=(Q.code h0).1;have hg:=hok.good;have hfn:=hg.form.2.1;have aX:(Am.get B i).from_.parts.length<=8000000/\(Am.get B i).from_.words.length<=8000000:=by have:=hg.len;unfold E3 at this;simp only[aa]at this;omega
  have hn1:=Y8 (Am.get B i).from_.form;have hT0:BX (0+0) (Am.get B i).from_.form (Am.get (D4 (Am.get B i).from_.form [] 0) 0):=by have h:=vS (Am.get B i).from_.form [] 0 0 M;rw[pC]at h;exact h
  refine Z.bind (vO hg.form.1 [] M B5) fun v59 h59=>?_;subst h59;refine Z.w6 (by rw[dS];omega) (Z.bind (Yg _ aX.1 hT0) fun Yz h61=>?_);subst h61;refine Z.cond (fun e=>?_) (fun e=>?_)
  ·have hp:F6 _ _:=of_decide_eq_true e;exact j6 5 D5 ⟨v,Q,by unfold ni;rw[if_neg (fun h=>h h0),if_pos hp]⟩
  have hp:=of_decide_eq_false e;unfold wN;refine Z.cond (fun _=>Z.bind (SM _) fun wL h62=>?_) (fun e=>absurd h0 (of_decide_eq_false e));subst h62;by_cases hf0:¬(eN (Am.get B i).B4).code=0
  ·simp only[ai];exact j7 _ _ hf0 ⟨v,Q,by unfold ni;rw[if_neg (fun h=>h h0),if_neg hp,if_pos hf0]⟩
  replace hf0:=dl.1 hf0;have hto:Y0 (Am.get B i).B4:=(nW _).1 hf0;have hnt:=hto.2.1;unfold zK;refine Z.cond (fun _=>?_) (fun e=>absurd hf0 (of_decide_eq_false e));refine Z.bind (vO hto.1 [] M B5) fun eW h63=>?_;subst h63;have hlR:(D4 (Am.get B i).B4 [] 0).length=w9 (Am.get B i).B4:=dS _ _ _;obtain⟨R,hR⟩:∃R,R=D4 (Am.get B i).B4 [] 0:=⟨_,rfl⟩;rw[<-hR]at hlR⊢;have wB:T7 R=qs (Am.get B i).B4:=by rw[hR];exact KY _ _ _
  refine Z.B3 (Z.R5 R.length (fun k s=>s.2.2=(k:Int)/\s.2.1=T7 (R.take k)/\(iN (Am.get B i).from_.words (T7 (R.take k))->s.1=7)/\(¬iN (Am.get B i).from_.words (T7 (R.take k))->s.1=0)) (fun c=>(iN (Am.get B i).from_.words (qs (Am.get B i).B4)->c=7)/\(¬iN (Am.get B i).from_.words (qs (Am.get B i).B4)->c=0)) (fun _=>False) ⟨rfl,rfl,fun h=>absurd h (p1b _),fun _=>hf0⟩ (fun k s S hs=>?_) (fun s hs=>?_)) (fun t F=>?_) nofun
  ·have⟨s1,s2,s3⟩:=s;have⟨I,a2,a3,a4⟩:=hs;simp only at I a2 a3 a4;subst I a2;have tH:T7 (R.take (k+1))=T7 (R.take k)++(if QK (Am.get R k).kind then [(Am.get R k).name]else []):=by rw[H8 S,vT,Cc]
   have lD:=d8C (R.take k);rw[db]at lD;have hwr:wr .i64 ((k:Int)+1)=((k+1:Nat):Int):=by rw[F9 M M];rfl
   unfold ND;simp only[ai];refine Z.cond (fun _=>Z.w6 M (Z.cond (fun e=>Z.pure ?_) (fun e=>?_))) ab
   ·have hq:¬QK (Am.get R k).kind:=fun h=>by unfold QK at h;rcases h with h|h<;>simp[h]at e
    rw[if_neg hq,gf]at tH
    exact⟨hwr,tH.symm,by rw[tH];exact a3,by rw[tH];exact a4⟩
   have hq:QK (Am.get R k).kind:=by
    unfold QK;by_cases a:(Am.get R k).kind=8
    ·exact .inl a
    ·grind
   rw[if_pos hq]at tH;refine Z.bind (d3Z (T7 (R.take k)) (Am.get R k).name M) fun zL h97=>?_;refine Z.bind (P:=fun v=>¬0<=zL->pD (Am.get B i).from_.words (Am.get R k).name v) (Z.gd (fun _=>(eP _ _ aX.2).mono fun v Q _=>Q) (fun e h=>by simp[h]at e)) fun NG h98=>?_;refine Z.cond (fun e=>Z.B9 (Z.w6 ?_ (Z.pure ?_))) (fun e=>Z.B9 (Z.w6 ?_ (Z.pure ?_)))
   ·exact lT
   ·have hd:iN (Am.get B i).from_.words (T7 (R.take (k+1))):=by
     rw[tH,d8B];refine .inr ?_;by_cases h:0<=zL
     ·exact .inl (h97.mem.1 h)
     ·rw[decide_eq_false h,cond_false]at e;exact .inr ((h98 h).mem.1 (of_decide_eq_true e))
    exact⟨hwr,tH.symm,fun _=>rfl,fun h=>absurd hd h⟩
   ·exact lT
   ·have U:¬0<=zL:=fun h=>by rw[decide_eq_true h]at e;cases e
    have X:¬0<=NG:=fun h=>by rw[decide_eq_false U,decide_eq_true h]at e;cases e
    have hd:iN (Am.get B i).from_.words (T7 (R.take (k+1)))↔iN (Am.get B i).from_.words (T7 (R.take k)):=by rw[tH,d8B];exact⟨fun h=>h.elim id fun h=>h.elim (fun h=>absurd (h97.mem.2 h) U) fun h=>absurd ((h98 U).mem.2 h) X,.inl⟩
    exact⟨hwr,tH.symm,fun h=>a3 (hd.1 h),fun h=>a4 fun h'=>h (hd.2 h')⟩
  ·have⟨s1,s2,s3⟩:=s;have⟨I,a2,a3,a4⟩:=hs;simp only at I a2 a3 a4;subst I;rw[cj,wB]at a3 a4;unfold ND;exact Z.cond ab (fun _=>Z.pure ⟨a3,a4⟩)
  ·unfold YA;have F:(iN (Am.get B i).from_.words (qs (Am.get B i).B4)->t=7)/\(¬iN (Am.get B i).from_.words (qs (Am.get B i).B4)->t=0):=F;by_cases hd:iN (Am.get B i).from_.words (qs (Am.get B i).B4)
   ·rw[F.1 hd];exact d8D M D5 ⟨v,Q,by unfold ni;rw[if_neg (fun h=>h h0),if_neg hp,if_neg (fun h=>h hf0),if_pos hd]⟩
   ·rw[F.2 hd];unfold zJ;rw[decide_eq_true (rfl:(0:Int)=0)];refine Z.bind (P:=fun b=>b=true↔nh (Am.get B i)) (Z.gd (fun _=>p0D hg hto) (fun e=>by cases e)) fun b NA=>?_;refine Z.cond (fun e=>Yy M ⟨v,Q,?_⟩) (fun e=>Yy M ⟨v,Q,?_⟩)
    ·unfold ni;rw[if_neg (fun h=>h h0),if_neg hp,if_neg (fun h=>h hf0),if_neg hd,if_pos (NA.1 e)]
    ·unfold ni;rw[if_neg (fun h=>h h0),if_neg hp,if_neg (fun h=>h hf0),if_neg hd,if_neg fun h=>by rw[NA.2 h]at e;cases e]
 ·obtain⟨rfl,hs⟩:=hs;unfold NC;exact Z.cond ab (fun _=>Z.pure hs)
 ·unfold YB;exact Z.pure (.inr (.inr ⟨hlen,F,rfl⟩))
 ·exact .inr (.inl ⟨hlen,hz⟩)
theorem d8G:Z (fun n=>Dt n zf) (fun b=>b=true):=by unfold Dt;exact Z.bind (d4G _ _ (ae _) smz) fun v Q=>Z.pure Q
theorem p1k(hl:B.length<=40)(h:∀j,j<B.length->dL (Am.get B j) 0):Hh B:=by
 have key:∀r∈B,LN r/\¬iN r.from_.words (qs r.B4)/\¬nh r:=fun r hr=>by
  obtain⟨j,L,rfl⟩:=U0.1 hr;have⟨v,U,X⟩:=h j L;unfold ni at X;by_cases c1:v.code≠0
  ·grind
  rw[if_neg c1]at X;have c1:v.code=0:=dl.1 c1;by_cases c2:F6 (Am.get B j).from_ (Am.get B j).from_.form
  ·rw[if_pos c2]at X;cases X
  rw[if_neg c2]at X;by_cases c3:(eN (Am.get B j).B4).code≠0
  ·grind
  rw[if_neg c3]at X;have c3:(eN (Am.get B j).B4).code=0:=dl.1 c3;by_cases c4:iN (Am.get B j).from_.words (qs (Am.get B j).B4)
  ·rw[if_pos c4]at X;cases X
  rw[if_neg c4]at X;by_cases c5:nh (Am.get B j)
  ·rw[if_pos c5]at X;cases X
  exact⟨⟨(U.code c1).1.good,(nW _).1 c3,c2⟩,c4,c5⟩
 exact⟨fun r hr=>(key r hr).1,fun R hR j L hm=>(key R hR).2.1 ⟨j,L,.inl hm⟩,fun r hr=>(key r hr).2.2,hl⟩
theorem tF.ok{z:F1}(h:tF B z)(h0:z.code=0):Hh B:=by
 rcases h with⟨_,rfl⟩|⟨_,k,_,_,c,U,_,rfl⟩|⟨U,X,_⟩
 ·cases h0
 ·exact absurd h0 U
 ·exact p1k U X
def p1l(B:List C5)(f:O)(e:F1):Prop:=∃z,tF B z/\((z.code≠0/\e=z)\/(z.code=0/\e=eN f))
theorem d8H(H:∀r∈B,SB r.from_)(f:O):Z (fun n=>Du n B f) (p1l B f):=by
 unfold Du;refine Z.bind (p1c H) fun v Q=>Z.cond (fun e=>Z.pure ⟨v,Q,.inl ⟨by simpa using e,rfl⟩⟩) (fun e=>?_);have h0:v.code=0:=by simpa using e
 exact Z.bind (SF f) fun v2 hv2=>Z.pure ⟨v,Q,.inr ⟨h0,hv2⟩⟩
def Ans{α:Type}(B:List C5)(f:O)(no yes:α)(x:α×F1):Prop:=
 ∃z,tF B z/\((z.code≠0/\x=(no,z))\/(z.code=0/\¬Y0 f/\x=(no,eN f))\/(z.code=0/\Y0 f/\(((kE B f).2.2=true/\x=(yes,⟨0,0⟩))\/((kE B f).2.2=false/\x=(no,⟨1,0⟩)))))
theorem p1m(H:∀r∈B,SB r.from_)(f:O):Z (fun n=>Dv n B f) (Ans B f zf (kE B f).1):=by
 unfold Dv;refine Z.bind (d8H H f) fun v1 U=>?_;have⟨z,hz,U⟩:=U;rcases U with⟨c,rfl⟩|⟨c,rfl⟩
 ·exact Z.cond (fun _=>Z.pure ⟨v1,hz,.inl ⟨c,rfl⟩⟩) (fun e=>by simp[c]at e)
 ·refine Z.cond (fun e=>Z.pure ⟨z,hz,.inr (.inl ⟨c,fun h=>?_,rfl⟩)⟩) (fun e=>?_)
  ·have e:¬(eN f).code=0:=by simpa using e
   exact e ((nW f).2 h)
  ·have hok:Y0 f:=(nW f).1 (by simpa using e);refine Z.bind (d8A (hz.ok c) hok) fun v2 X=>?_;subst X;refine Z.cond (fun e=>?_) (fun e=>Z.pure ⟨z,hz,.inr (.inr ⟨c,hok,.inl ⟨by simpa using e,rfl⟩⟩)⟩);unfold jL;exact Z.pure ⟨z,hz,.inr (.inr ⟨c,hok,.inr ⟨by simpa using e,rfl⟩⟩)⟩
theorem p1n(H:∀r∈B,SB r.from_)(f:O):Z (fun n=>Dw n B f) (Ans B f [] (kE B f).2.1):=by
 unfold Dw;refine Z.bind (d8H H f) fun v1 U=>?_;have⟨z,hz,U⟩:=U;rcases U with⟨c,rfl⟩|⟨c,rfl⟩
 ·exact Z.cond (fun _=>Z.pure ⟨v1,hz,.inl ⟨c,rfl⟩⟩) (fun e=>by simp[c]at e)
 ·refine Z.cond (fun e=>Z.pure ⟨z,hz,.inr (.inl ⟨c,fun h=>?_,rfl⟩)⟩) (fun e=>?_)
  ·have e:¬(eN f).code=0:=by simpa using e
   exact e ((nW f).2 h)
  ·have hok:Y0 f:=(nW f).1 (by simpa using e);refine Z.bind (d8A (hz.ok c) hok) fun v2 X=>?_;subst X;refine Z.cond (fun e=>?_) (fun e=>Z.pure ⟨z,hz,.inr (.inr ⟨c,hok,.inl ⟨by simpa using e,rfl⟩⟩)⟩);unfold jL;exact Z.pure ⟨z,hz,.inr (.inr ⟨c,hok,.inr ⟨by simpa using e,rfl⟩⟩)⟩
theorem d8J{f:O}{z:F1}(h:z.code≠0):Z (fun n=>zM n (zf,z) ([],z) B f (z.code,z.index)) (fun b=>b=true):=by unfold zM;refine Z.cond (fun _=>?_) (fun e=>by simp[h]at e);refine Z.bind (P:=fun v=>v=true) (Z.gd (fun _=>d8G) (fun e=>by simp at e)) fun v Q=>Z.pure ?_;subst Q;simp
theorem p1o(hR:Hh B){f:O}(h:Y0 f):(hZ B f).length<=1000:=by
 have hn:=h.2.1;have M8:=Ys (M1.ar f h.1);have zo:=d8z f;have U:=CV (m:=fi 0 (w9 (bg f [] 0))) (wE hR.g (dZ f) _ 0 M8) fun x A=>by obtain⟨z,hz,rfl⟩:=bj.1 A;have⟨k1,k2,_⟩:=gK hR.g _ _ 0 M8 z hz;exact ff.2 ⟨k1,k2⟩
 rw[bc,mr]at U;unfold hZ;rw[bc];omega
theorem p1p{AM:List C6}(hl:AM.length<=1000){xm:O}{e:F1}{b:Bool}:Z (fun n=>B3 (D9 (Dx (AM,e) (xm,AM,b)) n 0) NH) (fun b=>b=true):=by
 refine Z.B3 (Z.R5 (body:=fun _=>Dx (AM,e) (xm,AM,b)) AM.length (fun k (s:Int)=>s=(k:Int)) (fun _:Unit=>True) (fun _:Bool=>False) rfl (fun k s S hs=>?_) (fun s hs=>?_)) (fun t _=>?_) nofun
 ·subst hs;unfold Dx;simp only[ai];refine Z.cond (fun _=>Z.w6 ⟨by omega,by omega⟩ (Z.w6 M (Z.cond (fun ee=>by simp at ee) (fun _=>Z.pure ?_)))) (fun ee=>by have ee:¬(k:Int)<(AM.length:Int):=of_decide_eq_false ee;omega);show wr .i64 ((k:Int)+1)=_;rw[F9 M M];rfl
 ·subst hs;unfold Dx;exact Z.cond (fun ee=>by have ee:(AM.length:Int)<(AM.length:Int):=of_decide_eq_true ee;omega) (fun _=>Z.pure trivial)
 ·unfold NH;exact Z.pure rfl
theorem d3s(H:∀r∈B,SB r.from_)(f:O):Z (fun n=>NI n B f) (fun b=>b=true):=by
 unfold NI;refine Z.bind i7N fun v Q=>?_;subst Q;refine Z.cond (fun e=>by cases e) (fun _=>?_);refine Z.bind (p1m H f) fun v2 X=>Z.bind (p1n H f) fun v3 h3=>Z.bind (p1e H) fun z hz=>?_;have⟨z2,bT,X⟩:=X;have⟨z3,Kq,h3⟩:=h3;obtain rfl:=hz.uniq bT;obtain rfl:=hz.uniq Kq;by_cases c:z.code=0
 ·refine Z.cond (fun _=>Z.bind (SM f) fun v5 h5=>?_) (fun e=>absurd c (of_decide_eq_false e));subst h5;have X:=X.resolve_left fun h=>h.1 c;have h3:=h3.resolve_left fun h=>h.1 c;by_cases hok:Y0 f
  ·have⟨_,_,X⟩:=X.resolve_left fun h=>h.2.1 hok;have⟨_,_,h3⟩:=h3.resolve_left fun h=>h.2.1 hok;have hR:=hz.ok c;have hc0:=(nW f).2 hok;unfold zM;refine Z.cond (fun e=>by simp[hc0]at e) (fun _=>Z.bind (p0Z hR hok) fun v7 h7=>?_);subst h7;cases hr:(kE B f).2.2 with
   |false=>rw[hr]at X h3;have X:=(X.resolve_left fun h=>by cases h.1).2;have h3:=(h3.resolve_left fun h=>by cases h.1).2;subst X h3;refine Z.cond (fun _=>?_) (fun e=>by simp at e);refine Z.bind (P:=fun v=>v=true) (Z.gd (fun _=>d8G) (fun e=>by simp at e)) fun v Q=>Z.pure ?_;subst Q;simp
   |true=>
    rw[hr]at X h3;have X:=(X.resolve_right fun h=>by cases h.1).2;have h3:=(h3.resolve_right fun h=>by cases h.1).2;subst X h3;have hrz:kE B f=(cf (tZ B f),cw gu (hZ B f),true):=by
     unfold kE at hr⊢;by_cases K:dK (tZ B f)
     ·rw[if_pos K]
     ·rw[if_neg K]at hr;cases hr
    have N6:P6 (kE B f).1:=by rw[hrz];exact D6.sm _ (D6.F8 _ _ [] 0 (zu hR.g F3 (dZ f) _ 0 (Ys (M1.ar f hok.1))))
    have hlen:(kE B f).2.1.length<=1000:=by rw[hrz];show(cw gu (hZ B f)).length<=1000;rw[(oV gu _).length_eq];exact p1o hR hok
    refine Z.cond (fun e=>by simp at e) (fun _=>?_);refine Z.bind (P:=fun v=>v=true) (Z.gd (fun _=>d4G _ _ (ae _) N6) (fun e=>by simp at e)) fun v Q=>?_;subst Q;refine Z.cond (fun e=>by simp at e) (fun _=>?_);exact p1p (xm:=(kE B f).1) (b:=(kE B f).2.2) hlen
  ·have kN:(eN f).code≠0:=fun h=>hok ((nW f).1 h);have X:=X.resolve_right fun h=>hok h.2.1;have h3:=h3.resolve_right fun h=>hok h.2.1;obtain⟨_,_,rfl⟩:=X;obtain⟨_,_,rfl⟩:=h3;exact d8J kN
 ·refine Z.cond (fun e=>absurd (of_decide_eq_true e) c) (fun _=>?_);have X:=(X.resolve_right fun h=>by rcases h with h|h<;>exact c h.1).2;have h3:=(h3.resolve_right fun h=>by rcases h with h|h<;>exact c h.1).2;subst X h3;exact d8J c
end Go.Proofs.YtchbmngmmdeenaaGreatDoor
#print axioms Go.Proofs.YtchbmngmmdeenaaGreatDoor.d3s
