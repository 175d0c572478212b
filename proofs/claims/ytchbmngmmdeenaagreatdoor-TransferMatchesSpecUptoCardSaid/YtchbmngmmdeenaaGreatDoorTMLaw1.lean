import Derived.Test.YtchbmngmmdeenaaGreatDoorTMLaw0
open Classical renaming byContradiction->cp,not_not->dl
open False renaming elim->gh
open Function renaming comp_def->pg
open Go.Lib renaming decDigits->cb
open Int renaming toNat_natCast->ai
open List renaming mem_cons->ce,mem_cons_self->az,mem_cons_of_mem->aw,length_map->bc,mem_map->bj,drop_eq_getElem_cons->kz,drop_length->lm,length_append->aa,length_take->db,length_cons->an,length_nil->cz,map_append->cm,mem_append->al,mem_singleton->ao,take_length->cj,map_cons->bv,cons_append->di,append_assoc->bl,length_eq_zero_iff->dt,singleton_append->r4,map_nil->jn,map_map->ja,map_congr_left->e8,prefix_refl->BV,prefix_append->AN,nodup_cons->ia,nodup_nil->lh,nodup_append->im,take_zero->fe,getD_eq_getElem?_getD->ac,getElem?_eq_getElem->b7,mem_append_right->bz,mem_append_left->de,nil_sublist->kp,flatMap_append->kn,flatMap_cons->qf,append_nil->gf,mem_flatMap->ed,length_set->mm,mem_of_mem_take->ov,replicate->be,length->ph,drop_left'->u9,take_left'->rq,map->r5,mem_filter->ml,flatMap_def->BY,range'->fi,nodup_range'->ul,mem_range'_1->ff,flatten_cons->tf,take_succ_cons->mc,nil_append->fw,length_range'->mr,pairwise_map->Bi
open List.cons renaming inj->en,sizeOf_spec->uu
open Nat renaming le_refl->ae,add_assoc->da,zero_add->dq,not_lt_zero->co,add_sub_cancel_left->q8,add_comm->n5
open Option renaming bind_some->ax,map->yv,map_some->kx
open Prod.mk renaming injEq->mv
open SizeOf renaming sizeOf->am
namespace Go.Proofs.YtchbmngmmdeenaaGreatDoor
open Go Go.Am
variable {path:J} {pl:J->Nat} {R:C5} {first:List (J×J)} {xo:List (J×Nat)} {AM:List (Nat×Nat)} {st:List Bool} {D:List J} {out:List C4} {B:List C5} {u0:List C6} {RG:List IT} {K9:List Int} {c0 d:Nat} {ν ν':Nat->J->J} {c:UInt8}
mutual
def D6:O->Prop
 | .mk k _ w s=>((s.length:Nat):Int)=R2 k/\w.length<=3/\s.length<=2/\R9 s
def R9:List O->Prop
 | []=>True
 |f::l=>D6 f/\R9 l
end
theorem Q6(f:O):D6 f↔((f.subs.length:Nat):Int)=R2 f.kind/\f.words.length<=3/\f.subs.length<=2/\R9 f.subs:=by cases f;rw[D6];rfl
theorem mS:∀ {l:List O},R9 l->∀x∈l,D6 x
 | [],_,x,h=>by cases h
 |f::l,h,x,A=>by
  rw[R9]at h;rcases ce.1 A with rfl|A
  ·exact h.1
  ·exact mS h.2 x A
theorem hY{f:O}(h:D6 f){k:Nat}(S:k<f.subs.length):D6 (Am.get f.subs k):=mS ((Q6 f).1 h).2.2.2 _ (get_mem S)
mutual
theorem D6.sm:∀(f:O),D6 f->P6 f
 | .mk k n w s,h=>by rw[D6]at h;rw[P6];exact⟨h.2.1,h.2.2.1,R9.sm s h.2.2.2⟩
theorem R9.sm:∀(l:List O),R9 l->cY l
 | [],_=>by rw[cY];trivial
 |f::l,h=>by rw[R9]at h;rw[cY];exact⟨D6.sm f h.1,R9.sm l h.2⟩
end
mutual
theorem M1.ar:∀(f:O),M1 f->D6 f
 | .mk k n w s,h=>by rw[D6];exact⟨(kg ((dR _).1 h).1).1,vL h,Fo h,cx.ar s ((dR _).1 h).2⟩
theorem cx.ar:∀(l:List O),cx l->R9 l
 | [],_=>by rw[R9];trivial
 |f::l,h=>by rw[R9];exact⟨M1.ar f (lB.1 h f (az ..)),cx.ar l (lB.2 fun x A=>lB.1 h x (aw _ A))⟩
end
mutual
theorem D6.F8(N:Nat->J):∀(f:O) (env:List (J×J)) (i:Nat),D6 f->D6 (F8 N f env i)
 | .mk k n w s,env,i,h=>by rw[D6]at h;rw[Go.Proofs.YtchbmngmmdeenaaGreatDoor.F8,D6];exact⟨by rw[qU];exact h.1,by rw[bc];exact h.2.1,by rw[qU];exact h.2.2.1,R9.F8 N s _ _ h.2.2.2⟩
theorem R9.F8(N:Nat->J):∀(l:List O) (env:List (J×J)) (i:Nat),R9 l->R9 (L4 N l env i)
 | [],env,i,_=>by rw[L4,R9];trivial
 |f::l,env,i,h=>by rw[R9]at h;rw[L4,R9];exact⟨D6.F8 N f env i h.1,R9.F8 N l env _ h.2⟩
end
section
variable {s:B1}
open Classical in
theorem i7R:∀(m:Nat)(f:O),am f<=m->M1 f->∀(g:O),D6 g->∀(W:List J)(env:Env),jH env->Has W env->
 Z (fun n=>pK n (gZ s) (aZ s f W) g env) (RM ((R3 s f W g).bind (H9 env))):=by
 intro m
 induction m with
 |zero=>exact z0
 |succ m ih=>
  intro f hf hwf g aC W env he hh;have hnf:=kg ((dR f).1 hwf).1;have hng:=(Q6 g).1 aC;have hml:(aZ s f W).words.length=f.words.length:=by rw[yV];exact bc _
  have qB:(aZ s f W).kind=f.kind:=by rw[yV];rfl
  have hmn:(aZ s f W).name=gY s f:=by rw[yV];rfl
  have FZ:(aZ s f W).subs=bw s f.subs (if QK f.kind then f.name::W else W):=by rw[yV];rfl
  have hk2:f.kind=2->¬QK f.kind:=fun h=>by unfold QK;omega
  have hplain:f.kind=2->¬IsKey f.name:=fun h=>d4r (hnf.2.2.1 (.inl h));have hpart:F6 (gZ s) (aZ s f W)↔F6 s f:=by
   unfold F6;rw[qB,hml,hmn];constructor
   ·rintro⟨U,X⟩;refine⟨U,?_⟩;unfold gY at X;rw[if_neg (hk2 U.1)]at X;split at X
    ·rename_i h3;exact h3.2
    ·exfalso;have⟨y,_,e⟩:=bj.1 X;split at e
     ·cases (en e).1
     ·exact hplain U.1 (e▸ ⟨43,y,rfl,by simp⟩)
   ·rintro⟨U,X⟩;refine⟨U,?_⟩;unfold gY;rw[if_neg (hk2 U.1),if_pos (show F6 s f from⟨U,X⟩)];exact Cn.2 X
  refine Z.succ ?_;simp only[pK,yW,ax,nU,jl,qB,hml,hmn];rw[Uj];refine Z.cond (fun e=>?_) (fun e=>?_)
  ·have hp:F6 s f:=hpart.1 (of_decide_eq_true e);rw[if_pos hp];have i7S:gY s f=43::f.name:=by unfold gY;rw[if_neg (hk2 hp.1.1),if_pos hp]
   rw[i7S];show Z _ (RM (H9 env [_]));rw[Ur];unfold U4;cases h:assoc (43::f.name) env with
   |none=>refine Z.cond (fun e=>by simp at e) (fun _=>Z.B9 (Z.pure ?_));exact⟨fun e he=>by cases he;rfl,fun he=>by cases he⟩
   |some b=>
    refine Z.cond (fun _=>?_) (fun e=>by simp at e);have⟨U,X⟩:=he _ _ h;have N6:=X.1;have Ga:b.text=[]:=by
     rcases X.2 with⟨z,e1,e2⟩|⟨c',z,e1,hc',e2⟩
     ·exact e2
     ·grind
    have hiff:b=⟨43::f.name,[],g⟩↔b.form=g:=by
     constructor
     ·intro e;rw[e]
     ·intro e;cases b;simp only at U Ga e;rw[U,Ga,e]
    refine Z.bind (i7u _ b.form (ae _) N6 g) fun v Q=>Z.pure ?_;subst Q;by_cases H:b.form=g
    ·simp only[if_pos (hiff.2 H),decide_eq_true H];exact⟨fun e he=>by cases he;rfl,fun he=>by cases he⟩
    ·simp only[if_neg fun e=>H (hiff.1 e),decide_eq_false H];exact⟨fun e he=>(by cases he),fun _=>rfl⟩
  have hp:¬F6 s f:=fun h=>(of_decide_eq_false e) (hpart.2 h);rw[if_neg hp];refine Z.cond (fun e=>Z.pure ?_) (fun e=>?_)
  ·have K:f.kind≠g.kind\/f.words.length≠g.words.length:=cp fun h=>by have⟨U,X⟩:=not_or.1 h;have U:=dl.1 U;have X:=dl.1 X;simp[U,X]at e
   rw[if_pos K]
   exact⟨fun e he=>(by cases he),fun _=>rfl⟩
  have S:f.kind=g.kind:=cp fun h=>by simp[h]at e
  have hl:f.words.length=g.words.length:=cp fun h=>by grind
  rw[if_neg fun h=>h.elim (fun h=>h S) (fun h=>h hl),Lk];have hsl:f.subs.length=g.subs.length:=by grind
  have rest:∀qY:Env,jH qY->Has W qY->Has (if QK f.kind then f.name::W else W) qY->Z (fun n=>CA (pK n) (aZ s f W) (gZ s) g qY) (RM ((cat (J8 s.words W f.words g.words) (N7 s f.subs (if QK f.kind then f.name::W else W) g.subs)).bind (H9 qY))):=by
   intro qY iC hh1 i7U;rw[Lk];unfold CA;refine Z.B3 (i7w hwf hl W iC hh1) (fun t F=>?_) (fun r hr=>?_)
   ·have⟨F,wh,Lm⟩:=F;have hmono:Has (if QK f.kind then f.name::W else W) t:=by
     cases hw:J8 s.words W f.words g.words with
     |none=>rw[hw]at F;cases F
     |some ps=>rw[hw]at F;exact i7U.mono (jG _ _ _ F).2.1
    rw[F];unfold Vr;rw[FZ,Ua];refine Z.B3 (P:=L2 (fun t'=>(N7 s f.subs (if QK f.kind then f.name::W else W) g.subs).bind (H9 t)=some t') (fun r=>(N7 s f.subs (if QK f.kind then f.name::W else W) g.subs).bind (H9 t)=none/\r.1=false)) ((Z.range (fun k t'=>(N7 s f.subs (if QK f.kind then f.name::W else W) g.subs).bind (H9 t)=(N7 s (f.subs.drop k) (if QK f.kind then f.name::W else W) (g.subs.drop k)).bind (H9 t')/\jH t'/\Has (if QK f.kind then f.name::W else W) t') (fun _=>False) (fun r=>(N7 s f.subs (if QK f.kind then f.name::W else W) g.subs).bind (H9 t)=none/\r.1=false) ⟨rfl,wh,hmono⟩ (fun k t' S ht'=>?_)).mono fun e h=>?_) (fun t' ht'=>?_) (fun r hr=>?_)
    ·have⟨ht',d4T,d4U⟩:=ht';have oW:k<g.subs.length:=by omega
     have hkm:Am.get (aZ s f W).subs k=aZ s (Am.get f.subs k) (if QK f.kind then f.name::W else W):=by
      rw[FZ];have:∀(l:List O)(W:List J)(k:Nat),k<l.length->Am.get (bw s l W) k=aZ s (Am.get l k) W:=by
       intro l;induction l with
       |nil=>intro W k h;cases h
       |cons a l ih=>
        intro W k h;rw[bw];cases k with
        |zero=>rfl
        |succ k=>exact ih W k (by simpa using h)
      exact this _ _ _ S
     have e1:f.subs.drop k=Am.get f.subs k::f.subs.drop (k+1):=by rw[kz S];simp[Am.get,S]
     have e2:g.subs.drop k=Am.get g.subs k::g.subs.drop (k+1):=by rw[kz oW];simp[Am.get,oW]
     rw[e1,e2,N7,Lk]at ht';unfold Vs;simp only[hkm];have hsz:=W3 S;refine Z.w6 M (Z.bind (ih _ M (vM hwf S) _ (hY aC oW) _ t' d4T d4U) fun v Q=>?_);cases hp:(R3 s (Am.get f.subs k) (if QK f.kind then f.name::W else W) (Am.get g.subs k)).bind (H9 t')with
     |none=>rw[hp]at ht' Q;have U:=Q.2 rfl;exact Z.cond (fun _=>Z.pure ⟨ht',rfl⟩) (fun e=>by rw[U]at e;cases e)
     |some t''=>
      rw[hp]at ht' Q;have U:=Q.1 _ rfl;subst U;refine Z.cond (fun e=>by cases e) (fun _=>Z.pure ⟨ht',?_,?_⟩)
      ·cases hq:R3 s (Am.get f.subs k) (if QK f.kind then f.name::W else W) (Am.get g.subs k)with
       |none=>rw[hq]at hp;cases hp
       |some ps=>rw[hq]at hp;exact d4s d4T (Ul s _ _ _ (D6.sm _ (hY aC oW)) ps hq) hp
      ·cases hq:R3 s (Am.get f.subs k) (if QK f.kind then f.name::W else W) (Am.get g.subs k)with
       |none=>rw[hq]at hp;cases hp
       |some ps=>rw[hq]at hp;exact d4U.mono (jG _ _ _ hp).2.1
    ·cases e with
     |ret r=>exact h
     |B7 t'=>have⟨U,X,h3⟩:=h.elim id gh;rw[lm,N7]at U;exact U
    ·unfold Vt;have ht':(N7 s f.subs (if QK f.kind then f.name::W else W) g.subs).bind (H9 t)=some t':=ht'
     refine Z.pure ?_;show RM ((some t).bind _) _;rw[ax,ht'];exact⟨fun e he=>by cases he;rfl,fun he=>by cases he⟩
    ·show RM ((some t).bind _) _;rw[ax,hr.1];exact⟨fun e he=>(by cases he),fun _=>hr.2⟩
   ·rw[hr.1];exact⟨fun e he=>(by cases he),fun _=>hr.2⟩
  have d4V:∀c:UInt8,c=33\/c=63->gY s f=c::f.name->aA s f g=some [⟨c::f.name,g.name,zf⟩]->(QK f.kind->c=63)->Z (fun n=>ze (pK n) (aZ s f W) g env (gZ s) true) (RM (((aA s f g).bind (H9 env)).bind fun s'=>(cat (J8 s.words W f.words g.words) (N7 s f.subs (if QK f.kind then f.name::W else W) g.subs)).bind (H9 s'))):=by
   intro c K hm hpt hq;have mT:c=33\/c=46\/c=63:=K.elim .inl fun h=>.inr (.inr h);unfold ze;simp only[cond_true,hmn,hm,hpt];have e0:(some [(⟨c::f.name,g.name,zf⟩:C4)]).bind (H9 env)=U4 env ⟨c::f.name,g.name,zf⟩:=by show H9 env [_]=_;rw[H9];cases U4 env ⟨c::f.name,g.name,zf⟩<;>rfl
   rw[e0];refine Z.bind (d4x he mT f.name g.name) fun v Q=>?_;cases hp:U4 env ⟨c::f.name,g.name,zf⟩with
   |none=>rw[hp]at Q;have U:=Q.2 rfl;exact Z.cond (fun _=>Z.pure ⟨fun e he=>(by cases he),fun _=>rfl⟩) (fun e=>by rw[U]at e;cases e)
   |some t=>
    rw[hp]at Q;have U:=Q.1 _ rfl;subst U;refine Z.cond (fun e=>by cases e) (fun _=>?_);have hm1:=hh.mono (Ck hp).2.1;refine rest t (Ui he (yY mT) hp) hm1 ?_;by_cases dW:QK f.kind
    ·rw[if_pos dW];intro x A;rcases ce.1 A with rfl|A
     ·have:=(Ck hp).1;obtain rfl:=hq dW;show(assoc (63::f.name) t).isSome=true;rw[show assoc (63::f.name) t=some _ from this];rfl
     ·exact hm1 x A
    ·rw[if_neg dW];exact hm1
  refine Z.cond (fun e=>?_) (fun e=>?_)
  ·have hq:QK f.kind:=of_decide_eq_true e;rw[e];exact d4V 63 (.inr rfl) (by unfold gY;rw[if_pos hq]) (by unfold aA;rw[if_pos hq]) (fun _=>rfl)
  ·have hq:¬QK f.kind:=of_decide_eq_false e;have CB:gY s f=if f.kind=2/\f.name∈s.A8 then 33::f.name else f.name:=by unfold gY;rw[if_neg hq,if_neg hp]
   refine Z.bind (P:=fun v=>f.kind=2->v=decide (gY s f∈(gZ s).A8)) (Z.gd (fun _=>Z.pure fun _=>rfl) (fun g h=>by simp[h]at g)) fun v Q=>?_;by_cases zh:f.kind=2/\f.name∈s.A8
   ·rw[if_pos zh]at CB;have U:=Q zh.1;rw[CB,decide_eq_true (show(33::f.name:J)∈(gZ s).A8 from Cn.2 zh.2)]at U;have e2:(bif decide (f.kind=2)then v else false)=true:=by simp[zh.1,U]
    rw[e2];exact d4V 33 (.inl rfl) CB (by unfold aA;rw[if_neg hq,if_pos zh]) (fun h=>absurd h hq)
   ·rw[if_neg zh]at CB;have e2:(bif decide (f.kind=2)then v else false)=false:=by
     by_cases X:f.kind=2
     ·have U:=Q X;rw[CB,decide_eq_false (show ¬f.name∈(gZ s).A8 from fun h=>hplain X (d4y (.inl rfl) h))]at U;simp[U]
     ·simp[X]
    rw[e2];have hpt:aA s f g=if f.name=g.name then some []else none:=by unfold aA;rw[if_neg hq,if_neg zh]
    unfold ze;simp only[cond_false,hmn,CB,hpt];refine Z.cond (fun e=>Z.pure ?_) (fun e=>?_)
    ·replace e:=bx e;rw[if_neg e];exact⟨fun e he=>(by cases he),fun _=>rfl⟩
    ·replace e:=bx e;rw[if_pos e];exact rest env he hh (by rw[if_neg hq];exact hh)
end
theorem i7V{s:B1}(hs:S4 s){g:O}(hg:D6 g):Z (fun n=>Gb n s g) (fun r=>r=Cp s g):=by
 have aX:=gF s;have hl:=hs.len;have hnd:=hs.form.2.1;have lD:(qs s.form).length<=200:=by rw[ji];have:=jj s.form;omega
 unfold Gb;refine Z.bind (i7r hs) fun v1 hv1=>?_;subst hv1;refine Z.bind (i7R _ s.form (ae _) hs.form.1 g hg [] [] (fun k b h=>by cases h) (fun x A=>by cases A)) fun v2 hv2=>?_;unfold Cp;cases hp:(R3 s s.form [] g).bind (H9 [])with
 |none=>rw[hp]at hv2;have U:=hv2.2 rfl;exact Z.cond (fun _=>Z.pure rfl) (fun e=>by rw[U]at e;cases e)
 |some env=>
  rw[hp]at hv2;have U:=hv2.1 _ rfl;subst U;have UN:jH env:=by
   cases hq:R3 s s.form [] g with
   |none=>rw[hq]at hp;cases hp
   |some ps=>rw[hq]at hp;exact d4s (fun k b h=>by cases h) (Ul s _ _ _ (D6.sm g hg) ps hq) hp
  refine Z.cond (fun e=>by cases e) (fun _=>?_);have hqv:Z (fun n=>ko n (gZ s).form) (fun r=>r=(qs s.form).map (63:: ·)):=by
   refine(Ft _ (gZ s).form (ae _) ?_).mono fun r hr=>?_
   ·show w9 (aZ s s.form [])<=_;rw[d4B];omega
   ·rw[hr];exact d4D s s.form []
  refine Z.bind hqv fun v3 W4=>?_;subst W4;refine Z.B3 (P:=L2 (fun t=>t=(qs s.form).map fun x=>E0 env (63::x)) (fun _=>False)) ((Z.range (fun k t=>t=((qs s.form).take k).map fun x=>E0 env (63::x)) (fun _=>False) (fun _=>False) B5 (fun k t S F=>?_)).mono fun e he=>?_) (fun t F=>?_) nofun
  ·rw[bc]at S;unfold Vu;rw[get_map _ S];refine Z.B9 (Z.w6 ?_ (Z.pure ?_))
   ·rw[Y7,F];simp only[aa,bc,db,an,cz];omega
   ·show _=_;rw[H8 S,cm,F];rfl
  ·grind
  have F:t=(qs s.form).map fun x=>E0 env (63::x):=F;subst F;unfold Vv Cb;have hfl: [(gZ s).words,(gZ s).A8,(gZ s).parts].flatten=s.words.map (46:: ·)++s.A8.map (33:: ·)++s.parts.map (43:: ·):=by simp[gZ]
  refine Z.bind (P:=fun v=>v=s.words.map (46:: ·)++s.A8.map (33:: ·)++s.parts.map (43:: ·)) ?_ fun v Q=>Z.bind hqv fun v3 W4=>?_
  ·unfold BH;simp only[hfl];exact Z.bind (P:=fun v=>v=s.words.map (46:: ·)++s.A8.map (33:: ·)++s.parts.map (43:: ·)) (Z.w6 ⟨by simp,by simp only[aa,bc];omega⟩ (Z.pure rfl)) fun v Q=>Z.pure Q
  subst Q W4;have i7W: [s.words.map (46:: ·)++s.A8.map (33:: ·)++s.parts.map (43:: ·),(qs s.form).map (63:: ·)].flatten=E4 s:=by simp[E4]
  refine Z.bind (P:=fun v=>v=E4 s) ?_ fun v Q=>?_
  ·unfold BH;rw[i7W];refine Z.w6 ⟨by simp,?_⟩ (Z.pure rfl);unfold E4;simp only[aa,bc];omega
  subst Q;have hkl:(E4 s).length<=500:=by grind
  have hk1:∀k∈E4 s,1<=k.length:=fun k S=>by grind
  have pG:∀w∈s.words,(46::w)∈E4 s:=fun w hw=>al.2 (.inl (al.2 (.inl (al.2 (.inl (Cn.2 hw))))));refine Z.B3 (P:=L2 (fun t=>t=((E4 s).map fun k=>(⟨k.drop 1,E0 env k,C9 env k⟩:C4))/\¬caught s env) (fun r=>r=([],false)/\caught s env)) ((Z.range (fun k t=>t=(((E4 s).take k).map fun k=>(⟨k.drop 1,E0 env k,C9 env k⟩:C4))/\∀w∈s.words,(46::w)∈(E4 s).take k->E0 env (46::w)∉ (qs s.form).map fun x=>E0 env (63::x)) (fun _=>False) (fun r=>r=([],false)/\caught s env) ⟨by simp,fun w _ h=>by simp at h⟩ (fun k t S F=>?_)).mono fun e he=>?_) (fun t F=>?_) (fun r hr=>?_)
  ·have⟨pF,jg⟩:=F;unfold Vw;have hc2:∀x,za x ((qs s.form).map fun x=>E0 env (63::x))=some (decide (x∈(qs s.form).map fun x=>E0 env (63::x))):=fun x=>i7y x _ (by rw[bc];omega);simp only[jl,hc2,ax];refine Z.bind (P:=fun v=>(∃w∈s.words,Am.get (E4 s) k=46::w)->v=decide (E0 env (Am.get (E4 s) k)∈(qs s.form).map fun x=>E0 env (63::x))) (Z.gd (fun _=>Z.pure fun _=>rfl) (fun h ⟨w,hw,e⟩=>?_)) fun v Q=>Z.cond (fun e=>Z.pure ⟨rfl,?_⟩) (fun e=>?_)
   ·rw[e,decide_eq_true (show(46::w:J)∈(gZ s).words from Cn.2 hw)]at h;cases h
   ·replace e:=bx e;have⟨e1,e2⟩:=e;have⟨w,hw,e3⟩:=bj.1 (show _∈s.words.map (46:: ·)from e1);have:=Q ⟨w,hw,e3.symm⟩;rw[e2]at this;refine⟨w,hw,?_⟩;rw[e3];exact of_decide_eq_true this.symm
   ·have gS:∀w∈s.words,(46::w)∈(E4 s).take (k+1)->E0 env (46::w)∉ (qs s.form).map fun x=>E0 env (63::x):=fun w hw hm=>by
     rw[H8 S]at hm;rcases al.1 hm with hm|hm
     ·exact jg w hw hm
     ·rw[ao]at hm;intro K;have U:=Q ⟨w,hw,hm.symm⟩;rw[<-hm,decide_eq_true K]at U;rw[<-hm,decide_eq_true (show(46::w:J)∈(gZ s).words from Cn.2 hw),U]at e;cases e
    have nZ:t.length=k:=by rw[pF,bc,db];omega
    have eR:((E4 s).take (k+1)).map (fun k=>(⟨k.drop 1,E0 env k,C9 env k⟩:C4))=t++[⟨(Am.get (E4 s) k).drop 1,E0 env (Am.get (E4 s) k),C9 env (Am.get (E4 s) k)⟩]:=by rw[H8 S,cm,pF];rfl
    refine Z.w6 ⟨by omega,hk1 _ (get_mem S)⟩ (Z.cond (fun e=>?_) (fun e=>Z.B9 (Z.w6 ?_ (Z.pure ?_))))
    ·refine Z.bind (i7x _ _ (ae _) (i7z UN (Am.get (E4 s) k))) fun v Q=>Z.B9 (Z.w6 ?_ (Z.pure ?_))
     ·exact lT
     ·subst Q;exact⟨eR.symm,gS⟩
    ·exact lT
    ·exact⟨eR.symm,gS⟩
  ·cases e with
   |ret r=>exact he
   |B7 t=>have⟨U,X⟩:=he.elim id gh;rw[cj]at U;refine⟨U,fun⟨w,hw,K⟩=>?_⟩;exact X w hw (by rw[cj];exact pG w hw) K
  ·obtain⟨rfl,F⟩:=F;unfold Vx;refine Z.pure ?_;simp only[if_neg F]
  ·obtain⟨rfl,hr⟩:=hr;simp only[if_pos hr]
theorem qZ{f:O}(h:D6 f):sR f.kind=some (f.subs.length:Int):=by
 have o:=(Q6 f).1 h;have h0:0<=R2 f.kind:=by have:=o.1;omega
 unfold sR;rw[o.1];unfold R2 at h0⊢;by_cases e1:f.kind=1\/f.kind=2\/f.kind=3
 ·grind
 ·grind
theorem i7X{R:List IT}(hR:R.length<=100000):∀(m:Nat)(g:O),am g<=m->D6 g->∀(W:List J)(p:Nat),R8 R g W p->Z (fun n=>CD n R (p:Int)) (fun r=>r=g):=by
 intro m;induction m with
 |zero=>exact z0
 |succ m ih=>
  intro g hg hwf W p h;have⟨hp,hit,hl⟩:=(fG R g W p).1 h;have dU:=((Q6 g).1 hwf).2.1;have hsl:=((Q6 g).1 hwf).2.2.1;refine Z.succ ?_;simp only[CD];refine Z.w6 M ?_;refine Z.B3 (Z.R5 g.words.length (fun k s=>s=(g.words.take k,(k:Int))) (fun t=>t=g.words) (fun _=>False) B5 (fun k s S hs=>?_) (fun s hs=>?_)) (fun t F=>?_) (fun r hr=>?_)
  ·subst hs;unfold LJ;simp only[ai,hit];refine Z.cond (fun _=>Z.w6 M (Z.B9 (Z.w6 ?_ (Z.pure ?_)))) ab
   ·exact lT
   ·show(_,_)=(_,_);rw[H8 S,F9 M M];rfl
  ·subst hs;unfold LJ;simp only[ai,hit];refine Z.cond ab (fun _=>Z.pure ?_);show g.words.take g.words.length=_;rw[cj]
  ·have F:t=g.words:=F;subst F;unfold Vy;have hw:wr .i64 ((p:Int)+1)=((p+1:Nat):Int):=by rw[F9 M M];rfl
   rw[hw];refine Z.B3 (Z.R5 g.subs.length (fun k s=>s=(g.subs.take k,((p+1+B8 (g.subs.take k):Nat):Int),(k:Int))) (fun t=>t=g.subs) (fun _=>False) (by simp[B8]) (fun k s S hs=>?_) (fun s hs=>?_)) (fun t F=>?_) (fun r hr=>?_)
   ·subst hs;have hsub:=V8.get hl k S;have hsz:=W3 S;have hle:=hsub.le;have⟨hp2,Vz,_⟩:=(fG R _ _ _).1 hsub;unfold LK;have e0:(Am.get R p).kind=g.kind:=by rw[hit]
    simp only[ai,e0,qZ hwf,ax];refine Z.cond (fun _=>?_) ab;refine Z.bind (ih _ M (hY hwf S) _ _ hsub) fun v Q=>Z.B9 (Z.w6 ?_ (Z.w6 M (Z.pure ?_)))
    ·exact lT
    ·subst Q;show(_,_,_)=(_,_,_);rw[Vz,H8 S,lC,F9 M M,da (p+1)];rfl
   ·subst hs;unfold LK;have e0:(Am.get R p).kind=g.kind:=by rw[hit]
    simp only[ai,e0,qZ hwf,ax];refine Z.cond ab (fun _=>Z.pure ?_);show g.subs.take g.subs.length=_;rw[cj]
   ·have F:t=g.subs:=F;subst F;unfold VA;refine Z.pure ?_;rw[ai,hit];exact Lp g
   ·exact gh hr
  ·exact gh hr
theorem i7Y:∀(m:Nat)(f:O),am f<=m->D6 f->∀g:O,D6 g->∀r1 r2,(D2 f).map kB++r1=(D2 g).map kB++r2->f=g/\r1=r2:=by
 intro m;induction m with
 |zero=>exact z0
 |succ m ih=>
  intro f hf hwf g aC r1 r2 h;rw[pC f,pC g,bv,bv,di,di]at h;have⟨h0,h⟩:=en h;unfold kB at h0;simp only[mv]at h0;have⟨S,hn,hw⟩:=h0;have hlen:f.subs.length=g.subs.length:=by have o1:=((Q6 f).1 hwf).1;have o2:=((Q6 g).1 aC).1;rw[S]at o1;omega
  have parts:∀(l l':List O),(∀x∈l,am x<=m/\D6 x)->(∀x∈l',D6 x)->l.length=l'.length->(M4 l).map kB++r1=(M4 l').map kB++r2->l=l'/\r1=r2:=by
   intro l;induction l with
   |nil=>
    intro l' _ _ hl h;cases l' with
    |nil=>rw[M4]at h;exact⟨rfl,h⟩
    |cons y l'=>simp at hl
   |cons x l ihl=>
    intro l' A hy hl h;cases l' with
    |nil=>simp at hl
    |cons y l'=>rw[M4,M4,cm,cm,bl,bl]at h;have⟨e1,h⟩:=ih x (A x (az ..)).1 (A x (az ..)).2 y (hy y (az ..)) _ _ h;have⟨e2,h⟩:=ihl l' (fun z hz=>A z (aw _ hz)) (fun z hz=>hy z (aw _ hz)) (by simpa using hl) h;rw[e1,e2];exact⟨rfl,h⟩
  have⟨hs,hr⟩:=parts f.subs g.subs (fun x A=>by
   obtain⟨j,L,rfl⟩:=U0.1 A;have:=W3 L;exact⟨by omega,hY hwf L⟩) (fun x A=>by
   obtain⟨j,L,rfl⟩:=U0.1 A;exact hY aC L) hlen h
  refine⟨?_,hr⟩;rw[<-Lp f, <-Lp g,S,hn,hw,hs]
theorem i7Z(s:B1):∀(m:Nat)(f:O),am f<=m->M1 f->∀(g:O),D6 g->∀(W:List J)(ps:List C4),R3 s f W g=some ps->Cov s f W ps:=by
 intro m;induction m with
 |zero=>exact z0
 |succ m ih=>
  intro f hf hwf g aC W ps h;have hnf:=kg ((dR f).1 hwf).1;have hng:=(Q6 g).1 aC;rw[Uj]at h;by_cases hp:F6 s f
  ·rw[if_pos hp]at h;cases h;have S:f.kind=2:=hp.1.1;have Gc:¬QK f.kind:=by rw[S];decide
   have hsub:f.subs=[]:=dt.1 (by have:=hnf.1;rw[S]at this;have e:R2 2=0:=D5;omega);have sK:f.words=[]:=dt.1 hp.1.2;have hfl:D2 f=[f]:=by rw[pC,hsub,M4]
   refine⟨fun x A=>?_,fun x A=>?_,fun x A U X=>?_,fun x A U=>?_⟩
   ·rw[oZ,sK,hsub,F5]at A;rcases A with A|A
    ·cases A.1
    ·exact A.elim
   ·rw[dH,if_neg Gc,hsub,J6]at A;cases A
   ·rw[hfl,W8.one,V6.one]at A;have:f.name=x:=by grind
    exact absurd (this▸hp.2) X
   ·rw[hfl,V6.one]at A;exact⟨_,ao.2 rfl,by rw[<-A.2.1]⟩
  ·rw[if_neg hp]at h;split at h
   ·cases h
   ·rename_i K;have⟨S,hl⟩:=not_or.1 K;have S:=dl.1 S;have hl:=dl.1 hl;obtain⟨x1,y1,U,X,rfl⟩:=aB h;obtain⟨x2,y2,h3,h4,rfl⟩:=aB X;have hsl:f.subs.length=g.subs.length:=by grind
    have parts:∀(l gs:List O)(W:List J)(ps:List C4),(∀y∈l,am y<=m/\M1 y)->(∀y∈gs,D6 y)->l.length=gs.length->N7 s l W gs=some ps->Lz s l W ps:=by
     intro l;induction l with
     |nil=>intro gs W ps _ _ _ _;exact Lz.nil
     |cons a l ihl=>
      intro gs W ps ha H hl h;cases gs with
      |nil=>simp at hl
      |cons b gs=>
       rw[N7]at h;obtain⟨x,y,e1,e2,rfl⟩:=aB h;have⟨c1,c2,c3,c4⟩:=ih a (ha a (az ..)).1 (ha a (az ..)).2 b (H b (az ..)) W x e1;have⟨d1,d2,d3,d4⟩:=ihl gs W y (fun z hz=>ha z (aw _ hz)) (fun z hz=>H z (aw _ hz)) (by simpa using hl) e2;have AM:∀ {p:C4->Prop},(∃b∈x,p b)->∃b∈x++y,p b:=fun⟨b,H,h⟩=>⟨b,al.2 (.inl H),h⟩;have R:∀ {p:C4->Prop},(∃b∈y,p b)->∃b∈x++y,p b:=fun⟨b,H,h⟩=>⟨b,al.2 (.inr H),h⟩;refine⟨fun z hz hw=>?_,fun z hz=>?_,fun z hz hw hn=>?_,fun z hz hw=>?_⟩
       ·rw[F5]at hz;exact hz.elim (fun h=>AM (c1 z h hw)) (fun h=>R (d1 z h hw))
       ·rw[J6]at hz;exact(al.1 hz).elim (fun h=>AM (c2 z h)) (fun h=>R (d2 z h))
       ·rw[M4,W8.app,V6.app]at hz;rcases hz with(h|h)|(h|h)
        ·exact AM (c3 z (.inl h) hw hn)
        ·exact R (d3 z (.inl h) hw hn)
        ·exact AM (c3 z (.inr h) hw hn)
        ·exact R (d3 z (.inr h) hw hn)
       ·rw[M4,V6.app]at hz;exact hz.elim (fun h=>AM (c4 z h hw)) (fun h=>R (d4 z h hw))
    have⟨d1,d2,d3,d4⟩:=parts f.subs g.subs _ y2 (fun y hy=>by
     obtain⟨j,L,rfl⟩:=U0.1 hy;have:=W3 L;exact⟨by omega,vM hwf L⟩) (fun y hy=>by
     obtain⟨j,L,rfl⟩:=U0.1 hy;exact hY aC L) hsl h4
    have xv:∀ {p:C4->Prop},(∃b∈x1,p b)->∃b∈x1++(x2++y2),p b:=fun⟨b,H,h⟩=>⟨b,al.2 (.inl H),h⟩;have BB:∀ {p:C4->Prop},(∃b∈x2,p b)->∃b∈x1++(x2++y2),p b:=fun⟨b,H,h⟩=>⟨b,al.2 (.inr (al.2 (.inl H))),h⟩;have yk:∀ {p:C4->Prop},(∃b∈y2,p b)->∃b∈x1++(x2++y2),p b:=fun⟨b,H,h⟩=>⟨b,al.2 (.inr (al.2 (.inr H))),h⟩;refine⟨fun x A hw=>?_,fun x A=>?_,fun x A hw hn=>?_,fun x A hw=>?_⟩
    ·rw[oZ]at A;rcases A with A|A
     ·exact BB ((d4M hl h3 x A.1).2 A.2 hw)
     ·exact yk (d1 x A hw)
    ·rw[dH]at A;rcases al.1 A with A|A
     ·by_cases hq:QK f.kind
      ·rw[if_pos hq,ao]at A;subst A;unfold aA at U;rw[if_pos hq]at U;cases U;exact xv ⟨_,ao.2 rfl,rfl⟩
      ·rw[if_neg hq]at A;cases A
     ·exact yk (d2 x A)
    ·rw[pC, <-r4,W8.app,V6.app,W8.one,V6.one]at A;have hd:f.kind=2->f.name=x->∃b∈x1,b.name=33::x:=fun e1 e2=>by
      have mR:¬QK f.kind:=by rw[e1];decide
      unfold aA at U;rw[if_neg mR,if_pos ⟨e1,by rw[e2];exact hw⟩]at U;cases U;exact⟨_,ao.2 rfl,by rw[e2]⟩
     rcases A with(h|h)|(h|h)
     ·exact xv (hd h.1 h.2.1)
     ·exact yk (d3 x (.inl h) hw hn)
     ·exact xv (hd h.1 h.2.1)
     ·exact yk (d3 x (.inr h) hw hn)
    ·rw[pC, <-r4,V6.app,V6.one]at A;rcases A with h|h
     ·exact absurd ⟨⟨h.1,h.2.2⟩,by rw[h.2.1];exact hw⟩ hp
     ·exact yk (d4 x h hw)
theorem VB{s:B1}(hs:S4 s){g:O}(hg:D6 g){ps:List C4}{e:Env}(hp:R3 s s.form [] g=some ps)(he:H9 [] ps=some e):∀j,j<(E4 s).length->∃b,assoc (Am.get (E4 s) j) e=some b:=fun j L=>by
 have⟨c1,c2,c3,c4⟩:=i7Z s _ s.form (ae _) hs.form.1 g hg [] ps hp;have fin:∀k,(∃b∈ps,b.name=k)->∃b,assoc k e=some b:=fun k ⟨b,H,S⟩=>⟨b,by rw[<-S];exact(jG _ _ _ he).1 b H⟩;have aX:=gF s;rcases UF L with⟨U,e1⟩|⟨a,U,rfl,e1⟩|⟨a,U,rfl,e1⟩|⟨a,U,rfl,e1⟩<;>rw[e1]
 ·exact fin _ (c1 _ (hs.words _ (get_mem U)) (get_mem U))
 ·refine fin _ (c3 _ (hs.A8 _ (get_mem U)) (get_mem U) fun hq=>?_);have⟨b,H,e⟩:=U0.1 hq;exact hs.uniq (s.words.length+a) (s.words.length+s.A8.length+b) M M (by rw[Li U,Lj H,e])
 ·exact fin _ (c4 _ (hs.parts _ (get_mem U)).2 (get_mem U))
 ·exact fin _ (c2 _ (get_mem U))
theorem d4X{env:List (J×J)}{w:J}(h:w∈env.map (·.1)):∃p∈env,sub env w=p.2:=by have⟨p,hp,e⟩:=bj.1 (d3E h);exact⟨p,hp,e.symm⟩
mutual
def L0(φ:J->J):O->O
 | .mk k n w s=>.mk k (if QK k then φ n else n) (w.map φ) (N8 φ s)
def N8(φ:J->J):List O->List O
 | []=>[]
 |f::l=>L0 φ f::N8 φ l
end
section
variable (φ:J->J)
theorem zi(f:O):L0 φ f= .mk f.kind (if QK f.kind then φ f.name else f.name) (f.words.map φ) (N8 φ f.subs):=by cases f;rw[L0];rfl
mutual
theorem d4Y:∀f:O,w9 (L0 φ f)=w9 f
 | .mk k n w s=>by rw[L0,w9,w9,d4Z s]
theorem d4Z:∀l:List O,B8 (N8 φ l)=B8 l
 | []=>by rw[N8]
 |f::l=>by rw[N8,B8,B8,d4Y f,d4Z l]
end
mutual
theorem d5a:∀f:O,R0 (L0 φ f)=R0 f
 | .mk k n w s=>by rw[L0,R0,R0,d5b s]
theorem d5b:∀l:List O,N4 (N8 φ l)=N4 l
 | []=>by rw[N8]
 |f::l=>by rw[N8,N4,N4,d5a f,d5b l]
end
mutual
theorem d5c:∀f:O,nq (L0 φ f)=nq f
 | .mk k n w s=>by rw[L0,nq,nq,d5d s]
theorem d5d:∀l:List O,K2 (N8 φ l)=K2 l
 | []=>by rw[N8]
 |f::l=>by rw[N8,K2,K2,d5c f,d5d l]
end
variable {φ}
theorem d5e(hφ:∀a b,φ a=φ b->a=b):∀(env:List (J×J)) (w:J),(w∉env.map (·.1)->φ w=w)->sub (env.map fun p=>(φ p.1,p.2)) (φ w)=sub env w
 | [],w,h=>by rw[jn,vJ,vJ];exact h B5
 |(a,b)::env,w,h=>by
  rw[bv,kh,kh];by_cases e:a=w
  ·grind
  ·rw[if_neg e,if_neg fun e2=>e (hφ _ _ e2)];exact d5e hφ env w fun hm=>h fun hm2=>by grind
mutual
theorem d5f(hφ:∀a b,φ a=φ b->a=b)(yb:Nat->J):∀(f:O) (env:List (J×J)) (i:Nat),(∀x,E5 f (env.map (·.1)) x->φ x=x)->F8 yb (L0 φ f) (env.map fun p=>(φ p.1,p.2)) i=F8 yb f env i
 | .mk k n w s,env,i,hf=>by
   have e1:(w.map φ).map (sub (env.map fun p=>(φ p.1,p.2)))=w.map (sub env):=by rw[ja];exact e8 fun x A=>d5e hφ env x fun h=>hf x (by rw[E5];exact .inl ⟨A,h⟩)
   rw[L0,F8,F8,e1];by_cases hq:QK k
   ·simp only[if_pos hq];have:=VD hφ yb s ((n,yb i)::env) (i+1) (fun x A=>hf x (by rw[E5,if_pos hq];exact .inr A));rw[bv]at this;rw[this]
   ·simp only[if_neg hq];rw[VD hφ yb s env (i+0) (fun x A=>hf x (by rw[E5,if_neg hq];exact .inr A))]
theorem VD(hφ:∀a b,φ a=φ b->a=b)(yb:Nat->J):∀(l:List O) (env:List (J×J)) (i:Nat),(∀x,F5 l (env.map (·.1)) x->φ x=x)->L4 yb (N8 φ l) (env.map fun p=>(φ p.1,p.2)) i=L4 yb l env i
 | [],env,i,_=>by rw[N8,L4,L4]
 |f::l,env,i,hf=>by rw[N8,L4,L4,d5f hφ yb f env i (fun x A=>hf x (by rw[F5];exact .inl A)),d5c,VD hφ yb l env _ (fun x A=>hf x (by rw[F5];exact .inr A))]
end
mutual
theorem VE(hφ:∀a b,φ a=φ b->a=b):∀(f:O)(W:List J)(x:J),E5 (L0 φ f) (W.map φ) (φ x)↔E5 f W x
 | .mk k n w s,W,x=>by
   have hm:∀(l:List J)(y:J),φ y∈l.map φ↔y∈l:=fun l y=>by grind
   rw[L0,E5,E5,hm,hm];by_cases hq:QK k
   ·simp only[if_pos hq];rw[<-bv,VF hφ s]
   ·simp only[if_neg hq];rw[VF hφ s]
theorem VF(hφ:∀a b,φ a=φ b->a=b):∀(l:List O)(W:List J)(x:J),F5 (N8 φ l) (W.map φ) (φ x)↔F5 l W x
 | [],W,x=>by rw[N8,F5,F5]
 |f::l,W,x=>by rw[N8,F5,F5,VE hφ f,VF hφ l]
end
mutual
theorem d5g:∀(f:O)(W:List J)(x:J),E5 (L0 φ f) W x->∃y,x=φ y
 | .mk k n w s,W,x,h=>by
   rw[L0,E5]at h;rcases h with h|h
   ·grind
   ·exact d5h s _ x h
theorem d5h:∀(l:List O)(W:List J)(x:J),F5 (N8 φ l) W x->∃y,x=φ y
 | [],W,x,h=>by rw[N8,F5]at h;exact h.elim
 |f::l,W,x,h=>by rw[N8,F5]at h;exact h.elim (d5g f W x) (d5h l W x)
end
theorem i8a(hφ:∀a b,φ a=φ b->a=b){f:O}(hf:∀x,E5 f [] x->φ x=x):E5 (L0 φ f) []=E5 f []:=by
 funext x;refine propext ⟨fun h=>?_,fun h=>?_⟩
 ·obtain⟨y,rfl⟩:=d5g f [] x h;have X:=(VE hφ f [] y).1 h;rw[hf y X];exact X
 ·have:=(VE hφ f [] x).2 h;rw[hf x h]at this;exact this
theorem i8b(hφ:∀a b,φ a=φ b->a=b){f:O}(hf:∀x,E5 f [] x->φ x=x):cf (L0 φ f)=cf f:=by show F8 (NN (E5 (L0 φ f) [])) (L0 φ f) [] 0=F8 (NN (E5 f [])) f [] 0;rw[i8a hφ hf];exact d5f hφ _ f [] 0 hf
end
mutual
def dJ:O->J->List J
 | .mk _ _ _ l,p=>p::bJ l p 0
def bJ:List O->J->Nat->List J
 | [],_,_=>[]
 |f::l,p,i=>dJ f (p++cb i)++bJ l p (i+1)
end
theorem LL(f:O)(p:J):dJ f p=p::bJ f.subs p 0:=by cases f;rw[dJ];rfl
mutual
theorem Gd:∀(f:O)(p:J),(dJ f p).length=w9 f
 | .mk _ _ _ l,p=>by rw[dJ,w9,an,d5i l];omega
theorem d5i:∀(l:List O)(p:J)(i:Nat),(bJ l p i).length=B8 l
 | [],p,i=>by rw[bJ,B8];rfl
 |f::l,p,i=>by rw[bJ,B8,aa,Gd f,d5i l]
end
theorem d5j:∀(l:List O)(x:O)(p:J)(i:Nat),bJ (l++[x]) p i=bJ l p i++dJ x (p++cb (i+l.length))
 | [],x,p,i=>by simp[bJ]
 |a::l,x,p,i=>by rw[di,bJ,bJ,d5j l,bl,an,show i+1+l.length=i+(l.length+1)by omega]
mutual
theorem d5k:∀(f:O)(p:J),∀q∈dJ f p,p <+: q
 | .mk _ _ _ l,p,q,h=>by
   rw[dJ]at h;rcases ce.1 h with rfl|h
   ·exact BV _
   ·have⟨j,_,_,L⟩:=Ge l p 0 q h;exact(AN _ _).trans L
theorem Ge:∀(l:List O)(p:J)(i:Nat),∀q∈bJ l p i,∃j,i<=j/\j<i+l.length/\(p++cb j) <+: q
 | [],p,i,q,h=>by rw[bJ]at h;cases h
 |f::l,p,i,q,h=>by
  rw[bJ]at h;rcases al.1 h with h|h
  ·exact⟨i,ae _,by rw[an];omega,d5k f _ q h⟩
  ·have⟨j,U,X,h3⟩:=Ge l p (i+1) q h;exact⟨j,by omega,by rw[an];omega,h3⟩
end
theorem i8c{a b q:J}(U:a <+: q)(X:b <+: q)(hl:a.length=b.length):a=b:=
 (List.prefix_of_prefix_length_le U X M).eq_of_length hl
theorem d5l{p q:J}{i j:Nat}(u:i<10)(L:j<10)(U:(p++cb i) <+: q)(X:(p++cb j) <+: q):i=j:=by
 have hl:(p++cb i).length=(p++cb j).length:=by rw[aa,aa,zd u,zd L]
 exact Cd (List.append_cancel_left (i8c U X hl))
mutual
theorem VG:∀(f:O)(p:J),P6 f->(dJ f p).Nodup
 | .mk k n w l,p,h=>by rw[P6]at h;rw[dJ,ia];refine⟨fun hm=>?_,d5m l p 0 M h.2.2⟩;have⟨j,_,L,h3⟩:=Ge l p 0 p hm;have:=h3.length_le;rw[aa,zd M]at this;omega
theorem d5m:∀(l:List O)(p:J)(i:Nat),i+l.length<=10->cY l->(bJ l p i).Nodup
 | [],p,i,_,_=>by rw[bJ];exact lh
 |f::l,p,i,u,h=>by rw[cY]at h;rw[an]at u;rw[bJ,im];refine⟨VG f _ h.1,d5m l p (i+1) M h.2,fun x A y hy e=>?_⟩;subst e;have⟨j,U,X,h3⟩:=Ge l p (i+1) x hy;have:=d5l M M (d5k f _ x A) h3;omega
end
def gH:List J->Nat->List (J×Int)
 | [],_=>[]
 |p::l,i=>(p,(i:Int))::gH l (i+1)
theorem d5n:∀(a b:List J)(i:Nat),gH (a++b) i=gH a i++gH b (i+a.length)
 | [],b,i=>rfl
 |x::a,b,i=>by rw[di,gH,gH,d5n a b,di,an,show i+1+a.length=i+(a.length+1)by omega]
theorem d5o:∀(a:List J)(i:Nat),(gH a i).length=a.length
 | [],i=>rfl
 |x::a,i=>by rw[gH,an,an,d5o a]
theorem d5p:∀(a:List J)(i:Nat),(gH a i).map (·.1)=a
 | [],i=>rfl
 |x::a,i=>by rw[gH,bv,d5p a]
theorem d5q:∀(a:List J)(i j:Nat),a.Nodup->j<a.length->assoc (Am.get a j) (gH a i)=some ((i+j:Nat):Int)
 | [],i,j,_,h=>by simp at h
 |x::a,i,0,hn,_=>by
  show(if x=x then some (i:Int)else _)=_
  rw[if_pos rfl];rfl
 |x::a,i,j+1,hn,h=>by
  rw[ia]at hn;have L:j<a.length:=by simpa using h
  have hne:Am.get a j≠x:=fun e=>hn.1 (e▸get_mem L);show(if Am.get a j=x then some (i:Int)else assoc (Am.get a j) (gH a (i+1)))=_
  rw[if_neg hne,d5q a (i+1) j hn.2 L,show i+1+j=i+(j+1)by omega]
theorem d5r{xx:Type}{k:J}{v:xx}:∀ {m:List (J×xx)},k∉m.map (·.1)->I4 k v m=m++[(k,v)]
 | [],_=>rfl
 |(a,C')::m,h=>by
  rw[bv,ce,not_or]at h;show(if k=a then(k,v)::m else(a,C')::I4 k v m)=_
  rw[if_neg h.1,d5r h.2];rfl
theorem i8d:∀(m:Nat)(f:O),am f<=m->P6 f->∀(path:J) (B:List C5) (c:Int) (mp:List (J×Int)) (C':List C6),path.length+w9 f<=100000->(∀q∈mp.map (·.1),¬path <+: q)->
 Z (fun n=>CF n f path B c mp C') (fun r=>r=mp++gH (dJ f path) mp.length):=by
 intro m
 induction m with
 |zero=>exact z0
 |succ m ih=>
  intro f hf N6 path B c mp C' hp hfr;have hsl:=sP N6;have hnd:=Y8 f;refine Z.succ ?_;simp only[CF];rw[d5r fun h=>hfr _ h (BV _)];refine Z.B9 (Z.B3 (P:=L2 (fun t=>t=mp++(path,((mp.length:Nat):Int))::gH (bJ f.subs path 0) (mp.length+1)) (fun _=>False)) ((Z.range (fun k t=>t=mp++(path,((mp.length:Nat):Int))::gH (bJ (f.subs.take k) path 0) (mp.length+1)) (fun _=>False) (fun _=>False) (by rw[fe,bJ,gH]) (fun k s S hs=>?_)).mono fun e he=>?_) (fun t F=>?_) nofun)
  ·have hsz:=W3 S;have fD:=eO S;have hd:=zd (k:=k) M;have hlk:(f.subs.take k).length=k:=by rw[db];omega
   unfold VH;simp only[FL (m:=k) M,ax];have i8e:s.map (·.1)=mp.map (·.1)++path::bJ (f.subs.take k) path 0:=by rw[hs,cm,bv,d5p]
   have i8f:s.length=mp.length+1+(bJ (f.subs.take k) path 0).length:=by rw[hs,aa,an,d5o];omega
   refine Z.w6 (by unfold P8;omega) (Z.bind (ih _ M (pJ N6 S) _ B c s C' ?_ ?_) fun v Q=>Z.pure ?_)
   ·show(path++cb k).length+_<=_;rw[aa];omega
   ·intro q hq hpre;have hpre:(path++cb k) <+: q:=hpre;rw[i8e]at hq;rcases al.1 hq with hq|hq
    ·exact hfr q hq ((AN _ _).trans hpre)
    ·rcases ce.1 hq with rfl|hq
     ·grind
     ·have⟨j,_,X,h3⟩:=Ge _ _ _ q hq;have:=d5l M M hpre h3;omega
   ·show v=_;rw[Q,i8f,hs,H8 S,d5j,d5n,hlk,dq];show(mp++_::_)++gH (dJ (Am.get f.subs k) (path++cb k)) _=_;rw[bl,di]
  ·grind
  ·have F:t=_:=F;subst F;unfold VI;refine Z.pure ?_;rw[LL,gH]
section
variable (fr to:J) (a:Nat)
theorem q2{k:Int}(h:k=2):¬QK k:=by subst h;unfold QK;omega
variable {to}
variable (to)
end
def xw(i:Nat):J:=120::cb i
def xs(a:Nat):List J:=(List.range a).map xw
section
variable {φ:J->J}
end
section
variable {φ:J->J}
end
section
variable (h:J->J)
end
section
variable (B:List C5)
end
section
variable {φ:J->J} {B:List C5}
end
theorem d5s:∀(m:Nat)(f:O),am f<=m->∀(W I8:List J)(x:J),(∀y∈I8,y∈W)->E5 f W x->E5 f I8 x:=by
 intro m;induction m with
 |zero=>exact z0
 |succ m ih=>
  intro f hf W I8 x hs A;have hL:∀l:List O,(∀y∈l,am y<=m)->∀(W I8:List J),(∀y∈I8,y∈W)->F5 l W x->F5 l I8 x:=by
   intro l;induction l with
   |nil=>intro _ W I8 _ h;rw[F5]at h;exact h.elim
   |cons a l ihl=>intro hl W I8 hs h;rw[F5]at h⊢;exact h.elim (fun h=>.inl (ih a (hl a (az ..)) W I8 x hs h)) fun h=>.inr (ihl (fun y hy=>hl y (aw _ hy)) W I8 hs h)
  rw[oZ]at A⊢;rcases A with⟨U,X⟩|A
  ·grind
  ·refine .inr (hL f.subs (fun y hy=>?_) _ _ (fun y hy=>?_) A)
   ·obtain⟨j,L,rfl⟩:=U0.1 hy;have:=W3 L;omega
   ·grind
mutual
theorem d5t(N:Nat->J):∀(f:O) (env:List (J×J)) (W:List J) (i:Nat) (x:J),E5 (F8 N f env i) W x->x∉W/\((∃p∈env,x=p.2)\/E5 f (env.map (·.1)) x)
 | .mk k n w s,env,W,i,x,h=>by
   refine⟨KA _ _ _ h,?_⟩;rw[F8,E5]at h;rw[E5];rcases h with⟨U,X⟩|h
   ·obtain⟨y,hy,rfl⟩:=bj.1 U;by_cases hm:y∈env.map (·.1)
    ·have⟨p,hp,e⟩:=d4X hm;exact .inl ⟨p,hp,e⟩
    ·rw[Sv fun p hp e=>hm (bj.2 ⟨p,hp,e⟩)];exact .inr (.inl ⟨hy,hm⟩)
   ·by_cases hq:QK k
    ·simp only[if_pos hq]at h⊢;have⟨U,X⟩:=VJ N s _ _ _ x h;rcases X with⟨p,hp,e⟩|X
     ·grind
     ·grind
    ·simp only[if_neg hq]at h⊢;have⟨_,X⟩:=VJ N s _ _ _ x h;exact X.elim .inl fun h=>.inr (.inr h)
theorem VJ(N:Nat->J):∀(l:List O) (env:List (J×J)) (W:List J) (i:Nat) (x:J),F5 (L4 N l env i) W x->x∉W/\((∃p∈env,x=p.2)\/F5 l (env.map (·.1)) x)
 | [],env,W,i,x,h=>by rw[L4,F5]at h;exact h.elim
 |f::l,env,W,i,x,h=>by
  rw[L4,F5]at h;rw[F5];rcases h with h|h
  ·have⟨U,X⟩:=d5t N f env W _ x h;exact⟨U,X.elim .inl fun h=>.inr (.inl h)⟩
  ·have⟨U,X⟩:=VJ N l env W _ x h;exact⟨U,X.elim .inl fun h=>.inr (.inr h)⟩
end
section
variable {B:List C5}
end
section
variable (h:J->J)
end
section
variable {B:List C5}
end
structure sS(a b:O):Prop where
 free:E5 a []=E5 b []
 VK:nq a=nq b
 same:∀(yb:Nat->J)(j:Nat),F8 yb a [] j=F8 yb b [] j
theorem sS.symm{a b:O}(h:sS a b):sS b a:=⟨h.free.symm,h.VK.symm,fun yb j=>(h.same yb j).symm⟩
theorem sS.trans{a b c:O}(h:sS a b)(h':sS b c):sS a c:=⟨h.free.trans h'.free,h.VK.trans h'.VK,fun yb j=>(h.same yb j).trans (h'.same yb j)⟩
theorem sS.cf{a b:O}(h:sS a b):cf a=cf b:=by show F8 (NN (E5 a [])) a [] 0=F8 (NN (E5 b [])) b [] 0;rw[h.free,h.same]
def pL:List C4->J->J
 | [],x=>x
 |b::l,x=>if b.name=x then b.text else pL l x
theorem d5u{l:List C4}{x:J}:∀k,k<=l.length->(∀j,j<k->(Am.get l j).name≠x)->pL l x=pL (l.drop k) x:=by
 induction l with
 |nil=>grind
 |cons b l ih=>
  intro k S h;cases k with
  |zero=>rfl
  |succ k=>rw[List.drop_succ_cons,pL,if_neg (show ¬b.name=x from h 0 M)];exact ih k (by simpa using S) fun j L=>h (j+1) M
theorem VL(l:List C4)(x:J):Z (fun _=>zj l x) (fun r=>r=pL l x):=by
 unfold zj;refine Z.B3 (Z.scan (fun k _=>∀j,j<k->(Am.get l j).name≠x) (fun k r=>(Am.get l k).name=x/\r=(Am.get l k).text) (fun j L=>absurd L (co _)) (fun k C' S u=>?_)) (fun t F=>?_) (fun r hr=>?_)
 ·unfold VN;refine Z.cond (fun e=>Z.pure ?_) (fun e=>Z.pure ?_)
  ·replace e:=bx e;exact⟨e,rfl⟩
  ·replace e:=bx e;intro j L;by_cases ej:j=k
   ·subst ej;exact e
   ·exact u j M
 ·unfold VO;refine Z.pure ?_;rw[d5u l.length (ae _) F,lm];rfl
 ·obtain⟨k,_,S,u,e1,rfl⟩:=hr;rw[d5u k M u,kz S,pL];have e2:l[k]=Am.get l k:=by simp[Am.get,S]
  rw[e2,if_pos e1]
theorem LM(De:J->J)(B':J->O)(x:J):∀P:List J,pL (P.map fun w=>⟨w,De w,B' w⟩) x=if x∈P then De x else x
 | []=>rfl
 |w::P=>by
  rw[bv,pL,LM De B' x P];by_cases e:w=x
  ·subst e;simp
  ·grind
structure LN(r:C5):Prop where
 good:S4 r.from_
 to:Y0 r.B4
 root:¬F6 r.from_ r.from_.form
theorem S4.VP{s:B1}(h:S4 s):s.parts.Nodup:=by
 have hn:(E3 s).Nodup:=by rw[List.nodup_iff_pairwise_ne];rw[List.pairwise_iff_getElem];intro i j u L hij e;refine h.uniq i j hij L ?_;simp only[Am.get,ac,b7 u,b7 L,e]
 unfold E3 at hn;exact(im.1 hn).2.1
def wz(m:List (J×List J)):Prop:=∀x l,assoc x m=some l->l.length<=100000
theorem i8g(p:J->Bool)(l:List J):(flt p l).length<=l.length:=List.length_filter_le _ _
section
variable (fr:J) (a:Nat)
end
section
variable {fr to:J} {a:Nat}
end
mutual
def eS(s:B1):O->O->J->List (J×J×O)
 | .mk k n w l,g,p=>if F6 s (.mk k n w l)then [(n,p,g)]else cI s l g.subs p 0
def cI(s:B1):List O->List O->J->Nat->List (J×J×O)
 | [],_,_,_=>[]
 |f::l,gs,p,i=>match gs with
  | []=>[]
  |g::gs=>eS s f g (p++cb i)++cI s l gs p (i+1)
end
theorem i8h(s:B1)(f g:O)(p:J):eS s f g p=if F6 s f then [(f.name,p,g)]else cI s f.subs g.subs p 0:=by cases f;rw[eS];rfl
mutual
def mU(s:B1):O->J->List (J×J)
 | .mk k n w l,p=>if F6 s (.mk k n w l)then [(n,p)]else ig s l p 0
def ig(s:B1):List O->J->Nat->List (J×J)
 | [],_,_=>[]
 |f::l,p,i=>mU s f (p++cb i)++ig s l p (i+1)
end
theorem d5v(s:B1)(f:O)(p:J):mU s f p=if F6 s f then [(f.name,p)]else ig s f.subs p 0:=by cases f;rw[mU];rfl
mutual
theorem VQ(s:B1):∀(f g:O)(W:List J)(p:J)(ps:List C4),R3 s f W g=some ps->∀e∈eS s f g p,(⟨43::e.1,[],e.2.2⟩:C4)∈ps
 | .mk k n w l,g,W,p,ps,h,e,he=>by
   rw[R3]at h;rw[eS]at he;by_cases hp:F6 s (.mk k n w l)
   ·grind
   ·rw[if_neg hp]at h he;by_cases S:k≠g.kind\/w.length≠g.words.length
    ·rw[if_pos S]at h;cases h
    ·rw[if_neg S]at h;obtain⟨x,y,_,X,rfl⟩:=aB h;obtain⟨x2,y2,_,h4,rfl⟩:=aB X;exact bz _ (bz _ (d5w s l g.subs _ p 0 y2 h4 e he))
theorem d5w(s:B1):∀(l gs:List O)(W:List J)(p:J)(i:Nat)(ps:List C4),N7 s l W gs=some ps->∀e∈cI s l gs p i,(⟨43::e.1,[],e.2.2⟩:C4)∈ps
 | [],gs,W,p,i,ps,_,e,he=>by rw[cI]at he;cases he
 |f::l,[],W,p,i,ps,_,e,he=>by rw[cI]at he;cases he
 |f::l,g::gs,W,p,i,ps,h,e,he=>by
  rw[N7]at h;rw[cI]at he;obtain⟨x,y,U,X,rfl⟩:=aB h;rcases al.1 he with he|he
  ·exact de _ (VQ s f g W _ x U e he)
  ·exact bz _ (d5w s l gs W p (i+1) y X e he)
end
mutual
theorem d5x(s:B1):∀(f g:O)(p:J),((eS s f g p).flatMap fun e=>dJ e.2.2 e.2.1).Sublist (dJ g p)
 | .mk k n w l,g,p=>by
   rw[eS];by_cases hp:F6 s (.mk k n w l)
   ·rw[if_pos hp];simp
   ·rw[if_neg hp,LL];exact(VT s l g.subs p 0).cons p
theorem VT(s:B1):∀(l gs:List O)(p:J)(i:Nat),((cI s l gs p i).flatMap fun e=>dJ e.2.2 e.2.1).Sublist (bJ gs p i)
 | [],gs,p,i=>by rw[cI];exact kp _
 |f::l,[],p,i=>by rw[cI];exact kp _
 |f::l,g::gs,p,i=>by rw[cI,bJ,kn];exact(d5x s f g _).append (VT s l gs p (i+1))
end
structure i8i(g:O)(p:J)(e:J×J×O):Prop where
 ar:D6 e.2.2
 size:am e.2.2<=am g
 len:e.2.1.length+w9 e.2.2<=p.length+w9 g
mutual
theorem VU(s:B1):∀(f g:O)(p:J),D6 g->∀e∈eS s f g p,i8i g p e
 | .mk k n w l,g,p,hg,e,he=>by
   rw[eS]at he;by_cases hp:F6 s (.mk k n w l)
   ·rw[if_pos hp,ao]at he;subst he;exact⟨hg,ae _,ae _⟩
   ·rw[if_neg hp]at he;have⟨U,X,h3⟩:=VW s l g.subs p 0 ((Q6 g).1 hg).2.2.2 (by have:=((Q6 g).1 hg).2.2.1;omega) e he;have:=Y8 g;refine⟨U,?_,by omega⟩;cases g with
    |mk k2 n2 w2 s2=>have X:am e.2.2<am s2:=X;simp only[O.mk.sizeOf_spec];omega
theorem VW(s:B1):∀(l gs:List O)(p:J)(i:Nat),R9 gs->i+gs.length<=10->∀e∈cI s l gs p i,D6 e.2.2/\am e.2.2<am gs/\e.2.1.length+w9 e.2.2<=p.length+1+B8 gs
 | [],gs,p,i,_,_,e,he=>by rw[cI]at he;cases he
 |f::l,[],p,i,_,_,e,he=>by rw[cI]at he;cases he
 |f::l,g::gs,p,i,hg,u,e,he=>by
  rw[R9]at hg;rw[an]at u;rw[cI]at he;rw[B8,uu];rcases al.1 he with he|he
  ·have h:=VU s f g _ hg.1 e he;have X:=h.size;have h3:=h.len;rw[aa,zd M]at h3;exact⟨h.ar,by omega,by omega⟩
  ·have⟨U,X,h3⟩:=VW s l gs p (i+1) hg.2 M e he;exact⟨U,by omega,by omega⟩
end
mutual
theorem LO(s:B1):∀(f g:O)(W:List J)(p q:J)(ps:List C4),D6 f->D6 g->R3 s f W g=some ps->(eS s f g (p++q)).map (fun e=>(e.1,e.2.1))=(mU s f q).map fun e=>(e.1,p++e.2)
 | .mk k n w l,g,W,p,q,ps,hf,hg,h=>by
   rw[R3]at h;rw[eS,mU];by_cases hp:F6 s (.mk k n w l)
   ·rw[if_pos hp,if_pos hp];rfl
   ·rw[if_neg hp]at h;rw[if_neg hp,if_neg hp];by_cases S:k≠g.kind\/w.length≠g.words.length
    ·rw[if_pos S]at h;cases h
    ·rw[if_neg S]at h;rw[not_or,dl,dl]at S;obtain⟨x,y,_,X,rfl⟩:=aB h;obtain⟨x2,y2,_,h4,rfl⟩:=aB X;rw[D6]at hf;have h5:=(Q6 g).1 hg;exact d5y s l g.subs _ p q 0 y2 hf.2.2.2 h5.2.2.2 (by have a:=hf.1;have b:=h5.1;rw[S.1]at a;omega) h4
theorem d5y(s:B1):∀(l gs:List O)(W:List J)(p q:J)(i:Nat)(ps:List C4),R9 l->R9 gs->l.length=gs.length->N7 s l W gs=some ps->(cI s l gs (p++q) i).map (fun e=>(e.1,e.2.1))=(ig s l q i).map fun e=>(e.1,p++e.2)
 | [],gs,W,p,q,i,ps,_,_,_,_=>by rw[cI,ig];rfl
 |f::l,[],W,p,q,i,ps,_,_,hl,_=>by simp at hl
 |f::l,g::gs,W,p,q,i,ps,hf,hg,hl,h=>by rw[R9]at hf hg;rw[N7]at h;obtain⟨x,y,U,X,rfl⟩:=aB h;rw[cI,ig,cm,cm,bl,LO s f g W p (q++cb i) x hf.1 hg.1 U,d5y s l gs W p q (i+1) y hf.2 hg.2 (by simpa using hl) X]
end
mutual
theorem LP(s:B1):∀(f:O)(q:J),D6 f->∀x∈D2 f,F6 s x->∃r,(x.name,r)∈mU s f q
 | .mk k n w l,q,hf,x,A,hp=>by
   rw[D6]at hf;rw[D2]at A;rw[mU];by_cases h:F6 s (.mk k n w l)
   ·rw[if_pos h];have S:k=2:=h.1.1;have e:R2 2=0:=rfl;have hl:l=[]:=dt.1 (by have:=hf.1;rw[S,e]at this;omega);subst hl;rw[M4,ao]at A;subst A;exact⟨q,ao.2 rfl⟩
   ·rw[if_neg h];rcases ce.1 A with rfl|A
    ·exact absurd hp h
    ·exact d5z s l q 0 hf.2.2.2 x A hp
theorem d5z(s:B1):∀(l:List O)(q:J)(i:Nat),R9 l->∀x∈M4 l,F6 s x->∃r,(x.name,r)∈ig s l q i
 | [],q,i,_,x,A,_=>by rw[M4]at A;cases A
 |f::l,q,i,hf,x,A,hp=>by
  rw[R9]at hf;rw[M4]at A;rw[ig];rcases al.1 A with A|A
  ·obtain⟨r,hr⟩:=LP s f _ hf.1 x A hp;exact⟨r,de _ hr⟩
  ·have⟨r,hr⟩:=d5z s l q (i+1) hf.2 x A hp;exact⟨r,bz _ hr⟩
end
theorem Gf{xx:Type}(x:J):∀a b:List (J×xx),assoc x (a++b)=(assoc x a).or (assoc x b)
 | [],b=>by simp[assoc]
 |(k,v)::a,b=>by
  rw[di,assoc,assoc];split
  ·rfl
  ·exact Gf x a b
theorem LQ{xx:Type}{x:J}{v:xx}:∀ {m:List (J×xx)},assoc x m=some v->(x,v)∈m
 |(a,C')::m,h=>by
  rw[assoc]at h;split at h
  ·grind
  ·exact aw _ (LQ h)
theorem LS{xx:Type}{x:J}{v:xx}:∀ {m:List (J×xx)},(x,v)∈m->∃C',assoc x m=some C'
 |(a,C')::m,h=>by
  rw[assoc];by_cases e:x=a
  ·exact⟨C',if_pos e⟩
  ·rw[if_neg e];rcases ce.1 h with h|h
   ·cases h;exact absurd rfl e
   ·exact LS h
theorem i8j(s:B1):∀(b:Nat)(f:O),am f<=b->D6 f->∀(q:J) (m:List (J×J)),q.length+w9 f<=100000->
 Z (fun n=>sT n f q m s.form.kind s.form.name s.form.words s.form.subs s.words s.A8 s.parts) (fun r=>∀x,assoc x r=(assoc x m).or (assoc x (mU s f q))):=by
 intro b
 induction b with
 |zero=>exact z0
 |succ b ih=>
  intro f hf har q m hq;have hsl:=((Q6 f).1 har).2.2.1;have hnd:=Y8 f;have L:∀m1,Z (fun n=>CG (sT n) q f s.form.kind s.form.name s.form.words s.form.subs s.words s.A8 s.parts m1) (fun r=>∀x,assoc x r=(assoc x m1).or (assoc x (ig s f.subs q 0))):=fun m1=>by
   unfold CG;refine Z.B3 (P:=L2 (fun t=>∀x,assoc x t=(assoc x m1).or (assoc x (ig s f.subs q 0))) (fun _=>False)) ((Z.range (fun k t=>∀x,assoc x t=(assoc x m1).or (assoc x (ig s (f.subs.take k) q 0))) (fun _=>False) (fun _=>False) (fun x=>by rw[fe,ig];simp[assoc]) (fun k t S F=>?_)).mono fun e he=>?_) (fun t F=>?_) nofun
   ·have hsz:=W3 S;have fD:=eO S;have hd:=zd (k:=k) M;have hlk:(f.subs.take k).length=k:=by rw[db];omega
    unfold VX;simp only[FL (m:=k) M,ax];refine Z.w6 (by unfold P8;omega) (Z.bind (ih _ M (hY har S) _ t ?_) fun v Q=>Z.pure fun x=>?_)
    ·show(q++cb k).length+_<=_;rw[aa];omega
    ·have eR:∀(l:List O)(y:O)(i:Nat),ig s (l++[y]) q i=ig s l q i++mU s y (q++cb (i+l.length)):=fun l=>by
      induction l with
      |nil=>intro y i;simp[ig]
      |cons a l ihl=>intro y i;rw[di,ig,ig,ihl,bl,an,show i+1+l.length=i+(l.length+1)by omega]
     rw[Q,F,H8 S,eR,Gf,hlk,dq,Option.or_assoc]
     rfl
   ·grind
   ·unfold VY;exact Z.pure F
  refine Z.succ ?_;simp only[sT];show Z (fun n=>(gd (!(assoc f.name m).isSome) (lF s f) default).bind _) _;rw[yW];refine Z.bind (P:=fun v=>(assoc f.name m).isSome=false->v=decide (F6 s f)) (Z.gd (fun _=>Z.pure fun _=>rfl) (fun e h=>by rw[h]at e;cases e)) fun v Q=>?_;refine Z.cond (fun e=>?_) (fun e=>(L m).mono fun r hr x=>?_)
  ·cases hs:(assoc f.name m).isSome with
   |true=>rw[hs]at e;cases e
   |false=>
    rw[hs,Q hs]at e;have hp:F6 s f:=by simpa using e
    have hn:assoc f.name m=none:=by simpa using hs
    have e2:R2 2=0:=rfl;have hl:f.subs=[]:=dt.1 (by have:=((Q6 f).1 har).1;rw[hp.1.1,e2]at this;omega);refine Z.B9 ((L _).mono fun r hr x=>?_);rw[hr x,hl,ig,d5v,if_pos hp];by_cases ex:x=f.name
    ·rw[ex,oc,hn];simp[assoc]
    ·rw[od ex];simp[assoc,ex]
  ·rw[hr x,d5v];cases hs:(assoc f.name m).isSome with
   |true=>
    by_cases hp:F6 s f
    ·have e2:R2 2=0:=rfl;have hl:f.subs=[]:=dt.1 (by have:=((Q6 f).1 har).1;rw[hp.1.1,e2]at this;omega);rw[if_pos hp,hl,ig];by_cases ex:x=f.name
     ·rw[ex];have⟨C',hu⟩:=Option.isSome_iff_exists.1 hs;rw[hu];rfl
     ·simp[assoc,ex]
    ·rw[if_neg hp]
   |false=>grind
theorem i8k{s:B1}(h:S4 s):Z (fun n=>Gg n s) (fun r=>∀x,assoc x r=assoc x (mU s s.form [])):=by have:=h.form.2.1;unfold Gg;refine Z.bind (i8j s _ s.form (ae _) (M1.ar _ h.form.1) [] [] (by simp;omega)) fun v Q=>Z.pure fun x=>?_;rw[Q x];simp[assoc]
structure i8l(s:B1)(g:O)(path:J)(pf:J->O)(pq:J->J):Prop where
 ar:∀v∈s.parts,D6 (pf v)
 size:∀v∈s.parts,am (pf v)<am g
 len:∀v∈s.parts,(pq v).length+w9 (pf v)<=path.length+w9 g
 sub:∀v∈s.parts,∀q∈dJ (pf v) (pq v),q∈bJ g.subs path 0
 Gh:∀v∈s.parts,∀w∈s.parts,v≠w->∀q∈dJ (pf v) (pq v),q∉dJ (pf w) (pq w)
theorem d5A{α:Type}{h:α->List J}:∀ {l:List α},(l.flatMap h).Nodup->∀a∈l,∀b∈l,a≠b->∀q∈h a,q∉h b
 | [],_,a,ha,_,_,_,_,_,_=>by cases ha
 |c::l,hn,a,ha,b,H,hab,q,hq,fq=>by
  rw[qf,im]at hn;rcases ce.1 ha with e1|U
  ·grind
  ·rcases ce.1 H with e2|X
   ·grind
   ·exact d5A hn.2.1 a U b X hab q hq fq
theorem d5B{s:B1}(h:S4 s)(zl:¬F6 s s.form){g:O}(hg:D6 g){ps:List C4}(hps:R3 s s.form [] g=some ps){e:Env}(he:H9 [] ps=some e){first:List (J×J)}(hfi:∀x,assoc x first=assoc x (mU s s.form []))(path:J):
 i8l s g path (fun v=>C9 e (43::v)) (fun v=>path++(assoc v first).getD default):=by
 have har:=M1.ar _ h.form.1
 have key:∀v∈s.parts,(v,path++(assoc v first).getD default,C9 e (43::v))∈eS s s.form g path:=fun v Q=>by
  have⟨_,x,A,U,X,h3⟩:=h.parts v Q;have⟨r,hr⟩:=LP s s.form [] har x A ⟨⟨U,h3⟩,by rw[X];exact Q⟩;rw[X]at hr;have⟨C',hu⟩:=LS hr;have hm:=LQ hu;have Gi:=LO s s.form g [] path [] ps har hg hps;rw[gf]at Gi;have hm2:(v,path++C')∈(eS s s.form g path).map (fun e=>(e.1,e.2.1)):=by grind
  have⟨o,ho,eo⟩:=bj.1 hm2;have⟨o1,o2,o3⟩:=o;simp only[mv]at eo;obtain⟨rfl,rfl⟩:=eo;have H:=(jG _ _ _ he).1 _ (VQ s s.form g [] path ps hps _ ho);have e3:C9 e (43::o1)=o3:=by unfold C9;rw[show assoc (43::o1) e=some ⟨43::o1,[],o3⟩from H];rfl
  rw[e3,hfi,hu];exact ho
 have zm:=i8h s s.form g path
 rw[if_neg zl]at zm
 have hsub:=VT s s.form.subs g.subs path 0
 rw[<-zm]at hsub
 have hnd:((eS s s.form g path).flatMap fun e=>dJ e.2.2 e.2.1).Nodup:=(VG g path (D6.sm g hg)).sublist (d5x s s.form g path)
 refine⟨fun v Q=>(VU s s.form g path hg _ (key v Q)).ar,fun v Q=>?_,fun v Q=>(VU s s.form g path hg _ (key v Q)).len,fun v Q q hq=>hsub.subset (ed.2 ⟨_,key v Q,hq⟩),fun v Q w hw VZ q hq fq=>?_⟩
 ·have h0:=key v Q;rw[zm]at h0;have X:=(VW s s.form.subs g.subs path 0 ((Q6 g).1 hg).2.2.2 (by have:=((Q6 g).1 hg).2.2.1;omega) _ h0).2.1;cases g with
  |mk k2 n2 w2 s2=>have X:am (C9 e (43::v))<am s2:=X;simp only[O.mk.sizeOf_spec];omega
 ·exact d5A hnd _ (key v Q) _ (key w hw) (fun e=>VZ (congrArg Prod.fst e)) q hq fq
mutual
def Z8(s:B1):O->O->Nat->List (J×Nat)
 | .mk k n w l,g,p=>if F6 s (.mk k n w l)then [(n,p)]else fH s l g.subs (p+1)
def fH(s:B1):List O->List O->Nat->List (J×Nat)
 | [],_,_=>[]
 |f::l,gs,p=>match gs with
  | []=>[]
  |g::gs=>Z8 s f g p++fH s l gs (p+w9 g)
end
theorem d5C(s:B1)(f g:O)(p:Nat):Z8 s f g p=if F6 s f then [(f.name,p)]else fH s f.subs g.subs (p+1):=by cases f;rw[Z8];rfl
structure bK(s:B1)(RG:List IT)(xo:List (J×Nat))(env:Env)(out:List C4)(st:List Bool)(K9:List Int):Prop where
 ok:jH env
 lo:out.length=(E4 s).length
 ls:st.length=(E4 s).length
 lf:K9.length=(E4 s).length
 no:∀j,j<(E4 s).length->assoc (Am.get (E4 s) j) env=none->Am.get st j=false/\Am.get out j=default/\∀x,Am.get (E4 s) j=43::x->assoc x xo=none
 yes:∀j,j<(E4 s).length->∀b,assoc (Am.get (E4 s) j) env=some b->Am.get st j=true/\Am.get out j=⟨(Am.get (E4 s) j).drop 1,b.text,b.form⟩/\(∀x,Am.get (E4 s) j=43::x->∃(p:Nat) (ar:List J),Am.get K9 j=(p:Int)/\assoc x xo=some p/\R8 RG b.form ar p/\D6 b.form)
theorem bK.put{s:B1}(hs:S4 s){RG:List IT}{xo:List (J×Nat)}{env env':Env}{out:List C4}{st:List Bool}{K9 fr':List Int}(h:bK s RG xo env out st K9){b:C4}{j:Nat}(L:j<(E4 s).length)(S:Am.get (E4 s) j=b.name)(H:lH b)(hp:U4 env b=some env'){v:C4}(Q:v=⟨(Am.get (E4 s) j).drop 1,b.text,b.form⟩)
 (hfl:fr'.length=(E4 s).length) (iY:∀i,i≠j->Am.get fr' i=Am.get K9 i) {O':List (J×Nat)} (hO:∀i x,i<(E4 s).length->i≠j->Am.get (E4 s) i=43::x->assoc x O'=assoc x xo) (hfj:∀x,Am.get (E4 s) j=43::x->∃(p:Nat) (ar:List J),Am.get fr' j=(p:Int)/\assoc x O'=some p/\R8 RG b.form ar p/\D6 b.form):
 bK s RG O' env' (out.set j v) (st.set j true) fr':=by
 have⟨p1,p2,p3⟩:=Ck hp
 refine⟨Ui h.ok H hp,by rw[mm];exact h.lo,by rw[mm];exact h.ls,hfl,fun i u hn=>?_,fun i u c K=>?_⟩
 ·by_cases e:i=j
  ·grind
  ·rw[kC e,kC e];have ha:assoc (Am.get (E4 s) i) env=none:=by
    cases ha:assoc (Am.get (E4 s) i) env with
    |none=>rfl
    |some c=>rw[p2 _ _ ha]at hn;cases hn
   have⟨q1,q2,q3⟩:=h.no i u ha;exact⟨q1,q2,fun x A=>(hO i x u e A).trans (q3 x A)⟩
 ·by_cases e:i=j
  ·subst e;rw[S,p1]at K;cases K;rw[get_set_same (by rw[h.ls];exact u),get_set_same (by rw[h.lo];exact u)];exact⟨rfl,Q,hfj⟩
  ·rw[kC e,kC e,iY i e];rcases p3 _ _ K with U|⟨U,_⟩
   ·have⟨q1,q2,q3⟩:=h.yes i u c U;refine⟨q1,q2,fun x A=>?_⟩;have⟨p,ar,z1,z2,z3⟩:=q3 x A;exact⟨p,ar,z1,(hO i x u e A).trans z2,z3⟩
   ·exact absurd (key_inj hs u L (by rw[S,U])) e
theorem bK.congr{s:B1}{O':List (J×Nat)}{env:Env}(h:bK s RG xo env out st K9)(e:∀x,assoc x O'=assoc x xo):bK s RG O' env out st K9:=
 ⟨h.ok,h.lo,h.ls,h.lf,fun j L hn=>by
  have⟨q1,q2,q3⟩:=h.no j L hn;exact⟨q1,q2,fun x A=>(e x).trans (q3 x A)⟩,fun j L b H=>by
  have⟨q1,q2,q3⟩:=h.yes j L b H;refine⟨q1,q2,fun x A=>?_⟩;have⟨p,ar,z1,z2,z3⟩:=q3 x A;exact⟨p,ar,z1,(e x).trans z2,z3⟩⟩
theorem d5D{s:B1}(hs:S4 s){env:Env}(h:bK s RG xo env out st K9)(K:c=33\/c=46\/c=63){x:J}(y:J){j:Nat}(L:j<(E4 s).length)(S:Am.get (E4 s) j=c::x):
 (U4 env ⟨c::x,y,zf⟩=none/\Am.get st j=true/\(Am.get out j).text≠y)\/(∃env',U4 env ⟨c::x,y,zf⟩=some env'/\¬(Am.get st j=true/\(Am.get out j).text≠y)/\bK s RG xo env' (out.set j ⟨Am.get (E3 s++qs s.form) j,y,zf⟩) (st.set j true) K9):=by
 have hne:¬ ∃x,Am.get (E4 s) j=43::x:=fun⟨z,e⟩=>by grind
 have mkR:∀env',U4 env ⟨c::x,y,zf⟩=some env'->bK s RG xo env' (out.set j ⟨Am.get (E3 s++qs s.form) j,y,zf⟩) (st.set j true) K9:=fun env' hp=>h.put hs L S (yY K) hp (by rw[d4N L]) h.lf (fun _ _=>rfl) (O':=xo) (fun _ _ _ _ _=>rfl) (fun x A=>absurd ⟨x,A⟩ hne)
 cases ha:assoc (c::x) env with
 |none=>
  have hp:U4 env ⟨c::x,y,zf⟩=some (I4 (c::x) ⟨c::x,y,zf⟩ env):=by unfold U4;simp only[ha]
  refine .inr ⟨_,hp,fun U=>?_,mkR _ hp⟩;rw[(h.no j L (by rw[S];exact ha)).1]at U;cases U.1
 |some b'=>
  have⟨y1,y2,_⟩:=h.yes j L b' (by rw[S];exact ha);have e2:(Am.get out j).text=b'.text:=by rw[y2]
  have⟨n1,n2⟩:=h.ok _ _ ha;have hiff:b'=⟨c::x,y,zf⟩↔b'.text=y:=by
   constructor
   ·intro e;rw[e]
   ·intro e;rcases n2.2 with⟨z,e1,_⟩|⟨c',z,e1,hc',e3⟩
    ·grind
    ·cases b';simp only at n1 e3 e;rw[n1,e,e3]
  by_cases H:b'.text=y
  ·have hp:U4 env ⟨c::x,y,zf⟩=some env:=by unfold U4;simp only[ha];rw[if_pos (hiff.2 H)]
   exact .inr ⟨_,hp,fun U=>U.2 (e2.trans H),mkR _ hp⟩
  ·have hp:U4 env ⟨c::x,y,zf⟩=none:=by unfold U4;simp only[ha];rw[if_neg fun e=>H (hiff.1 e)]
   exact .inl ⟨hp,y1,by rw[e2];exact H⟩
theorem i8n{s:B1}(hs:S4 s){RG:List IT}{xo:List (J×Nat)}{env:Env}{out:List C4}{st:List Bool}{K9:List Int}(h:bK s RG xo env out st K9){c:UInt8}(K:c=33\/c=46\/c=63){x:J}{j:Nat}(L:j<(E4 s).length)(S:Am.get (E4 s) j=c::x)
 {Y:List C4×List Bool×List Int×Int×Int} {p k:Nat} (hp:Y.2.2.2.1=(p:Int)) (pG:k<(Am.get RG p).words.length) (vK:(Am.get RG p).words.length<=3):
 Z (fun _=>sU (out,st,(k:Int)) RG Y (E3 s++qs s.form) (j:Int)) (fun r=>(∃env' o' s',U4 env ⟨c::x,Am.get (Am.get RG p).words k,zf⟩=some env'/\r= .B7 (o',s',((k+1:Nat):Int))/\bK s RG xo env' o' s' K9)\/(U4 env ⟨c::x,Am.get (Am.get RG p).words k,zf⟩=none/\r= .ret (.ret ([],[],false)))):=by
 have hlo:=h.lo
 have hls:=h.ls
 have mK:=Ct s
 unfold sU
 simp only[hp,ai]
 refine Z.cond (fun _=>?_) ab
 refine Z.w6 M (Z.w6 (W1 fun _=>by omega) (Z.w6 M (Z.w6 (W1 fun _=>by omega) ?_)))
 rcases d5D hs h K (Am.get (Am.get RG p).words k) L S with⟨q1,q2,q3⟩|⟨env',q1,q2,q3⟩
 ·refine Z.cond (fun _=>Z.pure (.inr ⟨q1,rfl⟩)) (fun e=>?_);rw[q2]at e;simp[q3]at e
 ·refine Z.cond (fun e=>?_) (fun _=>Z.B9 (Z.w6 M (Z.w6 M (Z.w6 M (Z.B9 (Z.pure (.inl ⟨env',_,_,q1,?_,q3⟩)))))))
  ·grind
  ·have hw:wr .i64 ((k:Int)+1)=((k+1:Nat):Int):=by rw[F9 M M];rfl
   rw[hw];rfl
theorem i8o{s:B1}(hs:S4 s){RS:List IT}{f g:O}(_:M1 f)(aC:D6 g)(hl:f.words.length=g.words.length){W:List J}(hbd:∀x∈W,x∈qs s.form){i p:Nat}(_:i<RS.length)(_:p<RG.length){e1 e2:Int}{bG:List Bool}
 (hS:Am.get RS i=⟨f.kind,f.name,f.words,f.words.map (fun x=>decide (x∈W)),e1⟩) (hG:Am.get RG p=⟨g.kind,g.name,g.words,bG,e2⟩) {Y:List C4×List Bool×List Int×Int×Int} (hp:Y.2.2.2.1=(p:Int)) (u:Y.2.2.2.2=(i:Int)) 
 {env:Env}   (h:bK s RG xo env out st K9):
 Z (fun n=>D9 (Gk n RS Y s (E3 s++qs s.form) RG) n (out,st,0)) (L2 (fun t=>∃env',(J8 s.words W f.words g.words).bind (H9 env)=some env'/\bK s RG xo env' t.1 t.2 K9) (fun r=>r= .ret ([],[],false)/\(J8 s.words W f.words g.words).bind (H9 env)=none)):=by
 have aX:=gF s
 have hsl:=hs.len
 have hkl:=sO s
 have vK:=((Q6 _).1 aC).2.1
 have mK:=Ct s
 have LV:(Am.get RG p).words=g.words:=by rw[hG]
 refine Z.R5 f.words.length (fun k t=>t.2.2=(k:Int)/\∃e',bK s RG xo e' t.1 t.2.1 K9/\(J8 s.words W f.words g.words).bind (H9 env)=(J8 s.words W (f.words.drop k) (g.words.drop k)).bind (H9 e')) _ _ ⟨rfl,env,h,rfl⟩ (fun k t S F=>?_) (fun t F=>?_)
 ·obtain⟨out,st,kk⟩:=t;obtain⟨zn,e',hr,F⟩:=F;have zn:kk=(k:Int):=zn;have hr:bK s RG xo e' out st K9:=hr;subst zn;have oW:k<g.words.length:=by omega
  rw[FP S,FP oW,J8]at F;unfold Gk;simp only[u,hp,ai,hS];refine Z.cond (fun _=>Z.w6 M (Z.w6 (by rw[bc];omega) ?_)) ab;rw[get_map _ S];have fin:∀(c:UInt8)(j:Nat),c=33\/c=46\/c=63->j<(E4 s).length->Am.get (E4 s) j=c::Am.get f.words k->(J8 s.words W f.words g.words).bind (H9 env)=((J8 s.words W (f.words.drop (k+1)) (g.words.drop (k+1))).map (⟨c::Am.get f.words k,Am.get g.words k,zf⟩:: ·)).bind (H9 e')->
   Z (fun _=>sU (out,st,(k:Int)) RG Y (E3 s++qs s.form) (j:Int)) (cU (fun t=>t.2.2=((k+1:Nat):Int)/\∃e',bK s RG xo e' t.1 t.2.1 K9/\(J8 s.words W f.words g.words).bind (H9 env)=(J8 s.words W (f.words.drop (k+1)) (g.words.drop (k+1))).bind (H9 e')) (fun t=>∃env',(J8 s.words W f.words g.words).bind (H9 env)=some env'/\bK s RG xo env' t.1 t.2 K9) (fun r=>r= .ret ([],[],false)/\(J8 s.words W f.words g.words).bind (H9 env)=none)):=by
   intro c j K L hkk F
   rw[d4u]at F
   have CH:=i8n hs hr K L hkk (Y:=Y) (p:=p) (k:=k) hp (by rw[LV];exact oW) (by rw[LV];exact vK)
   rw[LV]at CH
   refine CH.mono fun r CJ=>?_
   rcases CJ with⟨e'',o',s',U,rfl,h3⟩|⟨U,rfl⟩
   ·rw[U]at F;exact⟨rfl,e'',h3,F⟩
   ·rw[U]at F;exact⟨rfl,F⟩
  by_cases H:Am.get f.words k∈W
  ·rw[if_pos H]at F;rw[decide_eq_true H];refine Z.cond (fun _=>?_) (fun e=>by cases e);simp only[d4O hs,ai,LA];refine Z.w6 M ?_;have lD:(qs s.form).length<=200:=by rw[ji];have:=jj s.form;have:=hs.form.2.1;omega
   refine Z.bind (eP (qs s.form) (Am.get f.words k) M) fun v Q=>?_;rcases Q with⟨hn,_⟩|⟨j,L,lK,_,rfl⟩
   ·exact absurd (hbd _ H) hn
   ·have hw:wr .i64 (((s.words.length+s.A8.length+s.parts.length:Nat):Int)+(j:Int))=((s.words.length+s.A8.length+s.parts.length+j:Nat):Int):=by rw[F9 M M];omega
    rw[hw];exact fin 63 _ (.inr (.inr rfl)) M (by rw[Lx L,lK]) F
  ·rw[if_neg H]at F;rw[decide_eq_false H];refine Z.cond (fun e=>by cases e) (fun _=>?_);refine Z.bind (eP s.words (Am.get f.words k) M) fun v Q=>?_;refine Z.cond (fun e=>?_) (fun e=>?_)
   ·replace e:=bx e;refine Z.bind (eP s.words (Am.get f.words k) M) fun v2 hv2=>?_;have hm:Am.get f.words k∈s.words:=Q.mem.1 e;rw[if_pos hm]at F;rcases hv2 with⟨hn,_⟩|⟨j,L,lK,_,rfl⟩
    ·exact absurd hm hn
    ·exact fin 46 _ (.inr (.inl rfl)) M (by rw[Lw L,lK]) F
   ·replace e:=bx e;have hm:Am.get f.words k∉s.words:=fun hm=>by have:=Q.mem.2 hm;omega
    rw[if_neg hm]at F;rw[LV];refine Z.w6 M (Z.cond (fun e=>Z.pure ?_) (fun e=>?_))
    ·replace e:=bx e;rw[if_neg e]at F;exact⟨rfl,F⟩
    ·replace e:=bx e;rw[if_pos e]at F;unfold sU;refine Z.cond ab (fun _=>Z.pure ⟨?_,e',hr,F⟩);show wr .i64 ((k:Int)+1)=_;rw[F9 M M];rfl
 ·have⟨out,st,kk⟩:=t;obtain⟨zn,e',hr,F⟩:=F;have zn:kk=(f.words.length:Int):=zn;subst zn;unfold Gk;simp only[u,ai,hS];refine Z.cond ab (fun _=>Z.pure ⟨e',?_,hr⟩);rw[lm,d4A]at F;exact F
section
variable {s:B1} {RS RG:List IT} {xo:List (J×Nat)}
theorem i8p(E:Cu s RS RG){f g:O}(_:M1 f)(aC:D6 g){W ar:List J}{i p:Nat}(hS:R8 RS f W i)(hG:R8 RG g ar p)(hpart:F6 s f){env:Env}(h:bK s RG xo env out st K9):
 Z (fun n=>wo n RS s RG (E3 s++qs s.form) (out,st,K9,(p:Int),(i:Int))) (fun c:FV=>(∃env' o' s' f',U4 env ⟨43::f.name,[],g⟩=some env'/\c= .B7 (o',s',f',((p+w9 g:Nat):Int),((i+1:Nat):Int))/\bK s RG (xo++[(f.name,p)]) env' o' s' f')\/(U4 env ⟨43::f.name,[],g⟩=none/\c= .ret ([],[],false))):=by
 have hs:=E.hs
 have aX:=gF s
 have hsl:=hs.len
 have hkl:=sO s
 have mK:=Ct s
 have hlS:=E.lS
 have hlG:=E.lG
 have hlo:=h.lo
 have hls:=h.ls
 have hlf:=h.lf
 have⟨LU,Gm,_⟩:=(fG RS f W i).1 hS
 have⟨Gj,rj,_⟩:=(fG RG g ar p).1 hG
 have r0s:=hG.le
 unfold wo
 simp only[ai,Gm,UG hs]
 refine Z.cond (fun _=>Z.w6 M ?_) ab
 have⟨⟨hk2,hw0⟩,hpm⟩:=hpart
 refine Z.bind (P:=fun v=>0<=v) (Z.gd (fun _=>(eP s.parts f.name M).mono fun v Q=>Q.mem.2 hpm) (fun hh=>by simp[hk2,hw0]at hh)) fun v0 uY=>?_
 refine Z.cond (fun _=>?_) (fun e=>by simp[hk2,hw0,uY]at e)
 refine Z.bind (eP s.parts f.name M) fun v Q=>?_
 rcases Q with⟨hn,_⟩|⟨q,hq,CK,_,rfl⟩
 ·exact absurd hpm hn
 have hJ:s.words.length+s.A8.length+q<(E4 s).length:=by omega
 have hkey:Am.get (E4 s) (s.words.length+s.A8.length+q)=43::f.name:=by rw[UE hq,CK]
 have hw:wr .i64 (((s.words.length+s.A8.length:Nat):Int)+(q:Int))=((s.words.length+s.A8.length+q:Nat):Int):=by rw[F9 M M];omega
 simp only[hw,ai]
 generalize hJd:s.words.length+s.A8.length+q=qa at hJ hkey
 have j7:∀o' s' f',Z (fun _:Nat=>CM (out,st,K9,(p:Int),(i:Int)) RG (o',s',f')) (fun c:FV=>c= .B7 (o',s',f',((p+w9 g:Nat):Int),((i+1:Nat):Int))):=fun o' s' f'=>by unfold CM;simp only[ai,rj];refine Z.w6 M (Z.pure ?_);rw[F9 M M];rfl
 have i8r:lH ⟨43::f.name,[],g⟩:=⟨D6.sm g aC,.inl ⟨f.name,rfl,rfl⟩⟩
 cases ha:assoc (43::f.name) env with
 |none=>
  have⟨n1,n2,n3⟩:=h.no qa hJ (by rw[hkey];exact ha);have hp:U4 env ⟨43::f.name,[],g⟩=some (I4 (43::f.name) ⟨43::f.name,[],g⟩ env):=by unfold U4;simp only[ha]
  simp only[n1];refine Z.w6 M (Z.w6 (W1 fun hh=>(by cases hh)) (Z.w6 M (Z.w6 (W1 fun hh=>(by cases hh)) (Z.w6 ⟨W1 fun hh=>(by cases hh),W1 fun hh=>(by cases hh)⟩ (Z.w6 ⟨W1 fun hh=>(by cases hh),W1 fun hh=>(by cases hh),W1 fun hh=>(by cases hh),W1 fun hh=>(by cases hh)⟩ (Z.w6 ⟨W1 fun hh=>(by cases hh),W1 fun hh=>(by cases hh)⟩ (Z.w6 ⟨W1 fun hh=>(by cases hh),W1 fun hh=>(by cases hh),W1 fun hh=>(by cases hh),W1 fun hh=>(by cases hh)⟩ ?_)))))));refine Z.bind (P:=fun _=>True) (Z.gd (fun hh=>(by cases hh)) (fun _=>trivial)) fun v _=>?_;refine Z.cond (fun e=>by simp at e) (fun _=>Z.cond (fun _=>?_) (fun e=>by simp at e));refine Z.B9 (Z.w6 M (Z.B9 (Z.w6 M (Z.bind (i7X M _ g (ae _) aC ar p hG) fun v Q=>Z.w6 M (Z.B9 ?_)))));subst Q;refine(j7 _ _ _).mono fun c K=>.inl ⟨_,_,_,_,hp,K,?_⟩;refine h.put hs hJ hkey i8r hp (by rw[d4N hJ]) (by rw[mm];exact hlf) (fun a ha=>kC ha) (fun a x ha hne A=>?_) (fun x A=>⟨p,ar,get_set_same M,?_,hG,aC⟩)
  ·have hxn:x≠f.name:=fun e=>hne (key_inj hs ha hJ (by rw[A,hkey,e]));rw[Gf];have h0:assoc x [(f.name,p)]=none:=by simp[assoc,hxn]
   rw[h0];cases assoc x xo<;>rfl
  ·have UL:x=f.name:=by rw[hkey]at A;exact(en A).2.symm
   subst UL;rw[Gf,n3 _ hkey];show assoc f.name [(f.name,p)]=some p;simp[assoc]
 |some b'=>
  have⟨y1,y2,y3⟩:=h.yes qa hJ b' (by rw[hkey];exact ha);have⟨p',P2,z1,z0,z2,z3⟩:=y3 _ hkey;have⟨hp',hit',_⟩:=(fG RG b'.form P2 p').1 z2;have hle':=z2.le;have⟨n1,n2⟩:=h.ok _ _ ha;have Ga:b'.text=[]:=by
   rcases n2.2 with⟨z,e1,e2⟩|⟨c',z,e1,hc',e2⟩
   ·exact e2
   ·grind
  have hiff:b'=⟨43::f.name,[],g⟩↔b'.form=g:=by
   constructor
   ·intro e;rw[e]
   ·intro e;cases b';simp only at n1 Ga e;rw[n1,Ga,e]
  simp only[y1,z1,ai,hit',rj];refine Z.w6 M (Z.w6 (W1 fun _=>by omega) (Z.w6 M (Z.w6 (W1 fun _=>by omega) (Z.w6 ⟨W1 fun _=>by omega,W1 fun _=>by omega⟩ (Z.w6 ⟨W1 fun _=>M,W1 fun _=>M,W1 fun _=>M,W1 fun _=>M⟩ (Z.w6 ⟨W1 fun _=>by omega,W1 fun _=>by omega⟩ (Z.w6 ⟨W1 fun _=>M,W1 fun _=>M,W1 fun _=>M,W1 fun _=>M⟩ ?_)))))));have s1:p'+w9 b'.form-p'=w9 b'.form:=by omega
  have s2:p+w9 g-p=w9 g:=by omega
  rw[s1,s2];refine Z.bind (P:=fun v=>v=true↔b'.form=g) (Z.gd (fun _=>(i7D (by rw[db,List.length_drop];omega) (fun it hit=>by have:=E.wG it (List.mem_of_mem_drop (ov hit));omega)).mono fun v Q=>?_) (fun hh=>(by cases hh))) fun v Q=>?_
  ·rw[Q,decide_eq_true_iff,d4J z2,d4J hG];refine⟨fun e=>?_,fun e=>by rw[e]⟩;exact(i7Y _ b'.form (ae _) z3 g aC [] [] (by rw[e])).1
  by_cases H:b'.form=g
  ·have hv1:=Q.2 H;subst hv1;have hp:U4 env ⟨43::f.name,[],g⟩=some env:=by unfold U4;simp only[ha];rw[if_pos (hiff.2 H)]
   refine Z.cond (fun e=>by cases e) (fun _=>Z.cond (fun e=>by cases e) (fun _=>?_));refine(j7 _ _ _).mono fun c K=>.inl ⟨_,_,_,_,hp,K,h.congr fun x=>?_⟩;rw[Gf];by_cases A:x=f.name
   ·subst A;rw[z0];rfl
   ·have h0:assoc x [(f.name,p)]=none:=by simp[assoc,A]
    rw[h0];cases assoc x xo<;>rfl
  ·have hv1:v=false:=by
    cases v
    ·rfl
    ·exact absurd (Q.1 rfl) H
   subst hv1
   have hp:U4 env ⟨43::f.name,[],g⟩=none:=by unfold U4;simp only[ha];rw[if_neg fun e=>H (hiff.1 e)]
   exact Z.cond (fun _=>Z.pure (.inr ⟨hp,rfl⟩)) (fun e=>by cases e)
theorem d5H(E:Cu s RS RG){f g:O}(hwf:M1 f)(aC:D6 g)(hl:f.words.length=g.words.length){W ar:List J}(hbd:∀x∈W,x∈qs s.form){i p:Nat}(hS:R8 RS f W i)(hG:R8 RG g ar p){i8s:List C4}{st0:List Bool}{env:Env}(h:bK s RG xo env out st K9):
 Z (fun n=>CN n RS (i8s,st0,K9,(p:Int),(i:Int)) s (E3 s++qs s.form) RG (out,st)) (fun c:FV=>(∃env' o' s',(J8 s.words W f.words g.words).bind (H9 env)=some env'/\c= .B7 (o',s',K9,((p+1:Nat):Int),((i+1:Nat):Int))/\bK s RG xo env' o' s' K9)\/((J8 s.words W f.words g.words).bind (H9 env)=none/\c= .ret ([],[],false))):=by
 have hlS:=E.lS
 have hlG:=E.lG
 have⟨LU,Gm,_⟩:=(fG RS f W i).1 hS
 have⟨Gj,rj,_⟩:=(fG RG g ar p).1 hG
 unfold CN
 refine Z.B3 (i8o E.hs hwf aC hl hbd LU Gj Gm rj rfl rfl h) (fun t F=>?_) (fun r hr=>?_)
 ·have⟨env',U,X⟩:=F;unfold Wa;refine Z.pure (.inl ⟨env',t.1,t.2,U,?_,X⟩);show C1.B7 (t.1,t.2,K9,wr .i64 ((p:Int)+1),wr .i64 ((i:Int)+1))=_;rw[F9 (n:=(p:Int)+1) M M,F9 M M];rfl
 ·exact .inr ⟨hr.2,hr.1⟩
def LW(s:B1)(RG:List IT)(xo:List (J×Nat))(f g:O)(W:List J)(p i:Nat)(K9:List Int)(env:Env)(c:FV):Prop:=
 (∃env' o' s',(f.kind=g.kind/\f.words.length=g.words.length)/\(cat (aA s f g) (J8 s.words W f.words g.words)).bind (H9 env)=some env'/\c= .B7 (o',s',K9,((p+1:Nat):Int),((i+1:Nat):Int))/\bK s RG xo env' o' s' K9)\/
 (((f.kind≠g.kind\/f.words.length≠g.words.length)\/(cat (aA s f g) (J8 s.words W f.words g.words)).bind (H9 env)=none)/\c= .ret ([],[],false))
theorem d5I(E:Cu s RS RG){f g:O}(hwf:M1 f)(aC:D6 g)(S:f.kind=g.kind)(hl:f.words.length=g.words.length){W ar:List J}(hbd:∀x∈W,x∈qs s.form){i p:Nat}(hS:R8 RS f W i)(hG:R8 RG g ar p){env:Env}(h:bK s RG xo env out st K9)
  (K:c=33\/c=63) {j:Nat} (L:j<(E4 s).length) (hkey:Am.get (E4 s) j=c::f.name) (hpt:aA s f g=some [⟨c::f.name,g.name,zf⟩]):
 Z (fun n=>wA n (out,st,K9,(p:Int),(i:Int)) RG (E3 s++qs s.form) RS s (j:Int)) (LW s RG xo f g W p i K9 env):=by
 have mT:c=33\/c=46\/c=63:=K.elim .inl fun h=>.inr (.inr h)
 have hlo:=h.lo
 have hls:=h.ls
 have mK:=Ct s
 have⟨Gj,rj,_⟩:=(fG RG g ar p).1 hG
 have hnm:(Am.get RG p).name=g.name:=by rw[rj]
 unfold wA LW
 simp only[ai,hnm]
 rw[wm,hpt]
 have e0:(some [(⟨c::f.name,g.name,zf⟩:C4)]).bind (H9 env)=U4 env ⟨c::f.name,g.name,zf⟩:=Ur _ _
 rw[e0]
 refine Z.cond (fun _=>?_) ab
 refine Z.w6 M (Z.w6 (W1 fun _=>by omega) (Z.w6 M ?_))
 rcases d5D E.hs h mT g.name L hkey with⟨q1,q2,q3⟩|⟨env',q1,q2,q3⟩
 ·refine Z.cond (fun _=>Z.pure (.inr ⟨.inr (by rw[q1];rfl),rfl⟩)) (fun e=>?_);rw[q2]at e;simp[q3]at e
 ·refine Z.cond (fun e=>?_) (fun _=>Z.B9 (Z.w6 M (Z.w6 M (Z.B9 ?_))))
  ·grind
  ·rw[q1];refine(d5H E hwf aC hl hbd hS hG q3).mono fun r hr=>?_;rcases hr with⟨d5J,o',s',U,X,h3⟩|⟨U,X⟩
   ·grind
   ·exact .inr ⟨.inr U,X⟩
theorem i8t(E:Cu s RS RG){f g:O}(hwf:M1 f)(aC:D6 g){W ar:List J}(hbd:∀x∈W,x∈qs s.form)(sV:∀x∈qs f,x∈qs s.form){i p:Nat}(hS:R8 RS f W i)(hG:R8 RG g ar p)(hpart:¬F6 s f){env:Env}(h:bK s RG xo env out st K9):
 Z (fun n=>wo n RS s RG (E3 s++qs s.form) (out,st,K9,(p:Int),(i:Int))) (LW s RG xo f g W p i K9 env):=by
 have hs:=E.hs
 have aX:=gF s
 have hsl:=hs.len
 have hkl:=sO s
 have mK:=Ct s
 have hlS:=E.lS
 have hlG:=E.lG
 have hnf:=kg ((dR f).1 hwf).1
 have⟨LU,Gm,_⟩:=(fG RS f W i).1 hS
 have⟨Gj,rj,_⟩:=(fG RG g ar p).1 hG
 have hgk:(Am.get RG p).kind=g.kind:=by rw[rj]
 have hgw:(Am.get RG p).words=g.words:=by rw[rj]
 have zo:(Am.get RG p).name=g.name:=by rw[rj]
 have lD:(qs s.form).length<=200:=by rw[ji];have:=jj s.form;have:=hs.form.2.1;omega
 unfold wo
 simp only[ai,Gm,UG hs,i7G hs,LA]
 refine Z.cond (fun _=>Z.w6 M ?_) ab
 refine Z.bind (P:=fun v=>(f.kind=2/\f.words.length=0)->¬0<=v) (Z.gd (fun _=>(eP s.parts f.name M).mono fun v Q hh h0=>hpart ⟨hh,Q.mem.1 h0⟩) (fun hh U=>by simp[U.1,U.2]at hh)) fun v0 uY=>?_
 refine Z.cond (fun e=>?_) (fun _=>?_)
 ·grind
 refine Z.w6 M ?_
 simp only[hgk,hgw,zo]
 refine Z.cond (fun e=>Z.pure (.inr ⟨.inl ?_,rfl⟩)) (fun e=>?_)
 ·grind
 have S:f.kind=g.kind:=cp fun hh=>by simp[hh]at e
 have hl:f.words.length=g.words.length:=cp fun hh=>by grind
 refine Z.cond (fun e=>?_) (fun e=>?_)
 ·replace e:=bx e;have hq:QK f.kind:=e;have hm:f.name∈qs s.form:=sV _ (by rw[dH,if_pos hq];simp);refine Z.w6 M (Z.bind (eP (qs s.form) f.name M) fun v Q=>?_);rcases Q with⟨hn,_⟩|⟨j,L,lK,_,rfl⟩
  ·exact absurd hm hn
  ·have hw:wr .i64 (((s.words.length+s.A8.length+s.parts.length:Nat):Int)+(j:Int))=((s.words.length+s.A8.length+s.parts.length+j:Nat):Int):=by rw[F9 M M];omega
   rw[hw];exact d5I E hwf aC S hl hbd hS hG h (.inr rfl) M (by rw[Lx L,lK]) (by unfold aA;rw[if_pos hq])
 ·replace e:=bx e;have hq:¬QK f.kind:=fun hh=>by unfold QK at hh;omega
  refine Z.bind (P:=fun v=>f.kind=2->pD s.A8 f.name v) (Z.gd (fun _=>(eP s.A8 f.name M).mono fun v Q _=>Q) (fun hh U=>by simp[U]at hh)) fun v Q=>?_;refine Z.cond (fun e=>?_) (fun e=>?_)
  ·replace e:=bx e;have hm:f.name∈s.A8:=(Q e.1).mem.1 e.2;refine Z.bind (eP s.A8 f.name M) fun v2 hv2=>?_;rcases hv2 with⟨hn,_⟩|⟨j,L,lK,_,rfl⟩
   ·exact absurd hm hn
   ·have hw:wr .i64 ((s.words.length:Int)+(j:Int))=((s.words.length+j:Nat):Int):=by rw[F9 M M];omega
    rw[hw];exact d5I E hwf aC S hl hbd hS hG h (.inl rfl) M (by rw[UD L,lK]) (by unfold aA;rw[if_neg hq,if_pos ⟨e.1,hm⟩])
  ·have hnp:¬(f.kind=2/\f.name∈s.A8):=fun hh=>by have h0:=(Q hh.1).mem.2 hh.2;simp[hh.1,h0]at e
   have hpt:aA s f g=if f.name=g.name then some []else none:=by unfold aA;rw[if_neg hq,if_neg hnp]
   refine Z.cond (fun e=>Z.pure (.inr ⟨.inr ?_,rfl⟩)) (fun e=>?_)
   ·replace e:=bx e;rw[wm,hpt,if_neg e];rfl
   ·replace e:=bx e;unfold wA;refine Z.cond ab (fun _=>?_);refine(d5H E hwf aC hl hbd hS hG h).mono fun r hr=>?_;unfold LW;rw[wm,hpt,if_pos e];rcases hr with⟨d5J,o',s',U,X,h3⟩|⟨U,X⟩
    ·exact .inl ⟨d5J,o',s',⟨S,hl⟩,U,X,h3⟩
    ·exact .inr ⟨.inr U,X⟩
def d5K(s:B1)(RS RG:List IT)(xo:List (J×Nat))(o:Option Env)(st:UH)(p' i':Nat):Prop:=
 (∀env',o=some env'->∃o' s' f',gy (FW s RS RG) st (o',s',f',(p':Int),(i':Int))/\bK s RG xo env' o' s' f')/\(o=none->gX (FW s RS RG) st (.ret ([],[],false)))
theorem i8w(E:Cu s RS RG):∀(m:Nat)(f:O),am f<=m->M1 f->(∀x∈qs f,x∈qs s.form)->∀g:O,D6 g->∀(W ar:List J),(∀x∈W,x∈qs s.form)->∀i p:Nat,R8 RS f W i->R8 RG g ar p->∀(xo:List (J×Nat)) (env:Env) (out:List C4) (st:List Bool) (K9:List Int),bK s RG xo env out st K9->
 d5K s RS RG (xo++Z8 s f g p) ((R3 s f W g).bind (H9 env)) (out,st,K9,(p:Int),(i:Int)) (p+w9 g) (i+w9 f):=by
 intro m
 induction m with
 |zero=>exact z0
 |succ m ih=>
  intro f hf hwf sV g aC W ar hbd i p hS hG xo env out st K9 h;have hnf:=kg ((dR f).1 hwf).1;have hng:=(Q6 g).1 aC;have d5L:=Y8 f;have LX:=Y8 g;rw[Uj];by_cases hpart:F6 s f
  ·rw[if_pos hpart,d5C,if_pos hpart];have S:f.kind=2:=hpart.1.1;have hsub:f.subs=[]:=dt.1 (by have:=hnf.1;rw[S]at this;have e:R2 2=0:=D5;omega);have d5M:w9 f=1:=by rw[d5L,hsub,B8]
   have e0:(some [(⟨43::f.name,[],g⟩:C4)]).bind (H9 env)=U4 env ⟨43::f.name,[],g⟩:=Ur _ _;rw[e0,d5M];have⟨c,K,N,hN⟩:=i8p E hwf aC hS hG hpart h;rcases K with⟨env',o',s',f',U,rfl,h3⟩|⟨U,rfl⟩
   ·rw[U];exact⟨fun e he=>by cases he;exact⟨o',s',f',gy.one ⟨_,rfl,N,hN⟩,h3⟩,fun he=>by cases he⟩
   ·rw[U];exact⟨fun e he=>(by cases he),fun _=>gX.ret ⟨_,rfl,N,hN⟩⟩
  ·rw[if_neg hpart,d5C,if_neg hpart];have⟨c,K,N,hN⟩:=i8t E hwf aC hbd sV hS hG hpart h;rcases K with⟨qY,o1,s1,⟨S,hl⟩,U,rfl,h3⟩|⟨U,rfl⟩
   ·rw[if_neg fun hh=>hh.elim (fun h=>h S) fun h=>h hl];have e1:(cat (aA s f g) (cat (J8 s.words W f.words g.words) (N7 s f.subs (if QK f.kind then f.name::W else W) g.subs))).bind (H9 env)=(N7 s f.subs (if QK f.kind then f.name::W else W) g.subs).bind (H9 qY):=by
     rw[wm]at U⊢;cases hp:(aA s f g).bind (H9 env)with
     |none=>rw[hp]at U;cases U
     |some ea=>rw[hp]at U;have U:(J8 s.words W f.words g.words).bind (H9 ea)=some qY:=U;show(cat (J8 s.words W f.words g.words) _).bind (H9 ea)=_;rw[wm,U];rfl
    rw[e1];have hstep:gy (FW s RS RG) (out,st,K9,(p:Int),(i:Int)) (o1,s1,K9,((p+1:Nat):Int),((i+1:Nat):Int)):=gy.one ⟨_,rfl,N,hN⟩;have hsl:f.subs.length=g.subs.length:=by grind
    have i8x:∀x∈(if QK f.kind then f.name::W else W),x∈qs s.form:=fun x A=>by
     by_cases hq:QK f.kind
     ·rw[if_pos hq]at A;rcases ce.1 A with rfl|A
      ·exact sV _ (by rw[dH,if_pos hq];simp)
      ·exact hbd x A
     ·grind
    have wB:∀x∈J6 f.subs,x∈qs s.form:=fun x A=>sV x (by rw[dH];exact al.2 (.inr A));have parts:∀(l gs:List O),(∀y∈l,am y<=m/\M1 y)->(∀y∈gs,D6 y)->l.length=gs.length->(∀x∈J6 l,x∈qs s.form)->∀(W ar:List J),(∀x∈W,x∈qs s.form)->∀i p:Nat,V8 RS l W i->V8 RG gs ar p->∀(xo:List (J×Nat)) (env:Env) (out:List C4) (st:List Bool) (K9:List Int),bK s RG xo env out st K9->
     d5K s RS RG (xo++fH s l gs p) ((N7 s l W gs).bind (H9 env)) (out,st,K9,(p:Int),(i:Int)) (p+B8 gs) (i+B8 l):=by
     intro l
     induction l with
     |nil=>intro gs _ _ hl _ W ar _ i p _ _ xo env out st K9 h;have:gs=[]:=dt.1 hl.symm;subst this;rw[N7,B8,fH,gf];exact⟨fun e he=>by cases he;exact⟨out,st,K9,gy.refl,h⟩,fun he=>by cases he⟩
     |cons a l ihl=>
      intro gs ha H hl hq W ar hbd i p hS hG xo env out st K9 h;cases gs with
      |nil=>simp at hl
      |cons b gs=>
       rw[V8]at hS hG;rw[J6]at hq;rw[N7,B8,B8,wm, <-da, <-da,fH, <-bl];have⟨c1,c2⟩:=ih a (ha a (az ..)).1 (ha a (az ..)).2 (fun x A=>hq x (al.2 (.inl A))) b (H b (az ..)) W ar hbd i p hS.1 hG.1 xo env out st K9 h;cases hp:(R3 s a W b).bind (H9 env)with
       |none=>exact⟨fun e he=>(by cases he),fun _=>c2 hp⟩
       |some e1=>have⟨o',s',f',d1,d2⟩:=c1 e1 hp;have⟨k1,k2⟩:=ihl gs (fun y hy=>ha y (aw _ hy)) (fun y hy=>H y (aw _ hy)) (by simpa using hl) (fun x A=>hq x (al.2 (.inr A))) W ar hbd (i+w9 a) (p+w9 b) hS.2 hG.2 _ e1 o' s' f' d2;refine⟨fun e he=>?_,fun he=>d1.ends (k2 he)⟩;have⟨o2,s2,f2,m1,m2⟩:=k1 e he;exact⟨o2,s2,f2,d1.trans m1,m2⟩
    have⟨k1,k2⟩:=parts f.subs g.subs (fun y hy=>by
     obtain⟨j,L,rfl⟩:=U0.1 hy;have:=W3 L;exact⟨by omega,vM hwf L⟩) (fun y hy=>by
     obtain⟨j,L,rfl⟩:=U0.1 hy;exact hY aC L) hsl wB _ _ i8x (i+1) (p+1) ((fG RS f W i).1 hS).2.2 ((fG RG g ar p).1 hG).2.2 xo qY o1 s1 K9 h3
    rw[d5L,LX, <-da, <-da];refine⟨fun e he=>?_,fun he=>hstep.ends (k2 he)⟩;have⟨o2,s2,f2,m1,m2⟩:=k1 e he;exact⟨o2,s2,f2,hstep.trans m1,m2⟩
   ·have hnone:(if f.kind≠g.kind\/f.words.length≠g.words.length then none else cat (aA s f g) (cat (J8 s.words W f.words g.words) (N7 s f.subs (if QK f.kind then f.name::W else W) g.subs))).bind (H9 env)=none:=by
     by_cases K:f.kind≠g.kind\/f.words.length≠g.words.length
     ·rw[if_pos K];rfl
     ·rw[if_neg K];have U:=U.resolve_left K;rw[wm]at U⊢;cases hp:(aA s f g).bind (H9 env)with
      |none=>rfl
      |some ea=>rw[hp]at U;have U:(J8 s.words W f.words g.words).bind (H9 ea)=none:=U;show(cat (J8 s.words W f.words g.words) _).bind (H9 ea)=_;rw[wm,U];rfl
    rw[hnone]
    exact⟨fun e he=>(by cases he),fun _=>gX.ret ⟨_,rfl,N,hN⟩⟩
end
theorem i8y(s:B1)(RG:List IT){n:Nat}(hn:n=(E4 s).length):bK s RG [] [] (be n default) (be n default) (be n default):=by subst hn;exact⟨fun k b h=>(by cases h),by simp,by simp,by simp,fun j L _=>⟨UJ L,UJ L,fun _ _=>rfl⟩,fun j L b h=>(by cases h)⟩
theorem i8z{s:B1}{e:Env}(h:bK s RG xo e out st K9)(hall:∀j,j<(E4 s).length->∃b,assoc (Am.get (E4 s) j) e=some b):out=pI s e:=by unfold pI;refine xW (by rw[bc];exact h.lo) fun j L=>?_;rw[h.lo]at L;rw[get_map _ L];have⟨b,H⟩:=hall j L;rw[(h.yes j L b H).2.1];unfold E0 C9;rw[H];rfl
theorem d5N:∀(f:O),D6 f->∀g∈D2 f,D6 g:=by
 have key:∀(m:Nat)(f:O),am f<=m->D6 f->∀g∈D2 f,D6 g:=by
  intro m;induction m with
  |zero=>exact z0
  |succ m ih=>
   intro f hf har g hg;rw[pC]at hg;rcases ce.1 hg with rfl|hg
   ·exact har
   ·have:∀l:List O,(∀x∈l,am x<=m/\D6 x)->∀g∈M4 l,D6 g:=by
     intro l;induction l with
     |nil=>intro _ g hg;rw[M4]at hg;cases hg
     |cons x l ihl=>
      intro A g hg;rw[M4]at hg;rcases al.1 hg with hg|hg
      ·grind
      ·exact ihl (fun y hy=>A y (aw _ hy)) g hg
    refine this f.subs (fun x A=>?_) g hg
    obtain⟨k,S,rfl⟩:=U0.1 A
    have:=W3 S
    exact⟨by omega,hY har S⟩
 exact fun f=>key _ f (ae _)
theorem i8A{f:O}(h:D6 f):∀it∈D4 f [] 0,it.words.length<=3:=fun it hit=>by obtain⟨j,L,rfl⟩:=U0.1 hit;rw[dS]at L;have F:=vS f [] 0 j L;rw[F.2.2.1];exact((Q6 _).1 (d5N f h _ (get_mem (by rw[gD];exact L)))).2.1
theorem i8B{s:B1}(hs:S4 s){R:List IT}(hR:R.length<=1000)(hw:∀it∈R,it.words.length<=3){g:O}(hg:D6 g){ar:List J}{i:Nat}(hrow:R8 R g ar i):
 Z (fun n=>Gn n s R (i:Int)) (fun r=>(r.1,r.2.2)=Cp s g/\(r.2.2=true->r.2.1.length=(E4 s).length/\∀q,q<s.parts.length->∃p:Nat,assoc (Am.get s.parts q) (Z8 s s.form g i)=some p/\Am.get r.2.1 (s.words.length+s.A8.length+q)=(p:Int))):=by
 have hnd:=hs.form.2.1
 have hkl:=i7B hs
 have hkn:=sO s
 have mK:=Ct s
 have E:Cu s (D4 s.form [] 0) R:=⟨hs,by rw[dS];omega,hR,hw⟩
 unfold Gn
 refine Z.bind (d4K hs) fun v1 hv1=>?_
 subst hv1
 refine Z.w6 (by rw[Y7];omega) (Z.w6 (by rw[Y7];omega) (Z.w6 (by rw[Y7];omega) (Z.bind (vO hs.form.1 [] M B5) fun v8 mV=>?_)))
 subst mV
 have⟨k1,k2⟩:=i8w E _ s.form (ae _) hs.form.1 (fun x A=>A) _ hg [] ar (fun x A=>by cases A) 0 i (yw s.form []) hrow [] [] _ _ _ (i8y s R mK)
 unfold Cp
 cases hp:(R3 s s.form [] g).bind (H9 [])with
 |none=>exact Z.B3 (k2 hp).Ky (fun t F=>by cases F) (fun r hr=>by cases hr;exact⟨rfl,fun h=>by cases h⟩)
 |some e=>
  have⟨o',s',f',m1,m2⟩:=k1 e hp;have hall:∀j,j<(E4 s).length->∃b,assoc (Am.get (E4 s) j) e=some b:=by
   cases hq:R3 s s.form [] g with
   |none=>rw[hq]at hp;cases hp
   |some ps=>rw[hq]at hp;exact VB hs hg hq hp
  have ho:=i8z m2 hall;subst ho;have hend:gX (FW s (D4 s.form [] 0) R) (pI s e,s',f',((i+w9 g:Nat):Int),((0+w9 s.form:Nat):Int)) (.B7 (pI s e,f')):=gX.brk (by unfold FW wo;refine Z.cond (fun e=>?_) (fun _=>Z.pure rfl);replace e:=bx e;have X:=dS s.form [] 0;have e:((0+w9 s.form:Nat):Int)<((D4 s.form [] 0).length:Int):=e;omega)
  refine Z.B3 (m1.ends hend).Ky (fun t F=>?_) (fun r hr=>by cases hr);cases F;refine(i7H hs e f').mono fun r hr=>?_;rw[hr];by_cases K:caught s e
  ·grind
  ·simp only[if_neg K];refine⟨rfl,fun _=>⟨m2.lf,fun q hq=>?_⟩⟩;have L:s.words.length+s.A8.length+q<(E4 s).length:=by omega
   have S:Am.get (E4 s) (s.words.length+s.A8.length+q)=43::Am.get s.parts q:=UE hq;have⟨b,H⟩:=hall _ L;have⟨p,_,z1,z2,_⟩:=(m2.yes _ L b H).2.2 _ S;exact⟨p,z2,z1⟩
structure LY(x:K1):Prop where
 eq:x=lJ x.form
 ar:D6 x.form
 nd:w9 x.form<=200
 dp:R0 x.form<=40
theorem i8C(x:K1):K1.mk (O.mk x.form.kind x.form.name x.form.words x.form.subs) x.nodes x.depth=x:=by
 cases x with
 |mk f a b=>cases f;rfl
structure Nt(mp:List (J×Int))(C':List C6)(c:Nat)(BE:List J)(u2:List C6)(c2:Int):Prop where
 app:∃hs:List C6,u2=C'++hs/\hs.map (·.at_)=BE.map fun q=>(assoc q mp).getD default
 nd:BE.Nodup
 cnt:∃k:Nat,c2=(k:Int)/\k<=c+200*BE.length
theorem Nt.len{mp C' c BE u2 c2}(h:Nt mp C' c BE u2 c2):u2.length=C'.length+BE.length:=by obtain⟨hs,rfl,e⟩:=h.app;have:=congrArg ph e;rw[bc,bc]at this;rw[aa,this]
theorem Nt.nil(mp C')(c:Nat):Nt mp C' c [] C' (c:Int):=⟨⟨[],by simp,rfl⟩,lh,c,rfl,by simp⟩
theorem Nt.trans{mp C'}{c:Nat}{BE u2}{c2:Nat}{Q2 u3 c3}(h:Nt mp C' c BE u2 (c2:Int))(X:Nt mp u2 c2 Q2 u3 c3)(hd:∀q∈BE,q∉Q2):Nt mp C' c (BE++Q2) u3 c3:=by obtain⟨hs,rfl,e⟩:=h.app;obtain⟨V1,rfl,e2⟩:=X.app;have⟨k,S,hk2⟩:=h.cnt;obtain⟨k2,rfl,hk3⟩:=X.cnt;refine⟨⟨hs++V1,by rw[bl],by rw[cm,cm,e,e2]⟩,im.2 ⟨h.nd,X.nd,fun a ha b H e=>hd a ha (e▸H)⟩,k2,rfl,?_⟩;rw[aa];omega
def ApG(f:O)(path:J)(c:Nat)(mp:List (J×Int))(C':List C6)(x:K1×Bool×Int×List C6):Prop:=
 x.2.1=true->LY x.1/\∃BE,Nt mp C' c BE x.2.2.2 x.2.2.1/\∀q∈BE,q∈dJ f path
def Wb(s:B1)(pf:J->O)(pq:J->J)(B:List C5)(mp:List (J×Int))(self:Nat->O->J->List C5->Int->List (J×Int)->List C6->Option (K1×Bool×Int×List C6)):Prop:=
 ∀v∈s.parts,∀(c:Nat)(C':List C6),C'.length+w9 (pf v)<=100000->c+200*w9 (pf v)<=500000->Z (fun n=>self n (pf v) (pq v) B (c:Int) mp C') (ApG (pf v) (pq v) c mp C')
theorem Wb.sh{s pf pq B mp self}(h:Wb s pf pq B mp self):Wb s pf pq B mp (fun n=>self (n+1)):=fun v Q c C' U X=>by have⟨x,A,N,hN⟩:=h v Q c C' U X;exact⟨x,A,N,fun n hn=>hN (n+1) M⟩
def BL(s:B1)(e:Env):List C4:=(E4 s).map fun k=>⟨k.drop 1,E0 e k,C9 e k⟩
theorem LZ(s:B1)(e:Env):(BL s e).length=s.words.length+s.A8.length+s.parts.length+nq s.form:=by unfold BL E4;simp only[bc,aa,ji]
theorem d5O(s:B1)(e:Env):((BL s e).drop (s.words.length+s.A8.length)).take s.parts.length=s.parts.map fun v=>(⟨v,E0 e (43::v),C9 e (43::v)⟩:C4):=by
 have h:BL s e=(s.words.map (fun v=>(⟨v,E0 e (46::v),C9 e (46::v)⟩:C4))++s.A8.map fun v=>⟨v,E0 e (33::v),C9 e (33::v)⟩)++(s.parts.map (fun v=>⟨v,E0 e (43::v),C9 e (43::v)⟩)++(qs s.form).map fun v=>⟨v,E0 e (63::v),C9 e (63::v)⟩):=by unfold BL E4;simp[ja,pg]
 rw[h,u9 B5,rq B5]
theorem S4.ly{s:B1}(h:S4 s):s.words.length+s.A8.length+s.parts.length<=1000:=by have:=h.len;unfold E3 at this;simp only[aa]at this;omega
theorem wC{s:B1}(h:S4 s):wr .i64 ((s.words.length:Int)+(s.A8.length:Int))=((s.words.length+s.A8.length:Nat):Int):=by have:=h.ly;rw[F9 M M];omega
theorem CO{s:B1}(h:S4 s):wr .i64 (((s.words.length+s.A8.length:Nat):Int)+(s.parts.length:Int))=((s.words.length+s.A8.length+s.parts.length:Nat):Int):=by have:=h.ly;rw[F9 M M];omega
def Y9(φ:J->J)(b:C4):C4:=⟨b.name,if b.name.head? =some 46\/b.name.head? =some 63 then φ b.text else b.text,L0 φ b.form⟩
def aQ(φ:J->J)(e:Env):Env:=e.map fun p=>(p.1,Y9 φ p.2)
section
variable {φ:J->J}
mutual
theorem d5P(hφ:∀a b,φ a=φ b->a=b):∀f g:O,L0 φ f=L0 φ g->f=g
 | .mk k n w s,.mk k' n' w' s',h=>by
   rw[L0,L0]at h;injection h with U X h3 h4;subst U;have e3:w=w':=(List.map_inj_right (fun a b h=>hφ a b h)).1 h3;have e4:=d5Q hφ s s' h4;have e2:n=n':=by grind
   rw[e2,e3,e4]
theorem d5Q(hφ:∀a b,φ a=φ b->a=b):∀f g:List O,N8 φ f=N8 φ g->f=g
 | [],[],_=>rfl
 | [],b::l,h=>by rw[N8,N8]at h;cases h
 |a::k,[],h=>by rw[N8,N8]at h;cases h
 |a::k,b::l,h=>by rw[N8,N8]at h;injection h with U X;rw[d5P hφ a b U,d5Q hφ k l X]
end
theorem i8E(hφ:∀a b,φ a=φ b->a=b){a b:C4}(h:Y9 φ a=Y9 φ b):a=b:=by
 have⟨n,t,f⟩:=a;have⟨n',t',f'⟩:=b;unfold Y9 at h;simp only[C4.mk.injEq]at h;obtain⟨rfl,X,h3⟩:=h;rw[d5P hφ _ _ h3];by_cases hh:n.head? =some 46\/n.head? =some 63
 ·grind
 ·grind
theorem CP(k:J):∀e:Env,assoc k (aQ φ e)=(assoc k e).map (Y9 φ)
 | []=>rfl
 |(a,b)::e=>by
  show(if k=a then some (Y9 φ b)else assoc k (aQ φ e))=yv _ (if k=a then some b else assoc k e)
  by_cases h:k=a
  ·rw[if_pos h,if_pos h];rfl
  ·rw[if_neg h,if_neg h];exact CP k e
theorem d5R(k:J)(b:C4):∀e:Env,I4 k (Y9 φ b) (aQ φ e)=aQ φ (I4 k b e)
 | []=>rfl
 |(a,c)::e=>by
  show(if k=a then(k,Y9 φ b)::aQ φ e else(a,Y9 φ c)::I4 k (Y9 φ b) (aQ φ e))=aQ φ (if k=a then(k,b)::e else(a,c)::I4 k b e)
  by_cases h:k=a
  ·rw[if_pos h,if_pos h];rfl
  ·rw[if_neg h,if_neg h,d5R k b e];rfl
open Classical in
theorem i8F(hφ:∀a b,φ a=φ b->a=b)(e:Env)(b:C4):U4 (aQ φ e) (Y9 φ b)=(U4 e b).map (aQ φ):=by
 unfold U4;show(match assoc b.name (aQ φ e)with|none=>some (I4 b.name (Y9 φ b) (aQ φ e))|some b'=>if b'=Y9 φ b then some (aQ φ e)else none)=_
 rw[CP];cases h:assoc b.name e with
 |none=>simp only[Option.map_none,kx,d5R]
 |some b'=>
  simp only[kx];by_cases H:b'=b
  ·grind
  ·rw[if_neg H,if_neg fun X=>H (i8E hφ X)];rfl
theorem d5S(hφ:∀a b,φ a=φ b->a=b):∀(ps:List C4)(e:Env),H9 (aQ φ e) (ps.map (Y9 φ))=(H9 e ps).map (aQ φ)
 | [],e=>rfl
 |b::ps,e=>by
  rw[bv,H9,H9,i8F hφ];cases U4 e b with
  |none=>rfl
  |some e'=>exact d5S hφ ps e'
theorem Gp:L0 φ zf=zf:=by show L0 φ (O.mk 0 [] [] [])=_;rw[L0,if_neg D5,N8];rfl
theorem d5T(hφ:∀a b,φ a=φ b->a=b)(BB W:List J):∀(ws ys:List J),(∀x∈ws,x∉W->φ x=x)->J8 BB W ws (ys.map φ)=(J8 BB W ws ys).map (r5 (Y9 φ))
 | [],ys,_=>by cases ys<;>simp[J8]
 |x::ws,[],_=>by simp[J8]
 |x::ws,y::ys,h=>by
  have ih:=d5T hφ BB W ws ys fun z hz=>h z (aw _ hz);have e63:Y9 φ ⟨63::x,y,zf⟩=⟨63::x,φ y,zf⟩:=by unfold Y9;simp[Gp]
  have e46:Y9 φ ⟨46::x,y,zf⟩=⟨46::x,φ y,zf⟩:=by unfold Y9;simp[Gp]
  rw[bv,J8,J8,ih];by_cases H:x∈W
  ·rw[if_pos H,if_pos H, <-e63];cases J8 BB W ws ys with
   |none=>rfl
   |some l=>rfl
  ·rw[if_neg H,if_neg H];have A:=h x (az ..) H;by_cases hw:x∈BB
   ·rw[if_pos hw,if_pos hw, <-e46];cases J8 BB W ws ys with
    |none=>rfl
    |some l=>rfl
   ·grind
theorem Wc(a b:Option (List C4)):cat (a.map (r5 (Y9 φ))) (b.map (r5 (Y9 φ)))=(cat a b).map (r5 (Y9 φ)):=by
 unfold cat;cases a with
 |none=>rfl
 |some a=>
  cases b with
  |none=>rfl
  |some b=>simp
mutual
theorem d5U(hφ:∀a b,φ a=φ b->a=b)(s:B1):∀(f:O)(W:List J)(g:O),(∀x,E5 f W x->φ x=x)->R3 s f W (L0 φ g)=(R3 s f W g).map (r5 (Y9 φ))
 | .mk k n w l,W,g,hf=>by
   have m1:(L0 φ g).kind=g.kind:=by rw[zi];rfl
   have m2:(L0 φ g).words=g.words.map φ:=by rw[zi];rfl
   have m3:(L0 φ g).name=if QK g.kind then φ g.name else g.name:=by rw[zi];rfl
   have m4:(L0 φ g).subs=N8 φ g.subs:=by rw[zi];rfl
   rw[R3,R3];by_cases hp:F6 s (.mk k n w l)
   ·rw[if_pos hp,if_pos hp];show some [_]=some [_];unfold Y9;simp
   rw[if_neg hp,if_neg hp,m1,m2,m4,bc];by_cases S:k≠g.kind\/w.length≠g.words.length
   ·rw[if_pos S,if_pos S];rfl
   rw[if_neg S,if_neg S];rw[not_or,dl,dl]at S;have e1:aA s (.mk k n w l) (L0 φ g)=(aA s (.mk k n w l) g).map (r5 (Y9 φ)):=by
    unfold aA;show(if QK k then _ else if k=2/\n∈s.A8 then _ else if n=(L0 φ g).name then _ else _)=yv _ (if QK k then _ else if k=2/\n∈s.A8 then _ else if n=g.name then _ else _)
    rw[m3];by_cases hq:QK k
    ·rw[if_pos hq,if_pos hq,if_pos (by rw[<-S.1];exact hq)];unfold Y9;simp[Gp]
    ·have hn:(if QK g.kind then φ g.name else g.name)=g.name:=if_neg (by rw[<-S.1];exact hq)
     rw[if_neg hq,if_neg hq,hn];by_cases hp:k=2/\n∈s.A8
     ·rw[if_pos hp];unfold Y9;simp[Gp]
     ·grind
   have hw:∀x∈w,x∉W->φ x=x:=fun x A H=>hf x (by rw[E5];exact .inl ⟨A,H⟩);have hs:∀x,F5 l (if QK k then n::W else W) x->φ x=x:=fun x A=>hf x (by rw[E5];exact .inr A)
   rw[e1,d5T hφ _ _ _ _ hw,d5V hφ s l _ g.subs hs,Wc,Wc]
theorem d5V(hφ:∀a b,φ a=φ b->a=b)(s:B1):∀(l:List O)(W:List J)(gs:List O),(∀x,F5 l W x->φ x=x)->N7 s l W (N8 φ gs)=(N7 s l W gs).map (r5 (Y9 φ))
 | [],W,gs,_=>by rw[N7,N7];rfl
 |f::l,W,[],_=>by rw[N8,N7];rfl
 |f::l,W,g::gs,hf=>by rw[N8,N7,N7];show cat (R3 s f W (L0 φ g)) (N7 s l W (N8 φ gs))=yv _ (cat (R3 s f W g) (N7 s l W gs));rw[d5U hφ s f W g fun x A=>hf x (by rw[F5];exact .inl A),d5V hφ s l W gs fun x A=>hf x (by rw[F5];exact .inr A),Wc]
end
end
open Classical in
noncomputable def mE(s:B1)(g:O):Option Env:=match (R3 s s.form [] g).bind (H9 [])with
 |none=>none
 |some e=>if caught s e then none else some e
theorem d5W(s:B1)(g:O):Cp s g=match mE s g with|none=>([],false)|some e=>(BL s e,true):=by
 unfold Cp mE;cases (R3 s s.form [] g).bind (H9 [])with
 |none=>rfl
 |some e=>
  by_cases K:caught s e
  ·simp only[if_pos K]
  ·simp only[if_neg K];rfl
theorem i8I{φ:J->J}(hφ:∀a b,φ a=φ b->a=b)(hn:∀x,M0 x->φ x=x){s:B1}(hs:S4 s){g:O}(hg:D6 g):mE s (L0 φ g)=(mE s g).map (aQ φ):=by
 unfold mE;rw[d5U hφ s s.form [] g fun x A=>hn x (Cg _ hs.form.1 _ x A)];cases hp:R3 s s.form [] g with
 |none=>rfl
 |some ps=>
  rw[kx,ax,ax,show H9 [] (ps.map (Y9 φ))=H9 (aQ φ []) (ps.map (Y9 φ))from rfl,d5S hφ];cases he:H9 [] ps with
  |none=>rfl
  |some e=>
   have hall:=VB hs hg hp he;have hkey:∀k∈E4 s,∃b,assoc k e=some b:=fun k S=>by obtain⟨j,L,rfl⟩:=U0.1 S;exact hall j L
   have F:∀c x,(c=46\/c=63)->(c::x)∈E4 s->E0 (aQ φ e) (c::x)=φ (E0 e (c::x)):=fun c x K S=>by
    have⟨b,H⟩:=hkey _ S;have Bp:b.name=c::x:=by
     rcases(jG _ _ _ he).2.2 _ _ H with h|⟨b',_,U,rfl⟩
     ·cases h
     ·exact U
    unfold E0;rw[CP,H];show(Y9 φ b).text=φ b.text;unfold Y9;rw[Bp];rcases K with rfl|rfl<;>simp
   have T4:caught s (aQ φ e)↔caught s e:=by
    unfold caught;have hw:∀w∈s.words,(46::w)∈E4 s:=fun w hw=>by unfold E4;simp[hw]
    have hq:∀x∈qs s.form,(63::x)∈E4 s:=fun x A=>by unfold E4;simp[A]
    constructor
    ·grind
    ·grind
   by_cases K:caught s e
   ·grind
   ·grind
theorem pN{s:B1}{g:O}{e:Env}(h:mE s g=some e):∃ps,R3 s s.form [] g=some ps/\H9 [] ps=some e:=by
 unfold mE at h;cases hp:R3 s s.form [] g with
 |none=>rw[hp]at h;cases h
 |some ps=>grind
noncomputable def au:List C5->Nat->O->Option (Nat×C5×Env)
 | [],_,_=>none
 |r::l,k,f=>match mE r.from_ f with
  |some e=>some (k,r,e)
  |none=>au l (k+1) f
def E6{α:Type}(B':O->Nat->α):List O->Nat->List α
 | [],_=>[]
 |x::l,p=>B' x p::E6 B' l (p+w9 x)
def N5(ν:Nat->J->J)(r:C5)(e:Env)(a:Nat)(x:J):J:=if x∈qs r.from_.form then E0 e (63::x)else ν a x
mutual
def inst'(r:C5)(e:Env)(P:J->O)(vr:J->J):List J->O->O
 |W,.mk k n w s=>if F6 r.from_ (.mk k n w s)then P n else
  .mk k (if QK k then vr n else if k=2/\n∈r.from_.A8 then E0 e (33::n)else n) (w.map fun x=>if x∈W then vr x else if x∈r.from_.words then E0 e (46::x)else x) (Z0 r e P vr (if QK k then n::W else W) s)
def Z0(r:C5)(e:Env)(P:J->O)(vr:J->J):List J->List O->List O
 | _,[]=>[]
 |W,f::l=>inst' r e P vr W f::Z0 r e P vr W l
end
def W5(r:C5)(f:O)(a:Nat)(v:J):Nat:=(assoc v (Z8 r.from_ r.from_.form f a)).getD 0
section
variable (B:List C5)
noncomputable def TT(ν:Nat->J->J):Nat->O->Nat->O
 |0,f,_=>f
 |d+1,f,a=>match au B 0 f with
  |some (_,r,e)=>inst' r e (fun v=>TT ν d (C9 e (43::v)) (W5 r f a v)) (N5 ν r e a) [] r.B4
  |none=>.mk f.kind f.name f.words (E6 (TT ν d) f.subs (a+1))
def rm:List J->List J
 | []=>[]
 |x::l=>x::(rm l).filter fun y=>decide (y≠x)
theorem Ma{x:J}:∀ {l:List J},x∈rm l↔x∈l
 | []=>Iff.rfl
 |y::l=>by
  rw[rm,ce,ce,ml,Ma (l:=l)];by_cases h:x=y
  ·simp[h]
  ·simp[h]
theorem Mb:∀l:List J,(rm l).Nodup
 | []=>lh
 |y::l=>by rw[rm,ia];exact⟨fun h=>by simp at h,List.Nodup.sublist List.filter_sublist (Mb l)⟩
def cZ(r:C5):List J:=rm (((D2 r.B4).filter fun g=>decide (F6 r.from_ g)).map (·.name))
noncomputable def HT:Nat->O->Nat->List (Nat×Nat)
 |0,_,_=>[]
 |d+1,f,a=>match au B 0 f with
  |some (k,r,e)=>(a,k)::(cZ r).flatMap fun v=>HT d (C9 e (43::v)) (W5 r f a v)
  |none=>(E6 (HT d) f.subs (a+1)).flatten
end
section
variable {φ:J->J}
mutual
theorem Mc:∀f:O,w9 (L0 φ f)=w9 f
 | .mk k n w s=>by rw[L0,w9,w9,d5X s]
theorem d5X:∀l:List O,B8 (N8 φ l)=B8 l
 | []=>by rw[N8]
 |f::l=>by rw[N8,B8,B8,Mc f,d5X l]
end
mutual
theorem Wd(s:B1):∀(f g:O)(p:Nat),Z8 s f (L0 φ g) p=Z8 s f g p
 | .mk k n w l,g,p=>by
   rw[Z8,Z8];by_cases h:F6 s (.mk k n w l)
   ·rw[if_pos h,if_pos h]
   ·have e:(L0 φ g).subs=N8 φ g.subs:=by rw[zi];rfl
    rw[if_neg h,if_neg h,e,d5Y s l]
theorem d5Y(s:B1):∀(l gs:List O)(p:Nat),fH s l (N8 φ gs) p=fH s l gs p
 | [],gs,p=>by rw[fH,fH]
 |f::l,[],p=>by rw[N8]
 |f::l,g::gs,p=>by rw[N8,fH,fH];show Z8 s f (L0 φ g) p++fH s l (N8 φ gs) (p+w9 (L0 φ g))=_;rw[Wd s f,d5Y s l,Mc]
end
structure Gq(s:B1)(e:Env):Prop where
 all:∀k∈E4 s,∃b,assoc k e=some b
 nm:∀k b,assoc k e=some b->b.name=k
theorem Md{s:B1}(hs:S4 s){g:O}(hg:D6 g){e:Env}(h:mE s g=some e):Gq s e:=by
 have⟨ps,hp,he⟩:=pN h;refine⟨fun k S=>?_,fun k b H=>?_⟩
 ·obtain⟨j,L,rfl⟩:=U0.1 S;exact VB hs hg hp he j L
 ·rcases(jG _ _ _ he).2.2 _ _ H with h|⟨b',_,U,rfl⟩
  ·cases h
  ·exact U
theorem d5Z{s:B1}{e:Env}(h:Gq s e){x:J}(K:c=46\/c=63)(S:(c::x)∈E4 s):E0 (aQ φ e) (c::x)=φ (E0 e (c::x)):=by have⟨b,H⟩:=h.all _ S;have Bp:=h.nm _ _ H;unfold E0;rw[CP,H];show(Y9 φ b).text=φ b.text;unfold Y9;rw[Bp];rcases K with rfl|rfl<;>simp
theorem i8J{s:B1}{e:Env}(h:Gq s e)(x:J):E0 (aQ φ e) (33::x)=E0 e (33::x):=by
 unfold E0;rw[CP];cases H:assoc (33::x) e with
 |none=>rfl
 |some b=>show(Y9 φ b).text=b.text;unfold Y9;rw[h.nm _ _ H];simp
theorem d6a(e:Env)(k:J):C9 (aQ φ e) k=L0 φ (C9 e k):=by
 unfold C9;rw[CP];cases H:assoc k e with
 |none=>exact Gp.symm
 |some b=>rfl
mutual
theorem d6b{r:C5}{e:Env}(h:Gq r.from_ e){P:J->O}{vr:J->J}:∀(W:List J)(f:O),(∀x,E5 f W x->φ x=x)->inst' r (aQ φ e) (fun v=>L0 φ (P v)) (fun x=>φ (vr x)) W f=L0 φ (inst' r e P vr W f)
 |W,.mk k n w s,hf=>by
  rw[inst',inst'];by_cases hp:F6 r.from_ (.mk k n w s)
  ·rw[if_pos hp,if_pos hp]
  ·rw[if_neg hp,if_neg hp,L0, <-d6c h _ s fun x A=>hf x (by rw[E5];exact .inr A)];have e1:(if QK k then φ (vr n)else if k=2/\n∈r.from_.A8 then E0 (aQ φ e) (33::n)else n)=if QK k then φ (if QK k then vr n else if k=2/\n∈r.from_.A8 then E0 e (33::n)else n)else(if QK k then vr n else if k=2/\n∈r.from_.A8 then E0 e (33::n)else n):=by
    by_cases S:QK k
    ·simp only[if_pos S]
    ·simp only[if_neg S,i8J h]
   have e2:(w.map fun x=>if x∈W then φ (vr x)else if x∈r.from_.words then E0 (aQ φ e) (46::x)else x)=(w.map fun x=>if x∈W then vr x else if x∈r.from_.words then E0 e (46::x)else x).map φ:=by
    rw[ja];refine e8 fun x A=>?_;show _=φ (if x∈W then vr x else if x∈r.from_.words then E0 e (46::x)else x)
    by_cases H:x∈W
    ·rw[if_pos H,if_pos H]
    ·rw[if_neg H,if_neg H];by_cases hw:x∈r.from_.words
     ·rw[if_pos hw,if_pos hw];exact d5Z h (.inl rfl) (by unfold E4;simp[hw])
     ·rw[if_neg hw,if_neg hw];exact(hf x (by rw[E5];exact .inl ⟨A,H⟩)).symm
   rw[e1,e2]
theorem d6c{r:C5}{e:Env}(h:Gq r.from_ e){P:J->O}{vr:J->J}:∀(W:List J)(l:List O),(∀x,F5 l W x->φ x=x)->Z0 r (aQ φ e) (fun v=>L0 φ (P v)) (fun x=>φ (vr x)) W l=N8 φ (Z0 r e P vr W l)
 |W,[],_=>by rw[Z0,Z0,N8]
 |W,f::l,hf=>by rw[Z0,Z0,N8,d6b h W f fun x A=>hf x (by rw[F5];exact .inl A),d6c h W l fun x A=>hf x (by rw[F5];exact .inr A)]
end
theorem Wf(hφ:∀a b,φ a=φ b->a=b)(hn:∀x,M0 x->φ x=x):∀(B:List C5),(∀r∈B,S4 r.from_)->∀(k:Nat)(f:O),D6 f->au B k (L0 φ f)=(au B k f).map fun x=>(x.1,x.2.1,aQ φ x.2.2)
 | [],_,k,f,_=>rfl
 |r::l,h,k,f,hf=>by
  rw[au,au,i8I hφ hn (h r (az ..)) hf];cases mE r.from_ f with
  |none=>exact Wf hφ hn l (fun r hr=>h r (aw _ hr)) (k+1) f hf
  |some e=>rfl
theorem ru:∀(B:List C5) (k:Nat) {f:O} {i:Nat} {r:C5} {e:Env},au B k f=some (i,r,e)->r∈B/\mE r.from_ f=some e/\k<=i/\i<k+B.length/\Am.get B (i-k)=r
 | [],k,f,i,r,e,h=>by cases h
 |r'::l,k,f,i,r,e,h=>by
  rw[au]at h;cases hm:mE r'.from_ f with
  |some e'=>rw[hm]at h;cases h;exact⟨az ..,hm,ae _,by rw[an];omega,by rw[Nat.sub_self];rfl⟩
  |none=>rw[hm]at h;have⟨U,X,h3,h4,h5⟩:=ru l (k+1) h;refine⟨aw _ U,X,by omega,by rw[an];omega,?_⟩;rw[show i-k=(i-(k+1))+1 by omega];exact h5
end
theorem Wg:∀ {l:List O},(∀x∈l,D6 x)->R9 l
 | [],_=>by rw[R9];trivial
 |f::l,h=>by rw[R9];exact⟨h f (az ..),Wg fun x A=>h x (aw _ A)⟩
structure pO(k:Nat)(zs:List K1)(fs:List O):Prop where
 eq:zs=fs.map lJ
 len:fs.length=k
 ar:∀x∈fs,D6 x
 nd:B8 fs<=200*k
 dp:N4 fs<=40
theorem pO.nil:pO 0 [] []:=⟨rfl,rfl,(fun x A=>by cases A),(by rw[B8];omega),(by rw[N4];omega)⟩
theorem pO.snoc{k zs fs}(h:pO k zs fs){x:K1}(A:LY x):pO (k+1) (zs++[x]) (fs++[x.form]):=by
 have U:=h.nd;have X:=h.dp;have h3:=A.nd;have h4:=A.dp;refine⟨?_,by rw[aa,h.len];rfl,fun y hy=>?_,by rw[lC];omega,by rw[Vo];omega⟩
 ·rw[cm, <-h.eq,bv,jn, <-A.eq]
 ·rcases al.1 hy with hy|hy
  ·exact h.ar y hy
  ·rw[ao.1 hy];exact A.ar
mutual
theorem CQ{r:C5}{e:Env}{P P':J->O}{vr vr':J->J}:∀(W:List J)(f:O),(∀v∈r.from_.parts,(∃g∈D2 f,F6 r.from_ g/\g.name=v)->P v=P' v)->(∀x,x∈W\/x∈qs f->vr x=vr' x)->inst' r e P vr W f=inst' r e P' vr' W f
 |W,.mk k n w s,hP,Q=>by
  have hq:qs (.mk k n w s)=(if QK k then [n]else [])++J6 s:=dH (.mk k n w s)
  rw[inst',inst'];by_cases hp:F6 r.from_ (.mk k n w s)
  ·rw[if_pos hp,if_pos hp];exact hP n hp.2 ⟨_,by rw[D2];exact az ..,hp,rfl⟩
  ·rw[if_neg hp,if_neg hp];have e1:(w.map fun x=>if x∈W then vr x else if x∈r.from_.words then E0 e (46::x)else x)=w.map fun x=>if x∈W then vr' x else if x∈r.from_.words then E0 e (46::x)else x:=by grind
   have hs:=d6d (r:=r) (e:=e) (P:=P) (P':=P') (vr:=vr) (vr':=vr') (if QK k then n::W else W) s (fun v Q ⟨g,hg,h⟩=>hP v Q ⟨g,by rw[D2];exact aw _ hg,h⟩) (fun x A=>Q x (by
    rw[hq];rcases A with A|A
    ·grind
    ·exact .inr (bz _ A)))
   rw[e1,hs];by_cases S:QK k
   ·grind
   ·simp only[if_neg S]
theorem d6d{r:C5}{e:Env}{P P':J->O}{vr vr':J->J}:∀(W:List J)(l:List O),(∀v∈r.from_.parts,(∃g∈M4 l,F6 r.from_ g/\g.name=v)->P v=P' v)->(∀x,x∈W\/x∈J6 l->vr x=vr' x)->Z0 r e P vr W l=Z0 r e P' vr' W l
 |W,[],_,_=>by rw[Z0,Z0]
 |W,f::l,hP,Q=>by rw[Z0,Z0,CQ W f (fun v Q ⟨g,hg,h⟩=>hP v Q ⟨g,by rw[M4];exact de _ hg,h⟩) (fun x A=>Q x (A.imp id fun h=>by rw[J6];exact de _ h)),d6d W l (fun v Q ⟨g,hg,h⟩=>hP v Q ⟨g,by rw[M4];exact bz _ hg,h⟩) (fun x A=>Q x (A.imp id fun h=>by rw[J6];exact bz _ h))]
end
mutual
theorem Me{r:C5}{e e':Env}{P P':J->O}{vr vr':J->J}(hP:∀v∈r.from_.parts,w9 (P v)=w9 (P' v)/\R0 (P v)=R0 (P' v)):∀(W:List J)(f:O),w9 (inst' r e P vr W f)=w9 (inst' r e' P' vr' W f)/\R0 (inst' r e P vr W f)=R0 (inst' r e' P' vr' W f)
 |W,.mk k n w s=>by
  rw[inst',inst'];by_cases hp:F6 r.from_ (.mk k n w s)
  ·rw[if_pos hp,if_pos hp];exact hP n hp.2
  ·rw[if_neg hp,if_neg hp,w9,w9,R0,R0];have⟨U,X⟩:=Wh (e:=e) (e':=e') (vr:=vr) (vr':=vr') hP (if QK k then n::W else W) s
   exact⟨by rw[U],by rw[X]⟩
theorem Wh{r:C5}{e e':Env}{P P':J->O}{vr vr':J->J}(hP:∀v∈r.from_.parts,w9 (P v)=w9 (P' v)/\R0 (P v)=R0 (P' v)):∀(W:List J)(l:List O),B8 (Z0 r e P vr W l)=B8 (Z0 r e' P' vr' W l)/\N4 (Z0 r e P vr W l)=N4 (Z0 r e' P' vr' W l)
 |W,[]=>by rw[Z0,Z0];exact⟨rfl,rfl⟩
 |W,f::l=>by rw[Z0,Z0,B8,B8,N4,N4];have⟨U,X⟩:=Me (e:=e) (e':=e') (vr:=vr) (vr':=vr') hP W f;have⟨h3,h4⟩:=Wh (e:=e) (e':=e') (vr:=vr) (vr':=vr') hP W l;exact⟨by rw[U,h3],by rw[X,h4]⟩
end
def dX(B:List C5):Prop:=∀r∈B,LN r
theorem mW{r:C5}(hr:LN r){f:O}(hf:D6 f){e:Env}(h:mE r.from_ f=some e):∀v∈r.from_.parts,D6 (C9 e (43::v))/\am (C9 e (43::v))<am f:=fun v Q=>by
 have⟨ps,hp,he⟩:=pN h;have:=d5B hr.good hr.root hf hp he (first:=mU r.from_ r.from_.form []) (fun _=>rfl) []
 exact⟨this.ar v Q,this.size v Q⟩
section
variable {φ:J->J} (hφ:∀a b,φ a=φ b->a=b) (hn:∀x,M0 x->φ x=x)
theorem d6e{B' G:O->Nat->O}:∀(l:List O)(p:Nat),(∀x∈l,∀q,B' (L0 φ x) q=L0 φ (G x q))->E6 B' (N8 φ l) p=N8 φ (E6 G l p)
 | [],_,_=>by rw[N8,E6,E6,N8]
 |x::l,p,h=>by rw[N8,E6,E6,N8,h x (az ..),Mc,d6e l _ fun y hy=>h y (aw _ hy)]
theorem d6f{α:Type}{B' G:O->Nat->α}:∀(l:List O)(p:Nat),(∀x∈l,∀q,B' (L0 φ x) q=G x q)->E6 B' (N8 φ l) p=E6 G l p
 | [],_,_=>by rw[N8,E6,E6]
 |x::l,p,h=>by rw[N8,E6,E6,h x (az ..),Mc,d6f l _ fun y hy=>h y (aw _ hy)]
theorem Mf(hφ:∀a b,φ a=φ b->a=b)(hn:∀x,M0 x->φ x=x){B:List C5}(hr:dX B)(ν:Nat->J->J):∀(d:Nat)(f:O)(a:Nat),D6 f->TT B (fun a x=>φ (ν a x)) d (L0 φ f) a=L0 φ (TT B ν d f a)
 |0,f,a,_=>by rw[TT,TT]
 |d+1,f,a,hf=>by
  rw[TT,TT,Wf hφ hn B (fun r h=>(hr r h).good) 0 f hf];cases hm:au B 0 f with
  |none=>show O.mk (L0 φ f).kind (L0 φ f).name (L0 φ f).words (E6 _ (L0 φ f).subs (a+1))=L0 φ (.mk f.kind f.name f.words (E6 _ f.subs (a+1)));rw[zi φ f];show O.mk f.kind _ (f.words.map φ) (E6 _ (N8 φ f.subs) (a+1))=_;rw[L0,d6e (φ:=φ) (G:=TT B ν d) f.subs (a+1) fun x A q=>Mf hφ hn hr ν d x q (mS ((Q6 f).1 hf).2.2.2 x A)];rfl
  |some z=>
   have⟨k,r,e⟩:=z;have⟨kD,gI,_⟩:=ru B 0 hm;have Z1:=hr r kD;have fY:=Md Z1.good hf gI;show inst' r (aQ φ e) (fun v=>TT B (fun a x=>φ (ν a x)) d (C9 (aQ φ e) (43::v)) (W5 r (L0 φ f) a v)) (N5 (fun a x=>φ (ν a x)) r (aQ φ e) a) [] r.B4=L0 φ (inst' r e (fun v=>TT B ν d (C9 e (43::v)) (W5 r f a v)) (N5 ν r e a) [] r.B4);rw[<-d6b fY [] r.B4 fun x A=>hn x (Cg _ Z1.to.1 _ x A)];refine CQ [] r.B4 (fun v Q _=>?_) (fun x _=>?_)
   ·show TT B _ d (C9 (aQ φ e) (43::v)) (W5 r (L0 φ f) a v)=L0 φ (TT B ν d (C9 e (43::v)) (W5 r f a v));have pP:W5 r (L0 φ f) a v=W5 r f a v:=by unfold W5;rw[Wd]
    rw[d6a,pP];exact Mf hφ hn hr ν d _ _ (mW Z1 hf gI v Q).1
   ·show N5 _ r (aQ φ e) a x=φ (N5 ν r e a x);unfold N5;by_cases hq:x∈qs r.from_.form
    ·rw[if_pos hq,if_pos hq];exact d5Z fY (.inr rfl) (by unfold E4;simp[hq])
    ·rw[if_neg hq,if_neg hq]
theorem Wi(hφ:∀a b,φ a=φ b->a=b)(hn:∀x,M0 x->φ x=x){B:List C5}(hr:dX B):∀(d:Nat)(f:O)(a:Nat),D6 f->HT B d (L0 φ f) a=HT B d f a
 |0,f,a,_=>by rw[HT,HT]
 |d+1,f,a,hf=>by
  rw[HT,HT,Wf hφ hn B (fun r h=>(hr r h).good) 0 f hf];cases hm:au B 0 f with
  |none=>
   have e:(L0 φ f).subs=N8 φ f.subs:=by rw[zi];rfl
   show(E6 _ (L0 φ f).subs (a+1)).flatten=(E6 _ f.subs (a+1)).flatten;rw[e,d6f (φ:=φ) (G:=HT B d) f.subs (a+1) fun x A q=>Wi hφ hn hr d x q (mS ((Q6 f).1 hf).2.2.2 x A)]
  |some z=>
   have⟨k,r,e⟩:=z;have⟨kD,gI,_⟩:=ru B 0 hm;have Z1:=hr r kD;have hu:∀v∈cZ r,v∈r.from_.parts:=fun v Q=>by unfold cZ at Q;rw[Ma]at Q;obtain⟨g,hg,rfl⟩:=bj.1 Q;exact(of_decide_eq_true (ml.1 hg).2).2
   show(a,k)::(cZ r).flatMap (fun v=>HT B d (C9 (aQ φ e) (43::v)) (W5 r (L0 φ f) a v))=(a,k)::(cZ r).flatMap (fun v=>HT B d (C9 e (43::v)) (W5 r f a v));congr 1;rw[BY,BY];congr 1;refine e8 fun v Q=>?_;have pP:W5 r (L0 φ f) a v=W5 r f a v:=by unfold W5;rw[Wd]
   rw[d6a,pP];exact Wi hφ hn hr d _ _ (mW Z1 hf gI v (hu v Q)).1
end
theorem wD(B:List C5)(ν ν':Nat->J->J):∀(d:Nat)(f:O)(a:Nat),w9 (TT B ν d f a)=w9 (TT B ν' d f a)/\R0 (TT B ν d f a)=R0 (TT B ν' d f a)
 |0,f,a=>by rw[TT,TT];exact⟨rfl,rfl⟩
 |d+1,f,a=>by
  rw[TT,TT];cases au B 0 f with
  |none=>
   have key:∀(l:List O)(p:Nat),B8 (E6 (TT B ν d) l p)=B8 (E6 (TT B ν' d) l p)/\N4 (E6 (TT B ν d) l p)=N4 (E6 (TT B ν' d) l p):=by
    intro l;induction l with
    |nil=>intro p;exact⟨rfl,rfl⟩
    |cons x l ih=>intro p;rw[E6,E6,B8,B8,N4,N4];have⟨U,X⟩:=wD B ν ν' d x p;have⟨h3,h4⟩:=ih (p+w9 x);exact⟨by rw[U,h3],by rw[X,h4]⟩
   have⟨U,X⟩:=key f.subs (a+1);show w9 (O.mk _ _ _ _)=w9 (O.mk _ _ _ _)/\R0 (O.mk _ _ _ _)=R0 (O.mk _ _ _ _);rw[w9,w9,R0,R0,U,X];exact⟨rfl,rfl⟩
  |some z=>have⟨k,r,e⟩:=z;exact Me (fun v _=>wD B ν ν' d _ _) [] r.B4
mutual
def gJ(s:B1):O->O->Nat->List (J×Nat×O)
 | .mk k n w l,g,p=>if F6 s (.mk k n w l)then [(n,p,g)]else cJ s l g.subs (p+1)
def cJ(s:B1):List O->List O->Nat->List (J×Nat×O)
 | [],_,_=>[]
 |f::l,gs,p=>match gs with
  | []=>[]
  |g::gs=>gJ s f g p++cJ s l gs (p+w9 g)
end
mutual
theorem Mg(s:B1):∀(f g:O)(p:Nat),(gJ s f g p).map (fun x=>(x.1,x.2.1))=Z8 s f g p
 | .mk k n w l,g,p=>by
   rw[gJ,Z8];by_cases h:F6 s (.mk k n w l)
   ·rw[if_pos h,if_pos h];rfl
   ·rw[if_neg h,if_neg h,d6g s l]
theorem d6g(s:B1):∀(l gs:List O)(p:Nat),(cJ s l gs p).map (fun x=>(x.1,x.2.1))=fH s l gs p
 | [],gs,p=>by rw[cJ,fH];rfl
 |f::l,[],p=>by rw[cJ,fH];rfl
 |f::l,g::gs,p=>by rw[cJ,fH,cm,Mg s f,d6g s l]
end
mutual
theorem Wj(s:B1):∀(f g:O)(W:List J)(p:Nat)(ps:List C4),R3 s f W g=some ps->∀e∈gJ s f g p,(⟨43::e.1,[],e.2.2⟩:C4)∈ps
 | .mk k n w l,g,W,p,ps,h,e,he=>by
   rw[R3]at h;rw[gJ]at he;by_cases hp:F6 s (.mk k n w l)
   ·grind
   ·rw[if_neg hp]at h he;by_cases S:k≠g.kind\/w.length≠g.words.length
    ·rw[if_pos S]at h;cases h
    ·rw[if_neg S]at h;obtain⟨x,y,_,X,rfl⟩:=aB h;obtain⟨x2,y2,_,h4,rfl⟩:=aB X;exact bz _ (bz _ (d6h s l g.subs _ (p+1) y2 h4 e he))
theorem d6h(s:B1):∀(l gs:List O)(W:List J)(p:Nat)(ps:List C4),N7 s l W gs=some ps->∀e∈cJ s l gs p,(⟨43::e.1,[],e.2.2⟩:C4)∈ps
 | [],gs,W,p,ps,_,e,he=>by rw[cJ]at he;cases he
 |f::l,[],W,p,ps,_,e,he=>by rw[cJ]at he;cases he
 |f::l,g::gs,W,p,ps,h,e,he=>by
  rw[N7]at h;rw[cJ]at he;obtain⟨x,y,U,X,rfl⟩:=aB h;rcases al.1 he with he|he
  ·exact de _ (Wj s f g W _ x U e he)
  ·exact bz _ (d6h s l gs W _ y X e he)
end
theorem CS(p m n:Nat):fi p (m+n)=fi p m++fi (p+m) n:=by grind
mutual
theorem i8K(s:B1):∀(f g:O)(p:Nat),((gJ s f g p).flatMap fun e=>fi e.2.1 (w9 e.2.2)).Sublist (fi p (w9 g))
 | .mk k n w l,g,p=>by
   rw[gJ];by_cases hp:F6 s (.mk k n w l)
   ·rw[if_pos hp];simp
   ·rw[if_neg hp,Y8 g,CS];exact(Wk s l g.subs (p+1)).trans (List.sublist_append_right _ _)
theorem Wk(s:B1):∀(l gs:List O)(p:Nat),((cJ s l gs p).flatMap fun e=>fi e.2.1 (w9 e.2.2)).Sublist (fi p (B8 gs))
 | [],gs,p=>by rw[cJ];exact kp _
 |f::l,[],p=>by rw[cJ];exact kp _
 |f::l,g::gs,p=>by rw[cJ,B8,kn,CS];exact(i8K s f g p).append (Wk s l gs (p+w9 g))
end
structure CT(s:B1)(f:O)(a:Nat)(pf:J->O)(pl:J->Nat):Prop where
 sub:∀v∈s.parts,a<pl v/\pl v+w9 (pf v)<=a+w9 f
 Gh:∀v∈s.parts,∀w∈s.parts,v≠w->pl v+w9 (pf v)<=pl w\/pl w+w9 (pf w)<=pl v
theorem d6i{α:Type}{h:α->List Nat}:∀ {l:List α},(l.flatMap h).Nodup->∀a∈l,∀b∈l,a≠b->∀q∈h a,q∉h b
 | [],_,a,ha,_,_,_,_,_,_=>by cases ha
 |c::l,hn,a,ha,b,H,hab,q,hq,fq=>by
  rw[qf,im]at hn;rcases ce.1 ha with e1|U
  ·grind
  ·rcases ce.1 H with e2|X
   ·grind
   ·exact d6i hn.2.1 a U b X hab q hq fq
mutual
theorem d6j(s:B1):∀(f g:O)(p:Nat)(q:J),(gJ s f g p).map (·.1)=(eS s f g q).map (·.1)
 | .mk k n w l,g,p,q=>by
   rw[gJ,eS];by_cases h:F6 s (.mk k n w l)
   ·rw[if_pos h,if_pos h];rfl
   ·rw[if_neg h,if_neg h,d6k s l]
theorem d6k(s:B1):∀(l gs:List O)(p:Nat)(q:J)(i:Nat),(cJ s l gs p).map (·.1)=(cI s l gs q i).map (·.1)
 | [],gs,p,q,i=>by rw[cJ,cI];rfl
 |f::l,[],p,q,i=>by rw[cJ,cI];rfl
 |f::l,g::gs,p,q,i=>by rw[cJ,cI,cm,cm,d6j s f,d6k s l]
end
theorem Mh{s:B1}(h:S4 s)(zl:¬F6 s s.form){g:O}(hg:D6 g){e:Env}(hm:mE s g=some e)(a:Nat):
 CT s g a (fun v=>C9 e (43::v)) (fun v=>(assoc v (Z8 s s.form g a)).getD 0):=by
 have⟨ps,hps,he⟩:=pN hm
 have har:=M1.ar _ h.form.1
 have key:∀v∈s.parts,(v,(assoc v (Z8 s s.form g a)).getD 0,C9 e (43::v))∈gJ s s.form g a:=fun v Q=>by
  have⟨_,x,A,U,X,h3⟩:=h.parts v Q;have⟨r,hr⟩:=LP s s.form [] har x A ⟨⟨U,h3⟩,by rw[X];exact Q⟩;rw[X]at hr;have Gi:=LO s s.form g [] [] [] ps har hg hps;have hm2:v∈(eS s s.form g []).map (·.1):=by
   have:v∈((eS s s.form g []).map (fun e=>(e.1,e.2.1))).map (·.1):=by grind
   rw[ja]at this;exact this
  rw[<-d6j s s.form g a []]at hm2;have⟨o,ho,eo⟩:=bj.1 hm2;have Bq:(v,o.2.1)∈Z8 s s.form g a:=by rw[<-Mg];exact bj.2 ⟨o,ho,by rw[<-eo]⟩
  have⟨C',hu⟩:=LS Bq;have jW:=LQ hu;rw[<-Mg]at jW;have⟨o2,V2,Gr⟩:=bj.1 jW;have⟨zp,o22,Gs⟩:=o2;simp only[mv]at Gr;obtain⟨rfl,rfl⟩:=Gr;have H:=(jG _ _ _ he).1 _ (Wj s s.form g [] a ps hps _ V2);have e3:C9 e (43::zp)=Gs:=by unfold C9;rw[show assoc (43::zp) e=some ⟨43::zp,[],Gs⟩from H];rfl
  rw[e3,hu];exact V2
 have zm:gJ s s.form g a=cJ s s.form.subs g.subs (a+1):=by
  have:∀f:O,¬F6 s f->gJ s f g a=cJ s f.subs g.subs (a+1):=fun f hf=>by cases f;rw[gJ,if_neg hf];rfl
  exact this _ zl
 have hsub:=Wk s s.form.subs g.subs (a+1)
 rw[<-zm]at hsub
 have hnd:((gJ s s.form g a).flatMap fun e=>fi e.2.1 (w9 e.2.2)).Nodup:=List.Nodup.sublist hsub (ul ..)
 have hpos:∀f:O,1<=w9 f:=fun f=>by rw[Y8];omega
 refine⟨fun v Q=>?_,fun v Q w hw VZ=>?_⟩
 ·have h0:=key v Q;have U:=hpos (C9 e (43::v));have m1:(assoc v (Z8 s s.form g a)).getD 0∈fi (a+1) (B8 g.subs):=hsub.subset (ed.2 ⟨_,h0,ff.2 ⟨ae _,by show(assoc v (Z8 s s.form g a)).getD 0<(assoc v (Z8 s s.form g a)).getD 0+w9 (C9 e (43::v));omega⟩⟩);have m2:(assoc v (Z8 s s.form g a)).getD 0+(w9 (C9 e (43::v))-1)∈fi (a+1) (B8 g.subs):=hsub.subset (ed.2 ⟨_,h0,ff.2 ⟨by show(assoc v (Z8 s s.form g a)).getD 0<=_;omega,by show _<(assoc v (Z8 s s.form g a)).getD 0+w9 (C9 e (43::v));omega⟩⟩);have m1:=ff.1 m1;have m2:=ff.1 m2;have:=Y8 g;show a<(assoc v (Z8 s s.form g a)).getD 0/\(assoc v (Z8 s s.form g a)).getD 0+w9 (C9 e (43::v))<=a+w9 g;omega
 ·have U:=hpos (C9 e (43::v));have X:=hpos (C9 e (43::w));have hd:=d6i hnd _ (key v Q) _ (key w hw) (fun e=>VZ (congrArg Prod.fst e));show(assoc v (Z8 s s.form g a)).getD 0+w9 (C9 e (43::v))<=(assoc w (Z8 s s.form g a)).getD 0\/(assoc w (Z8 s s.form g a)).getD 0+w9 (C9 e (43::w))<=(assoc v (Z8 s s.form g a)).getD 0;refine cp fun hn=>?_;rw[not_or]at hn;refine hd (max ((assoc v (Z8 s s.form g a)).getD 0) ((assoc w (Z8 s s.form g a)).getD 0)) (ff.2 ?_) (ff.2 ?_)
  ·grind
  ·grind
theorem Gt{α:Type}{B':O->Nat->List α}{z:α}:∀ {l:List O} {p:Nat},z∈(E6 B' l p).flatten->∃x∈l,∃q,p<=q/\q+w9 x<=p+B8 l/\z∈B' x q
 | [],p,h=>by cases h
 |y::l,p,h=>by
  rw[E6,tf]at h;rw[B8];rcases al.1 h with h|h
  ·grind
  ·have⟨x,A,q,U,X,h3⟩:=Gt h;exact⟨x,aw _ A,q,by omega,by omega,h3⟩
theorem Mi{r:C5}{v:J}:v∈cZ r↔ ∃g∈D2 r.B4,F6 r.from_ g/\g.name=v:=by
 unfold cZ;rw[Ma];constructor
 ·grind
 ·grind
theorem rz{r:C5}{v:J}(h:v∈cZ r):v∈r.from_.parts:=by obtain⟨g,_,hp,rfl⟩:=Mi.1 h;exact hp.2
theorem gK{B:List C5}(hr:dX B):∀(d:Nat)(f:O)(a:Nat),D6 f->∀z∈HT B d f a,a<=z.1/\z.1<a+w9 f/\z.2<B.length
 |0,f,a,_,z,hz=>by rw[HT]at hz;cases hz
 |d+1,f,a,hf,z,hz=>by
  have hnd:=Y8 f;rw[HT]at hz;cases hm:au B 0 f with
  |none=>rw[hm]at hz;have⟨x,A,q,U,X,h3⟩:=Gt hz;have⟨k1,k2,k3⟩:=gK hr d x q (mS ((Q6 f).1 hf).2.2.2 x A) z h3;exact⟨by omega,by omega,k3⟩
  |some y=>
   have⟨k,r,e⟩:=y;rw[hm]at hz;have⟨kD,gI,h3,h4,h5⟩:=ru B 0 hm;have Z1:=hr r kD;rcases ce.1 hz with rfl|hz
   ·grind
   ·have⟨v,Q,hz⟩:=ed.1 hz;have zq:=rz Q;have⟨p1,p2⟩:=(Mh Z1.good Z1.root hf gI a).sub v zq;have⟨k1,k2,k3⟩:=gK hr d _ _ (mW Z1 hf gI v zq).1 z hz;have p1:a<W5 r f a v:=p1;have p2:W5 r f a v+w9 (C9 e (43::v))<=a+w9 f:=p2;exact⟨by omega,by omega,k3⟩
theorem Wm{B':O->Nat->List (Nat×Nat)}:∀(l:List O)(p:Nat),(∀x∈l,∀q,((B' x q).map (·.1)).Nodup/\∀z∈B' x q,q<=z.1/\z.1<q+w9 x)->((E6 B' l p).flatten.map (·.1)).Nodup
 | [],p,_=>by rw[E6];exact lh
 |y::l,p,h=>by rw[E6,tf,cm,im];refine⟨(h y (az ..) p).1,Wm l _ fun x A=>h x (aw _ A),fun a ha b H e=>?_⟩;obtain⟨z,hz,rfl⟩:=bj.1 ha;obtain⟨z2,bT,rfl⟩:=bj.1 H;have⟨_,k1⟩:=(h y (az ..) p).2 z hz;have⟨x,A,q,U,_,h3⟩:=Gt bT;have⟨k2,_⟩:=(h x (aw _ A) q).2 z2 h3;omega
theorem Mj{B':J->List (Nat×Nat)}{pl:J->Nat}{n:J->Nat}:∀(l:List J),l.Nodup->(∀v∈l,((B' v).map (·.1)).Nodup/\∀z∈B' v,pl v<=z.1/\z.1<pl v+n v)->(∀v∈l,∀w∈l,v≠w->pl v+n v<=pl w\/pl w+n w<=pl v)->((l.flatMap B').map (·.1)).Nodup
 | [],_,_,_=>lh
 |v::l,hn,h,hd=>by rw[ia]at hn;rw[qf,cm,im];refine⟨(h v (az ..)).1,Mj l hn.2 (fun w hw=>h w (aw _ hw)) (fun w hw C' hu=>hd w (aw _ hw) C' (aw _ hu)),fun a ha b H e=>?_⟩;obtain⟨z,hz,rfl⟩:=bj.1 ha;obtain⟨z2,bT,rfl⟩:=bj.1 H;have⟨w,hw,bT⟩:=ed.1 bT;have k1:=(h v (az ..)).2 z hz;have k2:=(h w (aw _ hw)).2 z2 bT;have:=hd v (az ..) w (aw _ hw) (fun e=>hn.1 (e▸hw));omega
theorem wE{B:List C5}(hr:dX B):∀(d:Nat)(f:O)(a:Nat),D6 f->((HT B d f a).map (·.1)).Nodup
 |0,f,a,_=>by rw[HT];exact lh
 |d+1,f,a,hf=>by
  rw[HT];cases hm:au B 0 f with
  |none=>refine Wm _ _ fun x A q=>⟨wE hr d x q (mS ((Q6 f).1 hf).2.2.2 x A),fun z hz=>?_⟩;have⟨k1,k2,_⟩:=gK hr d x q (mS ((Q6 f).1 hf).2.2.2 x A) z hz;exact⟨k1,k2⟩
  |some y=>
   have⟨k,r,e⟩:=y;have⟨kD,gI,h3,h4,h5⟩:=ru B 0 hm;have Z1:=hr r kD;have hpa:=Mh Z1.good Z1.root hf gI a;show(((a,k)::(cZ r).flatMap fun v=>HT B d (C9 e (43::v)) (W5 r f a v)).map (·.1)).Nodup;rw[bv,ia];refine⟨fun h=>?_,Mj (pl:=W5 r f a) (n:=fun v=>w9 (C9 e (43::v))) _ (Mb _) (fun v Q=>⟨wE hr d _ _ (mW Z1 hf gI v (rz Q)).1,fun z hz=>?_⟩) (fun v Q w hw=>hpa.Gh v (rz Q) w (rz hw))⟩
   ·have⟨z,hz,e1⟩:=bj.1 h;have⟨v,Q,hz⟩:=ed.1 hz;have⟨p1,_⟩:=hpa.sub v (rz Q);have⟨k1,_⟩:=gK hr d _ _ (mW Z1 hf gI v (rz Q)).1 z hz;have p1:a<W5 r f a v:=p1;have e1:z.1=a:=e1;omega
   ·have⟨k1,k2,_⟩:=gK hr d _ _ (mW Z1 hf gI v (rz Q)).1 z hz;exact⟨k1,k2⟩
theorem Mk{B' G:O->Nat->O}{xv:O->Nat->List (Nat×Nat)}{C:Nat×Nat->Prop}(h:∀x q,(∀z∈xv x q,C z)->B' x q=G x q):∀(l:List O)(p:Nat),(∀z∈(E6 xv l p).flatten,C z)->E6 B' l p=E6 G l p
 | [],_,_=>rfl
 |x::l,p,hz=>by rw[E6,tf]at hz;rw[E6,E6,h x p fun z A=>hz z (de _ A),Mk h l _ fun z A=>hz z (bz _ A)]
theorem wF(B:List C5)(ν ν':Nat->J->J):∀(d:Nat)(f:O)(a:Nat),(∀z∈HT B d f a,∀x∈qs (Am.get B z.2).B4,ν z.1 x=ν' z.1 x)->TT B ν d f a=TT B ν' d f a
 |0,f,a,_=>by rw[TT,TT]
 |d+1,f,a,h=>by
  rw[HT]at h;rw[TT,TT];cases hm:au B 0 f with
  |none=>rw[hm]at h;show O.mk _ _ _ _=O.mk _ _ _ _;rw[Mk (xv:=HT B d) (C:=fun z=>∀x∈qs (Am.get B z.2).B4,ν z.1 x=ν' z.1 x) (fun x q A=>wF B ν ν' d x q A) f.subs (a+1) h]
  |some y=>
   have⟨k,r,e⟩:=y;rw[hm]at h;have⟨_,_,_,_,h5⟩:=ru B 0 hm;rw[Nat.sub_zero]at h5;refine CQ [] r.B4 (fun v Q hg=>?_) (fun x A=>?_)
   ·exact wF B ν ν' d _ _ fun z hz=>h z (aw _ (ed.2 ⟨v,Mi.2 hg,hz⟩))
   ·have A:x∈qs r.B4:=A.resolve_left (fun h=>by cases h);unfold N5;by_cases hq:x∈qs r.from_.form
    ·rw[if_pos hq,if_pos hq]
    ·simp_all
def jm(mp:List (J×Int))(f:O)(p:J)(a:Nat):Prop:=∀j,j<w9 f->assoc (Am.get (dJ f p) j) mp=some ((a+j:Nat):Int)
theorem jm.root{mp:List (J×Int)}{f:O}{p:J}{a:Nat}(h:jm mp f p a):assoc p mp=some (a:Int):=by have:=h 0 (by rw[Y8];omega);rw[LL]at this;exact this
theorem d6l:∀(l:List O)(p:J)(i k:Nat),k<l.length->∀j,j<w9 (Am.get l k)->Am.get (bJ l p i) (B8 (l.take k)+j)=Am.get (dJ (Am.get l k) (p++cb (i+k))) j
 | [],p,i,k,h,j,L=>by simp at h
 |x::l,p,i,0,h,j,L=>by have e:Am.get (x::l) 0=x:=rfl;rw[e]at L⊢;rw[fe,B8,dq,bJ,Nat.add_zero];unfold Am.get;rw[ac,ac,List.getElem?_append_left (by rw[Gd];exact L)];rfl
 |x::l,p,i,k+1,h,j,L=>by have e:Am.get (x::l) (k+1)=Am.get l k:=rfl;rw[e]at L⊢;have ih:=d6l l p (i+1) k (by simpa using h) j L;rw[mc,B8,bJ,show i+(k+1)=i+1+k by omega, <-ih];unfold Am.get;rw[ac,ac,List.getElem?_append_right (by rw[Gd];omega),Gd];congr 2;omega
theorem jm.sub{mp:List (J×Int)}{f:O}{p:J}{a:Nat}(h:jm mp f p a){k:Nat}(S:k<f.subs.length):jm mp (Am.get f.subs k) (p++cb k) (a+1+B8 (f.subs.take k)):=fun j L=>by have fD:=eO S;have U:=h (B8 (f.subs.take k)+j+1) (by rw[Y8];omega);rw[LL]at U;have U:assoc (Am.get (bJ f.subs p 0) (B8 (f.subs.take k)+j)) mp=some ((a+(B8 (f.subs.take k)+j+1):Nat):Int):=U;rw[d6l f.subs p 0 k S j L,dq]at U;rw[U];congr 2;omega
mutual
def pQ(s:B1):O->O->J->Nat->List (J×J×Nat×O)
 | .mk k n w l,g,p,a=>if F6 s (.mk k n w l)then [(n,p,a,g)]else lM s l g.subs p 0 (a+1)
def lM(s:B1):List O->List O->J->Nat->Nat->List (J×J×Nat×O)
 | [],_,_,_,_=>[]
 |f::l,gs,p,i,a=>match gs with
  | []=>[]
  |g::gs=>pQ s f g (p++cb i) a++lM s l gs p (i+1) (a+w9 g)
end
mutual
theorem Wn(s:B1):∀(f g:O)(p:J)(a:Nat),(pQ s f g p a).map (fun x=>(x.1,x.2.1,x.2.2.2))=eS s f g p
 | .mk k n w l,g,p,a=>by
   rw[pQ,eS];by_cases h:F6 s (.mk k n w l)
   ·rw[if_pos h,if_pos h];rfl
   ·rw[if_neg h,if_neg h,d6m s l]
theorem d6m(s:B1):∀(l gs:List O)(p:J)(i a:Nat),(lM s l gs p i a).map (fun x=>(x.1,x.2.1,x.2.2.2))=cI s l gs p i
 | [],gs,p,i,a=>by rw[lM,cI];rfl
 |f::l,[],p,i,a=>by rw[lM,cI];rfl
 |f::l,g::gs,p,i,a=>by rw[lM,cI,cm,Wn s f,d6m s l]
end
mutual
theorem d6n(s:B1):∀(f g:O)(p:J)(a:Nat),(pQ s f g p a).map (fun x=>(x.1,x.2.2.1))=Z8 s f g a
 | .mk k n w l,g,p,a=>by
   rw[pQ,Z8];by_cases h:F6 s (.mk k n w l)
   ·rw[if_pos h,if_pos h];rfl
   ·rw[if_neg h,if_neg h,d6o s l]
theorem d6o(s:B1):∀(l gs:List O)(p:J)(i a:Nat),(lM s l gs p i a).map (fun x=>(x.1,x.2.2.1))=fH s l gs a
 | [],gs,p,i,a=>by rw[lM,fH];rfl
 |f::l,[],p,i,a=>by rw[lM,fH];rfl
 |f::l,g::gs,p,i,a=>by rw[lM,fH,cm,d6n s f,d6o s l]
end
def CU(mp:List (J×Int))(l:List O)(p:J)(i a:Nat):Prop:=∀k,k<l.length->jm mp (Am.get l k) (p++cb (i+k)) (a+B8 (l.take k))
theorem CU.head{mp:List (J×Int)}{g:O}{l:List O}{p:J}{i a:Nat}(h:CU mp (g::l) p i a):jm mp g (p++cb i) a:=by have:=h 0 B5;rw[fe,B8]at this;exact this
theorem CU.tail{mp:List (J×Int)}{g:O}{l:List O}{p:J}{i a:Nat}(h:CU mp (g::l) p i a):CU mp l p (i+1) (a+w9 g):=fun k S=>by have:=h (k+1) (by simpa using S);rw[mc,B8,show i+(k+1)=i+1+k by omega, <-da]at this;exact this
mutual
theorem d6p(s:B1){mp:List (J×Int)}:∀(f g:O)(p:J)(a:Nat),jm mp g p a->∀e∈pQ s f g p a,jm mp e.2.2.2 e.2.1 e.2.2.1
 | .mk k n w l,g,p,a,h,e,he=>by
   rw[pQ]at he;by_cases hp:F6 s (.mk k n w l)
   ·grind
   ·rw[if_neg hp]at he;exact d6q s l g.subs p 0 (a+1) (fun k S=>by rw[dq];exact h.sub S) e he
theorem d6q(s:B1){mp:List (J×Int)}:∀(l gs:List O)(p:J)(i a:Nat),CU mp gs p i a->∀e∈lM s l gs p i a,jm mp e.2.2.2 e.2.1 e.2.2.1
 | [],gs,p,i,a,h,e,he=>by rw[lM]at he;cases he
 |f::l,[],p,i,a,h,e,he=>by rw[lM]at he;cases he
 |f::l,g::gs,p,i,a,h,e,he=>by
  rw[lM]at he;rcases al.1 he with he|he
  ·exact d6p s f g _ a h.head e he
  ·exact d6q s l gs p (i+1) _ h.tail e he
end
theorem Wo{α xx:Type}(B':α->J)(G:α->xx)(v:J):∀l:List α,assoc v (l.map fun x=>(B' x,G x))=(l.find? fun x=>decide (v=B' x)).map G
 | []=>rfl
 |x::l=>by
  rw[bv];by_cases h:v=B' x
  ·rw[List.find?_cons_of_pos (by simp[h])];unfold assoc;rw[if_pos h];rfl
  ·rw[List.find?_cons_of_neg (by simp[h])];unfold assoc;rw[if_neg h];exact Wo B' G v l
theorem i8M{s:B1}(h:S4 s){g:O}(hg:D6 g){e:Env}(hm:mE s g=some e){mp:List (J×Int)}{a:Nat}(hN:jm mp g path a)(hfi:∀x,assoc x first=assoc x (mU s s.form [])):∀v∈s.parts,
 jm mp (C9 e (43::v)) (path++(assoc v first).getD default) ((assoc v (Z8 s s.form g a)).getD 0):=fun v Q=>by
 have⟨ps,hps,he⟩:=pN hm
 have har:=M1.ar _ h.form.1
 have⟨_,x,A,U,X,h3⟩:=h.parts v Q
 have⟨r,hr⟩:=LP s s.form [] har x A ⟨⟨U,h3⟩,by rw[X];exact Q⟩
 rw[X]at hr
 have⟨C',hu⟩:=LS hr
 have Gi:=LO s s.form g [] path [] ps har hg hps
 rw[gf]at Gi
 have e1:assoc v ((pQ s s.form g path a).map fun x=>(x.1,x.2.1))=some (path++C'):=by
  have:(pQ s s.form g path a).map (fun x=>(x.1,x.2.1))=(eS s s.form g path).map fun e=>(e.1,e.2.1):=by rw[<-Wn s s.form g path a,ja];rfl
  rw[this,Gi];have:∀l:List (J×J),assoc v (l.map fun e=>(e.1,path++e.2))=(assoc v l).map (path++ ·):=fun l=>by
   induction l with
   |nil=>rfl
   |cons y l ih=>
    rw[bv];by_cases hy:v=y.1
    ·simp[assoc,hy]
    ·have⟨y1,y2⟩:=y;have hy:¬v=y1:=hy;simp[assoc,hy];exact ih
  rw[this,hu];rfl
 rw[Wo (fun x:J×J×Nat×O=>x.1) (fun x=>x.2.1)]at e1
 have e2:assoc v (Z8 s s.form g a)=((pQ s s.form g path a).find? fun x=>decide (v=x.1)).map fun x=>x.2.2.1:=by rw[<-d6n s s.form g path a];exact Wo (fun x:J×J×Nat×O=>x.1) (fun x=>x.2.2.1) v _
 cases hf:(pQ s s.form g path a).find? fun x=>decide (v=x.1)with
 |none=>rw[hf]at e1;cases e1
 |some o=>
  rw[hf]at e1 e2;have ho:=List.mem_of_find?_eq_some hf;have hn:v=o.1:=by simpa using List.find?_some hf
  have Wp:=d6p s s.form g path a hN o ho;have hoc:(o.1,o.2.1,o.2.2.2)∈eS s s.form g path:=by rw[<-Wn s s.form g path a];exact bj.2 ⟨o,ho,rfl⟩
  have H:=(jG _ _ _ he).1 _ (VQ s s.form g [] path ps hps _ hoc);have e3:C9 e (43::v)=o.2.2.2:=by unfold C9;rw[hn,show assoc (43::o.1) e=some ⟨43::o.1,[],o.2.2.2⟩from H];rfl
  have e4:path++C'=o.2.1:=(Option.some.inj e1).symm;rw[e3,hfi,hu,e2];show jm mp o.2.2.2 (path++C') o.2.2.1;rw[e4];exact Wp
def wH(B:List C5)(z:Nat×Nat)(x:J):Prop:=x∈qs (Am.get B z.2).B4/\x∉qs (Am.get B z.2).from_.form
structure iK(B:List C5)(AM:List (Nat×Nat))(ν:Nat->J->J)(c c2:Nat):Prop where
 le:c<=c2
 rng:∀z∈AM,∀x,wH B z x->∃j,c<=j/\j<c2/\ν z.1 x=qn j
 inj:∀z∈AM,∀x,wH B z x->∀z'∈AM,∀x',wH B z' x'->ν z.1 x=ν z'.1 x'->z.1=z'.1/\x=x'
theorem iK.nil(B:List C5)(ν:Nat->J->J)(c:Nat):iK B [] ν c c:=⟨ae _,(fun z hz=>by cases hz),(fun z hz=>by cases hz)⟩
def mX(AM:List (Nat×Nat))(ν' ν:Nat->J->J):Nat->J->J:=fun b=>if b∈AM.map (·.1)then ν' b else ν b
theorem Gu{b:Nat}(h:b∈AM.map (·.1)):mX AM ν' ν b=ν' b:=if_pos h
theorem Gv{b:Nat}(h:b∉AM.map (·.1)):mX AM ν' ν b=ν b:=if_neg h
theorem iK.app{L':List (Nat×Nat)}{c c1 c2:Nat}(h:iK B AM ν c c1)(h':iK B L' ν' c1 c2)(hd:∀z∈AM,z.1∉L'.map (·.1)):iK B (AM++L') (mX L' ν' ν) c c2:=by
 have U:=h.le;have X:=h'.le;have eL:∀z∈AM,mX L' ν' ν z.1=ν z.1:=fun z hz=>Gv (hd z hz);have Gw:∀z∈L',mX L' ν' ν z.1=ν' z.1:=fun z hz=>Gu (bj.2 ⟨z,hz,rfl⟩);refine⟨by omega,fun z hz x A=>?_,fun z hz x A z' hz' x' hx' e=>?_⟩
 ·rcases al.1 hz with hz|hz
  ·have⟨j,a,b,e⟩:=h.rng z hz x A;exact⟨j,a,by omega,by rw[eL z hz];exact e⟩
  ·have⟨j,a,b,e⟩:=h'.rng z hz x A;exact⟨j,by omega,b,by rw[Gw z hz];exact e⟩
 ·rcases al.1 hz with hz|hz
  ·rcases al.1 hz' with hz'|hz'
   ·rw[eL z hz,eL z' hz']at e;exact h.inj z hz x A z' hz' x' hx' e
   ·rw[eL z hz,Gw z' hz']at e;have⟨j,a,b,e1⟩:=h.rng z hz x A;have⟨j',a',b',e2⟩:=h'.rng z' hz' x' hx';rw[e1,e2]at e;have:=wv _ _ e;omega
  ·rcases al.1 hz' with hz'|hz'
   ·rw[Gw z hz,eL z' hz']at e;have⟨j,a,b,e1⟩:=h'.rng z hz x A;have⟨j',a',b',e2⟩:=h.rng z' hz' x' hx';rw[e1,e2]at e;have:=wv _ _ e;omega
   ·rw[Gw z hz,Gw z' hz']at e;exact h'.inj z hz x A z' hz' x' hx' e
def bW(D:List J)(x:J):List J:=if x∈D then D else D++[x]
theorem Wq:∀(l D:List J),l.foldl bW D=D++(rm l).filter fun y=>decide (y∉D)
 | [],D=>by simp[rm]
 |x::l,D=>by
  rw[List.foldl_cons,Wq l,rm];unfold bW;by_cases h:x∈D
  ·rw[if_pos h,List.filter_cons_of_neg (by simp[h]),List.filter_filter];congr 1;refine List.filter_congr fun y _=>?_;by_cases hy:y∈D
   ·simp[hy]
   ·grind
  ·simp_all
theorem d6r(l:List J):l.foldl bW []=rm l:=by rw[Wq];simp
def jo(s:B1)(f:O):List J:=((D2 f).filter fun g=>decide (F6 s g)).map (·.name)
def iL(s:B1)(l:List O):List J:=((M4 l).filter fun g=>decide (F6 s g)).map (·.name)
theorem d6s(s:B1){f:O}(hf:D6 f):jo s f=if F6 s f then [f.name]else iL s f.subs:=by
 unfold jo iL;rw[pC];by_cases h:F6 s f
 ·have e2:R2 2=0:=rfl;have hl:f.subs=[]:=dt.1 (by have:=((Q6 f).1 hf).1;rw[h.1.1,e2]at this;omega);rw[if_pos h,hl,M4,List.filter_cons_of_pos (by simp[h])];rfl
 ·grind
theorem i8N(s:B1)(l:List O)(x:O):iL s (l++[x])=iL s l++jo s x:=by unfold jo iL;rw[Fu,List.filter_append,cm]
theorem d6t(r:C5):cZ r=(jo r.from_ r.B4).foldl bW []:=(d6r _).symm
def dK(f:O):Prop:=w9 f<=200/\R0 f<=40
def eT(z:Nat×Nat):C6:=⟨(z.1:Int),(z.2:Int)⟩
theorem Ml:∀ {l:List O} {x:O},x∈l->w9 x<=B8 l/\R0 x<=N4 l
 |y::l,x,h=>by
  rw[B8,N4];rcases ce.1 h with rfl|h
  ·omega
  ·have⟨U,X⟩:=Ml h;omega
theorem Mn(r:C5)(e:Env)(P:J->O)(vr:J->J)(W:List J):∀l:List O,Z0 r e P vr W l=l.map (inst' r e P vr W)
 | []=>by rw[Z0];rfl
 |f::l=>by rw[Z0,bv,Mn r e P vr W l]
theorem Wr(r:C5)(e:Env)(P:J->O)(vr:J->J)(W:List J)(f:O):inst' r e P vr W f=if F6 r.from_ f then P f.name else
 .mk f.kind (if QK f.kind then vr f.name else if f.kind=2/\f.name∈r.from_.A8 then E0 e (33::f.name)else f.name) (f.words.map fun x=>if x∈W then vr x else if x∈r.from_.words then E0 e (46::x)else x) (f.subs.map (inst' r e P vr (if QK f.kind then f.name::W else W))):=by
 cases f
 rw[inst',Mn]
 rfl
theorem d6u{r:C5}{e:Env}{P:J->O}{vr:J->J}(hP:∀v∈r.from_.parts,D6 (P v)):∀(m:Nat)(f:O),am f<=m->D6 f->∀W,D6 (inst' r e P vr W f):=by
 intro m;induction m with
 |zero=>exact z0
 |succ m ih=>
  intro f hf har W;have⟨I,a2,a3,a4⟩:=(Q6 f).1 har;rw[Wr];by_cases hp:F6 r.from_ f
  ·rw[if_pos hp];exact hP _ hp.2
  ·rw[if_neg hp];refine(Q6 _).2 ⟨?_,?_,?_,Wg fun x A=>?_⟩
   ·simp_all
   ·simp_all
   ·simp_all
   ·obtain⟨y,hy,rfl⟩:=bj.1 A;obtain⟨k,S,rfl⟩:=U0.1 hy;have:=W3 S;exact ih _ M (hY har S) _
theorem Ws{α:Type}(B':O->Nat->α):∀(l:List O)(p:Nat),(E6 B' l p).length=l.length
 | [],_=>rfl
 |x::l,p=>by rw[E6,an,an,Ws B' l]
theorem d6v{α:Type}{B':O->Nat->α}{z:α}:∀ {l:List O} {p:Nat},z∈E6 B' l p->∃x∈l,∃q,z=B' x q
 | [],_,h=>by cases h
 |x::l,p,h=>by
  rw[E6]at h;rcases ce.1 h with rfl|h
  ·grind
  ·have⟨y,hy,q,e⟩:=d6v h;exact⟨y,aw _ hy,q,e⟩
theorem Gx{α:Type}(B':O->Nat->α):∀(l:List O)(x:O)(p:Nat),E6 B' (l++[x]) p=E6 B' l p++[B' x (p+B8 l)]
 | [],x,p=>by rw[fw,E6,E6,E6,B8];rfl
 |y::l,x,p=>by rw[di,E6,E6,Gx B' l,B8,da];rfl
theorem zu{B:List C5}(hr:dX B)(ν:Nat->J->J):∀(d:Nat)(f:O)(a:Nat),D6 f->D6 (TT B ν d f a)
 |0,f,a,h=>by rw[TT];exact h
 |d+1,f,a,h=>by
  rw[TT];cases hm:au B 0 f with
  |none=>
   have⟨I,a2,a3,a4⟩:=(Q6 f).1 h;refine(Q6 _).2 ⟨?_,a2,?_,Wg fun x A=>?_⟩
   ·show((ph (E6 _ _ _):Nat):Int)=R2 f.kind;rw[Ws];exact I
   ·show ph (E6 _ _ _)<=2;rw[Ws];exact a3
   ·obtain⟨y,hy,q,rfl⟩:=d6v (show x∈E6 (TT B ν d) f.subs (a+1)from A);exact zu hr ν d y q (mS a4 y hy)
  |some z=>have⟨k,r,e⟩:=z;have⟨kD,gI,_⟩:=ru B 0 hm;have Z1:=hr r kD;exact d6u (fun v Q=>zu hr ν d _ _ (mW Z1 h gI v Q).1) _ r.B4 (ae _) (M1.ar _ Z1.to.1) []
theorem CV:∀ {l m:List Nat},l.Nodup->(∀x∈l,x∈m)->l.length<=m.length
 | [],m,_,_=>Nat.zero_le _
 |x::l,m,h,hs=>by rw[ia]at h;have A:=hs x (az ..);have U:=CV (l:=l) (m:=m.erase x) h.2 fun y hy=>(List.mem_erase_of_ne (fun e=>h.1 (by rw[<-e];exact hy))).2 (hs y (aw _ hy));rw[List.length_erase_of_mem A]at U;have X:=List.length_pos_of_mem A;rw[an];omega
structure sW(B:List C5)(De:(Nat->J->J)->O)(AM:List (Nat×Nat))(c:Nat)(C':List C6)(x:K1×Bool×Int×List C6):Prop where
 iff:x.2.1=true↔dK (De fun _ _=>[])
 ok:x.2.1=true->∃(ν:Nat->J->J) (c2:Nat),x.1=lJ (De ν)/\x.2.2.1=(c2:Int)/\c2<=c+200*AM.length/\x.2.2.2=C'++AM.map eT/\iK B AM ν c c2
noncomputable def LD(B:List C5)(d:Nat)(pf:J->O)(pl:J->Nat)(D:List J):List (Nat×Nat):=D.flatMap fun v=>HT B d (pf v) (pl v)
def Gy(s:B1)(pf:J->O)(pl:J->Nat)(pq:J->J)(B:List C5)(d:Nat)(mp:List (J×Int))(self:Nat->O->J->List C5->Int->List (J×Int)->List C6->Option (K1×Bool×Int×List C6)):Prop:=
 ∀v∈s.parts,∀(c:Nat)(C':List C6),C'.length+w9 (pf v)<=100000->c+200*w9 (pf v)<=500000->Z (fun n=>self n (pf v) (pq v) B (c:Int) mp C') (sW B (fun ν=>TT B ν d (pf v) (pl v)) (HT B d (pf v) (pl v)) c C')
theorem Gy.sh{s pf pl pq B d mp self}(h:Gy s pf pl pq B d mp self):Gy s pf pl pq B d mp (fun n=>self (n+1)):=fun v Q c C' U X=>by have⟨x,A,N,hN⟩:=h v Q c C' U X;exact⟨x,A,N,fun n hn=>hN (n+1) M⟩
structure zw(s:B1)(B:List C5)(d:Nat)(pf:J->O)(pl:J->Nat)(u0:List C6)(c0:Nat)(D:List J)(dn:List (J×K1))(C':List C6)(c:Int)(ν:Nat->J->J):Prop where
 dom:∀v,v∉D->assoc v dn=none
 val:∀v∈D,assoc v dn=some (lJ (TT B ν d (pf v) (pl v)))/\dK (TT B (fun _ _=>[]) d (pf v) (pl v))
 Wt:∀v∈D,v∈s.parts
 nd:D.Nodup
 use:C'=u0++(LD B d pf pl D).map eT
 cnt:∃k:Nat,c=(k:Int)/\k<=c0+200*(LD B d pf pl D).length/\iK B (LD B d pf pl D) ν c0 k
theorem Gz(B:List C5)(d:Nat)(pf:J->O)(pl:J->Nat)(D:List J)(v:J):LD B d pf pl (D++[v])=LD B d pf pl D++HT B d (pf v) (pl v):=by unfold LD;rw[kn];simp
section
variable {B:List C5} {s:B1} {g:O} {a:Nat} {pf:J->O} {pl:J->Nat}
theorem d6w(hr:dX B)(hpi:CT s g a pf pl)(har:∀v∈s.parts,D6 (pf v))(d:Nat)(hD:∀v∈D,v∈s.parts){v:J}(Q:v∈s.parts)(hn:v∉D):∀z∈LD B d pf pl D,z.1<pl v\/pl v+w9 (pf v)<=z.1:=fun z hz=>by have⟨w,hw,hz⟩:=ed.1 hz;have⟨k1,k2,_⟩:=gK hr d _ _ (har w (hD w hw)) z hz;have:=hpi.Gh v Q w (hD w hw) (fun e=>hn (e▸hw));omega
theorem i8O(hr:dX B)(hpi:CT s g a pf pl)(har:∀v∈s.parts,D6 (pf v))(d:Nat)(CW:D.Nodup)(hD:∀v∈D,v∈s.parts){v:J}(Q:v∈s.parts)(hn:v∉D):(LD B d pf pl D).length+w9 (pf v)<=B8 g.subs:=by
 have U:((LD B d pf pl D).map (·.1)).Nodup:=Mj (pl:=pl) (n:=fun v=>w9 (pf v)) D CW (fun w hw=>⟨wE hr d _ _ (har w (hD w hw)),fun z hz=>by have⟨k1,k2,_⟩:=gK hr d _ _ (har w (hD w hw)) z hz;exact⟨k1,k2⟩⟩) (fun w hw x A=>hpi.Gh w (hD w hw) x (hD x A))
 have X:((LD B d pf pl D).map (·.1)++fi (pl v) (w9 (pf v))).Nodup:=im.2 ⟨U,ul ..,fun x A y hy e=>by obtain⟨z,hz,rfl⟩:=bj.1 A;have k1:=d6w hr hpi har d hD Q hn z hz;have k2:=ff.1 hy;omega⟩
 have h3:=CV (m:=fi (a+1) (B8 g.subs)) X fun x A=>by
  have hg:=Y8 g;rw[ff];rcases al.1 A with A|A
  ·obtain⟨z,hz,rfl⟩:=bj.1 A;have⟨w,hw,hz⟩:=ed.1 hz;have⟨k1,k2,_⟩:=gK hr d _ _ (har w (hD w hw)) z hz;have⟨p1,p2⟩:=hpi.sub w (hD w hw);omega
  ·have k2:=ff.1 A;have⟨p1,p2⟩:=hpi.sub v Q;omega
 rw[aa,bc,mr,mr]at h3;exact h3
end
theorem i8P(hr:dX B){s:B1}(hs:S4 s){g:O}{a:Nat}{e:Env}(hpi:CT s g a (fun v=>C9 e (43::v)) pl)(har:∀v∈s.parts,D6 (C9 e (43::v)))(hlen:∀v∈s.parts,(path++(assoc v first).getD default).length+w9 (C9 e (43::v))<=path.length+w9 g)(pP:path.length+w9 g<=100000)(d:Nat)(mp:List (J×Int))(hu:u0.length+B8 g.subs<=100000)(K:c0+200*B8 g.subs<=500000)
 (self:Nat->O->J->List C5->Int->List (J×Int)->List C6->Option (K1×Bool×Int×List C6)) (lN:Gy s (fun v=>C9 e (43::v)) pl (fun v=>path++(assoc v first).getD default) B d mp self) (f:O) (hp:f.name∈s.parts) (D:List J) (dn:List (J×K1)) (c:Int) (C':List C6) (ν:Nat->J->J) (hst:zw s B d (fun v=>C9 e (43::v)) pl u0 c0 D dn C' c ν) (hno:f.name∉D) (k1:Int) (k2:J) (k3:List J) (k4:List O) (k5 k6:Int):
 Z (fun n=>B3 (K6 (Mp (self n) (BL s e) (s.words.length:Int) (s.A8.length:Int) (s.parts.length:Int) f path first B mp) (((BL s e).drop ((wr .i64 ((s.words.length:Int)+(s.A8.length:Int))).toNat)).take ((wr .i64 ((wr .i64 ((s.words.length:Int)+(s.A8.length:Int)))+(s.parts.length:Int))).toNat-(wr .i64 ((s.words.length:Int)+(s.A8.length:Int))).toNat)).length (c,k1,k2,k3,k4,k5,k6,C',false)) (Mq f dn))
  (fun r=>(r.2.1=true↔dK (TT B (fun _ _=>[]) d (C9 e (43::f.name)) (pl f.name)))/\(r.2.1=true->∃ν',zw s B d (fun v=>C9 e (43::v)) pl u0 c0 (D++[f.name]) r.2.2.2.2 r.2.2.2.1 r.2.2.1 ν'/\r.1=lJ (TT B ν' d (C9 e (43::f.name)) (pl f.name))/\∀z∈LD B d (fun v=>C9 e (43::v)) pl D,ν' z.1=ν z.1)):=by
 have⟨i,u,Wu⟩:=U0.1 hp
 have hnd:=hs.VP
 obtain⟨cN,rfl,hcN,hnu⟩:=hst.cnt
 have hroom:(LD B d (fun v=>C9 e (43::v)) pl D).length+w9 (C9 e (43::f.name))<=B8 g.subs:=i8O hr hpi har d hst.nd hst.Wt hp hno
 have Wv:C'.length=u0.length+(LD B d (fun v=>C9 e (43::v)) pl D).length:=by rw[hst.use,aa,bc]
 have hlen:=hlen _ hp
 rw[aa]at hlen
 rw[wC hs,CO hs,ai,ai,q8,d5O,bc]
 refine Z.B3 (P:=L2 (fun t:Int×Int×J×List J×List O×Int×Int×List C6×Bool=>sW B (fun ν=>TT B ν d (C9 e (43::f.name)) (pl f.name)) (HT B d (C9 e (43::f.name)) (pl f.name)) cN C' (K1.mk (O.mk t.2.1 t.2.2.1 t.2.2.2.1 t.2.2.2.2.1) t.2.2.2.2.2.1 t.2.2.2.2.2.2.1,t.2.2.2.2.2.2.2.2,t.1,t.2.2.2.2.2.2.2.1)) (fun _=>False))
  ((Z.range (fun k t=>(k<=i->t=((cN:Int),k1,k2,k3,k4,k5,k6,C',false))/\(i<k->sW B (fun ν=>TT B ν d (C9 e (43::f.name)) (pl f.name)) (HT B d (C9 e (43::f.name)) (pl f.name)) cN C' (K1.mk (O.mk t.2.1 t.2.2.1 t.2.2.2.1 t.2.2.2.2.1) t.2.2.2.2.2.1 t.2.2.2.2.2.2.1,t.2.2.2.2.2.2.2.2,t.1,t.2.2.2.2.2.2.2.1))) (fun _=>False) (fun _=>False) ⟨fun _=>rfl,fun h=>absurd h (co _)⟩ (fun k t S F=>?_)).mono fun ex he=>?_) (fun t F=>?_) nofun
 ·unfold Mp;rw[wC hs,CO hs,ai,ai,q8,d5O,get_map _ S];refine Z.cond (fun ee=>?_) (fun ee=>?_)
  ·replace ee:=bx ee;have ek:k=i:=(List.getElem_inj hnd).1 (show s.parts[k]=s.parts[i]by have U:Am.get s.parts k=Am.get s.parts i:=ee.trans Wu.symm;simpa[Am.get,S,u]using U)
   subst ek;obtain rfl:=F.1 (ae _);rw[Wu];refine Z.w6 (by unfold P8;omega) (Z.bind (lN _ hp cN C' (by show C'.length+w9 (C9 e (43::f.name))<=_;omega) (by show cN+200*w9 (C9 e (43::f.name))<=_;omega)) fun v Q=>Z.pure ⟨fun h=>by omega,fun _=>?_⟩);show sW _ _ _ _ _ (K1.mk (O.mk v.1.form.kind v.1.form.name v.1.form.words v.1.form.subs) v.1.nodes v.1.depth,v.2.1,v.2.2.1,v.2.2.2);rw[i8C];exact Q
  ·replace ee:=bx ee;have ek:k≠i:=fun ek=>ee (by subst ek;exact Wu);exact Z.pure ⟨fun h=>F.1 M,fun h=>F.2 M⟩
 ·grind
 ·have F:sW B (fun ν=>TT B ν d (C9 e (43::f.name)) (pl f.name)) (HT B d (C9 e (43::f.name)) (pl f.name)) cN C' (K1.mk (O.mk t.2.1 t.2.2.1 t.2.2.2.1 t.2.2.2.2.1) t.2.2.2.2.2.1 t.2.2.2.2.2.2.1,t.2.2.2.2.2.2.2.2,t.1,t.2.2.2.2.2.2.2.1):=F;unfold Mq;refine Z.B9 (Z.pure ⟨F.iff,fun hok=>?_⟩);have⟨ν1,c2,e1,e2,e3,e4,e5⟩:=F.ok hok;have CX:∀z∈LD B d (fun v=>C9 e (43::v)) pl D,z.1∉ (HT B d (C9 e (43::f.name)) (pl f.name)).map (·.1):=fun z hz bT=>by have⟨z2,bT,ez⟩:=bj.1 bT;have k1:z.1<pl f.name\/pl f.name+w9 (C9 e (43::f.name))<=z.1:=d6w hr hpi har d hst.Wt hp hno z hz;have⟨k2,k3,_⟩:=gK hr d _ _ (har _ hp) z2 bT;have ez:z2.1=z.1:=ez;omega
  have hT1:TT B (mX (HT B d (C9 e (43::f.name)) (pl f.name)) ν1 ν) d (C9 e (43::f.name)) (pl f.name)=TT B ν1 d (C9 e (43::f.name)) (pl f.name):=wF B _ _ d _ _ fun z hz x _=>by rw[Gu (bj.2 ⟨z,hz,rfl⟩)]
  refine⟨mX (HT B d (C9 e (43::f.name)) (pl f.name)) ν1 ν,⟨fun w hw=>?_,fun w hw=>?_,fun w hw=>?_,?_,?_,?_⟩,?_,fun z hz=>Gv (CX z hz)⟩
  ·rw[al,not_or]at hw;have hne:w≠f.name:=fun e=>hw.2 (ao.2 e);show assoc w (I4 f.name _ dn)=none;rw[od hne];exact hst.dom w hw.1
  ·rcases al.1 hw with hw|hw
   ·have hne:w≠f.name:=fun e=>hno (e▸hw);have⟨v1,v2⟩:=hst.val w hw;refine⟨?_,v2⟩;show assoc w (I4 f.name _ dn)=_;rw[od hne,v1];congr 2;refine wF B _ _ d _ _ fun z hz x _=>?_;rw[Gv (CX z (ed.2 ⟨w,hw,hz⟩))]
   ·rw[ao]at hw;subst hw;refine⟨?_,F.iff.1 hok⟩;show assoc f.name (I4 f.name _ dn)=_;rw[oc,hT1];exact congrArg some e1
  ·rcases al.1 hw with hw|hw
   ·exact hst.Wt w hw
   ·grind
  ·refine im.2 ⟨hst.nd,by simp,fun x A y hy e=>?_⟩;rw[ao]at hy;exact hno (by rw[<-hy, <-e];exact A)
  ·show t.2.2.2.2.2.2.2.1=_;rw[Gz,cm, <-bl, <-hst.use];exact e4
  ·refine⟨c2,e2,?_,?_⟩
   ·rw[Gz,aa];show c2<=c0+200*((LD B d (fun v=>C9 e (43::v)) pl D).length+(HT B d (C9 e (43::f.name)) (pl f.name)).length);omega
   ·rw[Gz];exact hnu.app e5 CX
  ·grind
theorem i8S(s:B1)(e:Env)(x:J):pL ((BL s e).take s.words.length) x=if x∈s.words then E0 e (46::x)else x:=by
 have h:BL s e=s.words.map (fun v=>(⟨v,E0 e (46::v),C9 e (46::v)⟩:C4))++(s.A8.map (fun v=>⟨v,E0 e (33::v),C9 e (33::v)⟩)++(s.parts.map (fun v=>⟨v,E0 e (43::v),C9 e (43::v)⟩)++(qs s.form).map fun v=>⟨v,E0 e (63::v),C9 e (63::v)⟩)):=by unfold BL E4;simp[ja,pg]
 rw[h,rq B5];exact LM (fun w=>E0 e (46::w)) (fun w=>C9 e (46::w)) x s.words
theorem i8T(s:B1)(e:Env)(x:J):pL (((BL s e).drop s.words.length).take s.A8.length) x=if x∈s.A8 then E0 e (33::x)else x:=by
 have h:BL s e=s.words.map (fun v=>(⟨v,E0 e (46::v),C9 e (46::v)⟩:C4))++(s.A8.map (fun v=>⟨v,E0 e (33::v),C9 e (33::v)⟩)++(s.parts.map (fun v=>⟨v,E0 e (43::v),C9 e (43::v)⟩)++(qs s.form).map fun v=>⟨v,E0 e (63::v),C9 e (63::v)⟩)):=by unfold BL E4;simp[ja,pg]
 rw[h,u9 B5,rq B5];exact LM (fun w=>E0 e (33::w)) (fun w=>C9 e (33::w)) x s.A8
theorem Mr{x:J}{l:List J}:x∈l.foldl bW D↔x∈D\/x∈l:=by
 rw[Wq,al,ml,Ma];constructor
 ·grind
 ·grind
theorem d6x{s:B1}{f:O}{v:J}:v∈jo s f↔ ∃g∈D2 f,F6 s g/\g.name=v:=by
 unfold jo;constructor
 ·grind
 ·grind
theorem i8U{s:B1}{l:List O}{f:O}(hf:f∈l){v:J}(h:v∈jo s f):v∈iL s l:=by
 obtain⟨g,hg,hp,rfl⟩:=d6x.1 h;have:g∈M4 l:=by
  induction l with
  |nil=>cases hf
  |cons x l ih=>
   rw[M4];rcases ce.1 hf with rfl|hf
   ·grind
   ·grind
 unfold iL;exact bj.2 ⟨g,ml.2 ⟨this,decide_eq_true hp⟩,rfl⟩
theorem i8V{pf:J->O}{D':List J}(h:∀v∈D,v∈D'):∀z∈LD B d pf pl D,z∈LD B d pf pl D':=fun z hz=>by have⟨v,Q,hz⟩:=ed.1 hz;exact ed.2 ⟨v,h v Q,hz⟩
noncomputable def PT(B:List C5)(d:Nat)(e:Env)(pl:J->Nat)(ν:Nat->J->J):J->O:=fun v=>TT B ν d (C9 e (43::v)) (pl v)
structure P2X(B:List C5)(R:C5)(d:Nat)(e:Env)(pl:J->Nat)(u0:List C6)(c0:Nat)(vr:J->J)(W:List J)(f:O)(D:List J)(ν:Nat->J->J)(r:K1×Bool×Int×List C6×List (J×K1)):Prop where
 iff:r.2.1=true↔dK (inst' R e (PT B d e pl fun _ _=>[]) vr W f)
 ok:r.2.1=true->∃ν',zw R.from_ B d (fun v=>C9 e (43::v)) pl u0 c0 ((jo R.from_ f).foldl bW D) r.2.2.2.2 r.2.2.2.1 r.2.2.1 ν'/\r.1=lJ (inst' R e (PT B d e pl ν') vr W f)/\∀z∈LD B d (fun v=>C9 e (43::v)) pl D,ν' z.1=ν z.1
theorem i8W{B:List C5}{R:C5}{d:Nat}{e:Env}{pl:J->Nat}(ν ν':Nat->J->J)(vr:J->J)(W:List J)(f:O):w9 (inst' R e (PT B d e pl ν) vr W f)=w9 (inst' R e (PT B d e pl ν') vr W f)/\R0 (inst' R e (PT B d e pl ν) vr W f)=R0 (inst' R e (PT B d e pl ν') vr W f):=
 Me (fun _ _=>wD B ν ν' d _ _) W f
theorem i8X{B:List C5}{R:C5}{d:Nat}{e:Env}{pl:J->Nat}(ν ν':Nat->J->J)(vr:J->J)(W:List J)(l:List O):B8 (l.map (inst' R e (PT B d e pl ν) vr W))=B8 (l.map (inst' R e (PT B d e pl ν') vr W))/\N4 (l.map (inst' R e (PT B d e pl ν) vr W))=N4 (l.map (inst' R e (PT B d e pl ν') vr W)):=by rw[<-Mn, <-Mn];exact Wh (fun v _=>wD B ν ν' d _ _) W l
theorem d6z(s:B1):iL s []=[]:=by unfold iL;rw[M4];rfl
theorem Ww{x:J}:∀ {l:List O} {y:O},y∈l->x∈qs y->x∈J6 l
 |z::l,y,hy,A=>by
  rw[J6];rcases ce.1 hy with rfl|hy
  ·grind
  ·exact bz _ (Ww hy A)
theorem i8Y{B:List C5}(hr:dX B){R:C5}(hs:S4 R.from_){g:O}{a:Nat}{path:J}{e:Env}{first:List (J×J)}{pl:J->Nat}(hpi:CT R.from_ g a (fun v=>C9 e (43::v)) pl)(har:∀v∈R.from_.parts,D6 (C9 e (43::v)))(hlen:∀v∈R.from_.parts,(path++(assoc v first).getD default).length+w9 (C9 e (43::v))<=path.length+w9 g)(pP:path.length+w9 g<=100000)(d:Nat)(mp:List (J×Int)){u0:List C6}{c0:Nat}(hu:u0.length+B8 g.subs<=100000)(K:c0+200*B8 g.subs<=500000)
 (vr:J->J) (vars:List (J×J)) (BE:List J) (Q:∀w∈BE,(assoc w vars).getD default=vr w) (tk:Int) (tn:J) (tw:List J) (ts:List O):∀(m:Nat)(f:O),am f<=m->D6 f->w9 f<=1000->(∀x∈qs f,x∈BE)->
 ∀(self:Nat->O->J->List C5->Int->List (J×Int)->List C6->Option (K1×Bool×Int×List C6)) (W bI D:List J) (dn:List (J×K1)) (c:Int) (C':List C6) (ν:Nat->J->J),Gy R.from_ (fun v=>C9 e (43::v)) pl (fun v=>path++(assoc v first).getD default) B d mp self->W.length+w9 f<=100000->(∀x,x∈W↔x∈bI)->(∀x∈W,x∈BE)->zw R.from_ B d (fun v=>C9 e (43::v)) pl u0 c0 D dn C' c ν->
 Z (fun n=>wI (self n) n f W R.from_.form.kind R.from_.form.name R.from_.form.words R.from_.form.subs R.from_.words R.from_.A8 R.from_.parts tk tn tw ts dn (BL R.from_ e) (R.from_.words.length:Int) (R.from_.A8.length:Int) (R.from_.parts.length:Int) B c mp C' path first vars)
  (P2X B R d e pl u0 c0 vr bI f D ν):=by
 intro m
 induction m with
 |zero=>exact z0
 |succ m ih=>
  intro f hf GA d5M sV self W bI D dn c C' ν lN hbd Wx hbQ hst;have N6:=D6.sm f GA;have dU:=wq N6;have hsl:=sP N6;have hnd:=Y8 f;have mQ:=LZ R.from_ e;have aX:=hs.ly;have wB:=dH f;refine Z.succ ?_;simp only[wI];show Z (fun n=>(lF R.from_ f).bind _) _;rw[yW];simp only[ax];refine Z.cond (fun hp=>?_) (fun hp=>?_)
  ·have hp:F6 R.from_ f:=of_decide_eq_true hp;have u:∀ν,inst' R e (PT B d e pl ν) vr bI f=TT B ν d (C9 e (43::f.name)) (pl f.name):=fun ν=>by rw[Wr,if_pos hp];rfl
   have sX:jo R.from_ f=[f.name]:=by rw[d6s _ GA,if_pos hp]
   by_cases hD:f.name∈D
   ·have⟨v1,v2⟩:=hst.val _ hD;have hadd:(jo R.from_ f).foldl bW D=D:=by rw[sX];show bW D f.name=D;unfold bW;rw[if_pos hD]
    rw[v1];refine Z.cond (fun _=>Z.pure ⟨?_,fun _=>⟨ν,by rw[hadd];exact hst,by rw[u];rfl,fun _ _=>rfl⟩⟩) (fun e=>by cases e);rw[u];exact⟨fun _=>v2,fun _=>rfl⟩
   ·have hd:=hst.dom _ hD;rw[hd];refine Z.cond (fun e=>by cases e) (fun _=>Z.w6 ?_ ((i8P hr hs hpi har hlen pP d mp hu K (fun n=>self (n+1)) lN.sh f hp.2 D dn c C' ν hst hD _ _ _ _ _ _).mono fun r hr=>⟨?_,fun hok=>?_⟩))
    ·rw[wC hs,CO hs,mQ,ai,ai];omega
    ·rw[u];exact hr.1
    ·have⟨ν',U,X,h3⟩:=hr.2 hok;have hadd:(jo R.from_ f).foldl bW D=D++[f.name]:=by rw[sX];show bW D f.name=_;unfold bW;rw[if_neg hD]
     exact⟨ν',by rw[hadd];exact U,by rw[u];exact X,h3⟩
  ·have hp:=of_decide_eq_false hp;obtain⟨BB,hW⟩:∃BB:J->J,BB=fun x=>if x∈bI then vr x else if x∈R.from_.words then E0 e (46::x)else x:=⟨_,rfl⟩;refine Z.B3 (P:=L2 (fun t:List J=>t=f.words.map BB) (fun _=>False)) ((Z.range (fun k t=>t=(f.words.take k).map BB) (fun _=>False) (fun _=>False) B5 (fun k t S F=>?_)).mono fun ex he=>?_) (fun t F=>?_) nofun
   ·have eR:(f.words.take (k+1)).map BB=t++[BB (Am.get f.words k)]:=by rw[H8 S,cm,F];rfl
    have nZ:t.length<=3:=by grind
    unfold Wy;rw[jl];simp only[ax];refine Z.cond (fun ee=>Z.B9 (Z.w6 ?_ (Z.pure ?_))) (fun ee=>Z.w6 ⟨by omega,by rw[mQ,ai];omega⟩ (Z.bind (VL _ _) fun v hv1=>Z.B9 (Z.w6 ?_ (Z.pure ?_))))
    ·exact lT
    ·have H:=of_decide_eq_true ee;show t++[_]=_;rw[eR,Q _ (hbQ _ H),hW];simp only[if_pos ((Wx _).1 H)]
    ·exact lT
    ·have H:=of_decide_eq_false ee;show t++[v]=_;rw[eR,hv1,ai,i8S,hW];simp only[if_neg fun h=>H ((Wx _).2 h)]
   ·grind
   have F:t=f.words.map BB:=F;have key:∀(nm:J)(I8 iM:List J),nm=(if QK f.kind then vr f.name else if f.kind=2/\f.name∈R.from_.A8 then E0 e (33::f.name)else f.name)->iM=(if QK f.kind then f.name::bI else bI)->(∀x,x∈I8↔x∈iM)->(∀x∈I8,x∈BE)->I8.length<=W.length+1->
    Z (fun n=>zx (wI (self (n+1)) n) f R.from_.form.kind R.from_.form.name R.from_.form.words R.from_.form.subs R.from_.words R.from_.A8 R.from_.parts tk tn tw ts (BL R.from_ e) (R.from_.words.length:Int) (R.from_.A8.length:Int) (R.from_.parts.length:Int) B mp path first vars c C' dn t (nm,I8))
     (P2X B R d e pl u0 c0 vr bI f D ν):=by
    intro nm I8 iM hnm i8Z Av i9a r0w
    have u:∀ν,inst' R e (PT B d e pl ν) vr bI f= .mk f.kind nm t (f.subs.map (inst' R e (PT B d e pl ν) vr iM)):=fun ν=>by rw[Wr,if_neg hp,hnm,i8Z,F,hW]
    have sX:jo R.from_ f=iL R.from_ f.subs:=by rw[d6s _ GA,if_neg hp]
    have hqL:∀x∈J6 f.subs,x∈BE:=fun x A=>sV x (by rw[wB];exact bz _ A)
    have dW:∀k,k<f.subs.length->∀x∈qs (Am.get f.subs k),x∈BE:=fun k S x A=>by exact hqL x (Ww (get_mem S) A)
    unfold zx
    refine Z.B3 (P:=L2 (fun t5:Int×List C6×List (J×K1)×List K1×List O=>∃ν',zw R.from_ B d (fun v=>C9 e (43::v)) pl u0 c0 ((iL R.from_ f.subs).foldl bW D) t5.2.2.1 t5.2.1 t5.1 ν'/\pO f.subs.length t5.2.2.2.1 t5.2.2.2.2/\t5.2.2.2.2=f.subs.map (inst' R e (PT B d e pl ν') vr iM)/\(∀z∈LD B d (fun v=>C9 e (43::v)) pl D,ν' z.1=ν z.1)) (fun r=>r.2.1=false/\¬dK (inst' R e (PT B d e pl fun _ _=>[]) vr bI f)))
     ((Z.range (fun k (t5:Int×List C6×List (J×K1)×List K1×List O)=>∃ν',zw R.from_ B d (fun v=>C9 e (43::v)) pl u0 c0 ((iL R.from_ (f.subs.take k)).foldl bW D) t5.2.2.1 t5.2.1 t5.1 ν'/\pO k t5.2.2.2.1 t5.2.2.2.2/\t5.2.2.2.2=(f.subs.take k).map (inst' R e (PT B d e pl ν') vr iM)/\(∀z∈LD B d (fun v=>C9 e (43::v)) pl D,ν' z.1=ν z.1)) (fun _=>False) (fun r=>r.2.1=false/\¬dK (inst' R e (PT B d e pl fun _ _=>[]) vr bI f)) ⟨ν,(show zw R.from_ B d (fun v=>C9 e (43::v)) pl u0 c0 ((iL R.from_ (f.subs.take 0)).foldl bW D) dn C' c ν from by rw[fe,d6z];exact hst),pO.nil,rfl,fun _ _=>rfl⟩ (fun k t5 S Wz=>?_)).mono fun ex he=>?_) (fun t5 Wz=>?_) (fun r hr=>⟨by rw[hr.1];exact⟨fun h=>(by cases h),fun h=>absurd h hr.2⟩,fun h=>by rw[hr.1]at h;cases h⟩)
    ·have⟨c',u',dn',zs,fs⟩:=t5;have⟨ν',U,X,h3,h4⟩:=Wz;have h3:fs=(f.subs.take k).map (inst' R e (PT B d e pl ν') vr iM):=h3;have hsz:=W3 S;have fD:=eO S;have Fl:zs.length=k:=(congrArg ph X.eq).trans ((bc _).trans X.len);have hl5:fs.length=k:=X.len;have i9c:(iL R.from_ (f.subs.take (k+1))).foldl bW D=(jo R.from_ (Am.get f.subs k)).foldl bW ((iL R.from_ (f.subs.take k)).foldl bW D):=by rw[H8 S,i8N,List.foldl_append]
     unfold WA;refine Z.bind (ih _ M (hY GA S) M (dW k S) (fun n=>self (n+1)) I8 iM _ dn' c' u' ν' lN.sh M Av i9a U) fun v Q=>?_;refine Z.cond (fun hf=>Z.pure ⟨rfl,fun hs=>?_⟩) (fun hok=>?_)
     ·have hf:v.2.1=false:=by simpa using hf
      have hn:¬dK (inst' R e (PT B d e pl fun _ _=>[]) vr iM (Am.get f.subs k)):=fun h=>by rw[Q.iff.2 h]at hf;cases hf
      rw[u]at hs;have⟨l1,l2⟩:=Ml (bj.2 ⟨_,get_mem S,rfl⟩:inst' R e (PT B d e pl fun _ _=>[]) vr iM (Am.get f.subs k)∈f.subs.map (inst' R e (PT B d e pl fun _ _=>[]) vr iM));unfold dK at hs;rw[w9,R0]at hs;exact hn ⟨by omega,by omega⟩
     ·have hok:v.2.1=true:=by simpa using hok
      have⟨CY,q1,q2,q3⟩:=Q.ok hok;have og:=Q.iff.1 hok;have⟨z1,z2⟩:=i8W (B:=B) (R:=R) (d:=d) (e:=e) (pl:=pl) CY (fun _ _=>[]) vr iM (Am.get f.subs k);have WB:LY v.1:=by rw[q2];exact⟨rfl,d6u (fun v Q=>zu hr CY d _ _ (har v Q)) _ _ (ae _) (hY GA S) iM,(by show w9 (inst' R e (PT B d e pl CY) vr iM (Am.get f.subs k))<=200;rw[z1];exact og.1),(by show R0 (inst' R e (PT B d e pl CY) vr iM (Am.get f.subs k))<=40;rw[z2];exact og.2)⟩
      refine Z.B9 (Z.w6 ?_ (Z.B9 (Z.w6 ?_ (Z.pure ⟨CY,?_,X.snoc WB,?_,fun z hz=>?_⟩))))
      ·exact lT
      ·exact lT
      ·rw[i9c];exact q1
      ·show fs++[v.1.form]=_;have e1:fs=(f.subs.take k).map (inst' R e (PT B d e pl CY) vr iM):=by rw[h3];refine e8 fun y hy=>CQ _ _ (fun w hw hg=>?_) (fun _ _=>rfl);refine wF B _ _ d _ _ fun z hz x _=>?_;rw[q3 z (ed.2 ⟨w,Mr.2 (.inr (i8U hy (d6x.2 hg))),hz⟩)]
       rw[H8 S,cm, <-e1,q2];rfl
      ·rw[q3 z (i8V (fun w hw=>Mr.2 (.inl hw)) z hz)];exact h4 z hz
    ·grind
    ·have⟨c',u',dn',zs,fs⟩:=t5;have⟨ν',U,X,h3,h4⟩:=Wz;have h3:fs=f.subs.map (inst' R e (PT B d e pl ν') vr iM):=h3;have e4:zs=fs.map lJ:=X.eq;have hn5:B8 fs<=200*f.subs.length:=X.nd;have hd5:N4 fs<=40:=X.dp;unfold WC;simp only[e4];refine Z.bind (d4R M M) fun v Q=>?_;subst Q;have⟨s1,s2⟩:=i8X (B:=B) (R:=R) (d:=d) (e:=e) (pl:=pl) ν' (fun _ _=>[]) vr iM f.subs;rw[<-h3]at s1 s2;refine Z.pure ⟨?_,fun hok=>⟨ν',by rw[sX];exact U,?_,h4⟩⟩
     ·show decide (1+B8 fs<=200/\N4 fs<40)=true↔_;rw[decide_eq_true_iff,u];unfold dK;rw[w9,R0, <-s1, <-s2];omega
     ·show K1.mk (O.mk f.kind nm t fs) _ _=_;rw[u, <-h3];unfold lJ;rw[w9,R0,n5 1 (N4 fs)]
   unfold WD;simp only[nU,ax];refine Z.cond (fun hq=>?_) (fun hq=>Z.cond (fun S=>?_) (fun S=>?_))
   ·replace hq:=bx hq;simp only[sY,List.isEmpty_nil,cond_true,ax];have hfQ:f.name∈BE:=sV _ (by rw[wB,if_pos hq];simp);refine Z.B9 (Z.w6 ?_ (key _ _ (f.name::bI) (by rw[if_pos hq,Q _ hfQ]) (by rw[if_pos hq]) (fun x=>?_) (fun x A=>?_) B5))
    ·exact lT
    ·grind
    ·grind
   ·replace hq:=bx hq;replace S:=bx S;rw[wC hs];refine Z.w6 ⟨by omega,by omega,by omega,by rw[mQ,ai];omega⟩ (Z.bind (VL _ _) fun v rN=>?_);refine key _ _ bI ?_ (by rw[if_neg hq]) Wx hbQ M;rw[rN,ai,ai,q8,i8T,if_neg hq];by_cases hpp:f.name∈R.from_.A8
    ·grind
    ·grind
   ·grind
mutual
theorem d6C(s:B1):∀(f g:O)(W:List J)(ps:List C4),D6 f->D6 g->R3 s f W g=some ps->∀v∈qs f,∃y∈qs g,(⟨63::v,y,zf⟩:C4)∈ps
 | .mk k n w l,g,W,ps,ha,hg,h,v,Q=>by
   have hq:qs (.mk k n w l)=(if QK k then [n]else [])++J6 l:=dH (.mk k n w l)
   have hqg:=dH g;rw[R3]at h;by_cases hp:F6 s (.mk k n w l)
   ·have S:k=2:=hp.1.1;have hl:l=[]:=dt.1 (by have U:=((Q6 _).1 ha).1;have U:((l.length:Nat):Int)=R2 k:=U;rw[S]at U;have e2:R2 2=0:=rfl;omega);rw[hq,if_neg (q2 S),hl,J6]at Q;cases Q
   ·rw[if_neg hp]at h;by_cases S:k≠g.kind\/w.length≠g.words.length
    ·rw[if_pos S]at h;cases h
    ·rw[if_neg S]at h;rw[not_or,dl,dl]at S;obtain⟨x,y,U,X,rfl⟩:=aB h;obtain⟨x2,y2,_,h4,rfl⟩:=aB X;rw[hq]at Q;rcases al.1 Q with Q|Q
     ·by_cases Ms:QK k
      ·rw[if_pos Ms,ao]at Q;subst Q;have wJ:QK g.kind:=by rw[<-S.1];exact Ms
       unfold aA at U;rw[if_pos (show QK (O.mk k v w l).kind from Ms)]at U;cases U;exact⟨g.name,by rw[hqg,if_pos wJ];simp,de _ (ao.2 rfl)⟩
      ·grind
     ·rw[D6]at ha;have⟨I,_,_,a4⟩:=(Q6 g).1 hg;rcases d6E s l g.subs _ y2 ha.2.2.2 a4 h4 v Q with⟨z,hz,bT⟩|hl
      case inr=>exfalso;have h0:=ha.1;rw[S.1]at h0;omega
      exact⟨z,by rw[hqg];exact bz _ hz,bz _ (bz _ bT)⟩
theorem d6E(s:B1):∀(l gs:List O)(W:List J)(ps:List C4),R9 l->R9 gs->N7 s l W gs=some ps->∀v∈J6 l,(∃y∈J6 gs,(⟨63::v,y,zf⟩:C4)∈ps)\/gs.length<l.length
 | [],gs,W,ps,_,_,_,v,Q=>by rw[J6]at Q;cases Q
 |f::l,[],W,ps,_,_,_,v,_=>.inr B5
 |f::l,g::gs,W,ps,ha,hg,h,v,Q=>by
  rw[R9]at ha hg;rw[N7]at h;rw[J6]at Q;rw[J6];obtain⟨x,y,U,X,rfl⟩:=aB h;rcases al.1 Q with Q|Q
  ·have⟨z,hz,bT⟩:=d6C s f g W x ha.1 hg.1 U v Q;exact .inl ⟨z,de _ hz,de _ bT⟩
  ·rcases d6E s l gs W y ha.2 hg.2 X v Q with⟨z,hz,bT⟩|h
   ·grind
   ·exact .inr (by simpa using h)
end
theorem i9e{s:B1}(hs:S4 s){g:O}(hg:D6 g){e:Env}(h:mE s g=some e){v:J}(Q:v∈qs s.form):E0 e (63::v)∈qs g:=by have⟨ps,hp,he⟩:=pN h;have⟨y,hy,hm⟩:=d6C s s.form g [] ps (M1.ar _ hs.form.1) hg hp v Q;have H:=(jG _ _ _ he).1 _ hm;unfold E0;rw[show assoc (63::v) e=some ⟨63::v,y,zf⟩from H];exact hy
def zy(f:O):Prop:=∀x∈qs f,¬M0 x
theorem i9f(s:B1)(e:Env)(x:J):pL ((BL s e).drop (s.words.length+s.A8.length+s.parts.length)) x=if x∈qs s.form then E0 e (63::x)else x:=by
 have h:BL s e=(s.words.map (fun v=>(⟨v,E0 e (46::v),C9 e (46::v)⟩:C4))++s.A8.map (fun v=>⟨v,E0 e (33::v),C9 e (33::v)⟩)++s.parts.map (fun v=>⟨v,E0 e (43::v),C9 e (43::v)⟩))++(qs s.form).map fun v=>⟨v,E0 e (63::v),C9 e (63::v)⟩:=by unfold BL E4;simp[ja,pg]
 rw[h,u9 (by simp;omega)];exact LM (fun w=>E0 e (63::w)) (fun w=>C9 e (63::w)) x (qs s.form)
theorem i9g(hs:S4 R.from_)(hto:Y0 R.B4)(hun:∀k,k<(qs R.B4).length->Am.get (qs R.B4) k∉ (qs R.B4).take k){e:Env}(hne:∀v∈qs R.from_.form,E0 e (63::v)≠v)(mp:List (J×Int))(u0:List C6)(c0:Nat)(K:c0<=600000):
 Z (fun _:Nat=>K6 (Mt R (BL R.from_ e) (qs R.B4) B mp u0) (qs R.B4).length ((c0:Int),[])) (L2 (fun t:Int×List (J×J)=>∃(cn:Nat) (na:J->J),t.1=(cn:Int)/\c0<=cn/\cn<=c0+(qs R.B4).length/\(∀x∈qs R.B4,assoc x t.2=some (if x∈qs R.from_.form then E0 e (63::x)else na x))/\(∀x∈qs R.B4,x∉qs R.from_.form->∃i,c0<=i/\i<cn/\na x=qn i)/\(∀x∈qs R.B4,x∉qs R.from_.form->∀y∈qs R.B4,y∉qs R.from_.form->na x=na y->x=y)) (fun _=>False)):=by
 have hnt:=hto.2.1
 have hqn:=jj R.B4
 have lD:=ji R.B4
 have mQ:=LZ R.from_ e
 have aX:=hs.ly
 refine(Z.range (fun k (t:Int×List (J×J))=>∃(cn:Nat) (na:J->J),t.1=(cn:Int)/\c0<=cn/\cn<=c0+k/\(∀x∈(qs R.B4).take k,assoc x t.2=some (if x∈qs R.from_.form then E0 e (63::x)else na x))/\(∀x∈(qs R.B4).take k,x∉qs R.from_.form->∃i,c0<=i/\i<cn/\na x=qn i)/\(∀x∈(qs R.B4).take k,x∉qs R.from_.form->∀y∈(qs R.B4).take k,y∉qs R.from_.form->na x=na y->x=y)) (fun _=>False) (fun _=>False) ⟨c0,id,rfl,ae _,ae _,(fun x A=>by rw[fe]at A;cases A),(fun x A=>by rw[fe]at A;cases A),(fun x A=>by rw[fe]at A;cases A)⟩ (fun k t S F=>?_)).mono fun ex he=>?_
 ·have⟨t1,t2⟩:=t;have⟨cn,na,U,X,h3,h4,h5,h6⟩:=F;have U:t1=(cn:Int):=U;subst U;have Gc:=hun k S;have fD:=H8 (l:=qs R.B4) S;unfold Mt;rw[wC hs,CO hs];refine Z.w6 ⟨by omega,by rw[mQ,ai];omega⟩ (Z.bind (VL _ _) fun v Q=>?_);rw[ai,i9f]at Q;obtain⟨x0,hx0⟩:∃x0,x0=Am.get (qs R.B4) k:=⟨_,rfl⟩;rw[<-hx0]at Q Gc fD⊢;refine Z.B9 ?_;by_cases hq:x0∈qs R.from_.form
  ·rw[if_pos hq]at Q;subst Q;refine Z.cond (fun ee=>?_) (fun _=>Z.pure ⟨cn,na,rfl,X,by omega,fun x A=>?_,fun x A Mv=>?_,fun x A Mv y hy hyq=>?_⟩)
   ·exfalso;rw[oc]at ee;exact hne _ hq (of_decide_eq_true ee)
   ·rw[fD]at A;show assoc x (I4 x0 _ t2)=_;by_cases ex:x=x0
    ·rw[ex,oc,if_pos hq]
    ·rw[od ex];exact h4 x ((al.1 A).resolve_right fun h=>ex (ao.1 h))
   ·grind
   ·grind
  ·rw[if_neg hq]at Q;subst Q;refine Z.cond (fun _=>?_) (fun ee=>?_)
   ·simp only[Va (c:=cn) M,ax];have Ja:∀x∈(qs R.B4).take k,x≠v:=fun x A e=>Gc (e▸A);refine Z.B9 (Z.pure ⟨cn+1,fun x=>if x=v then qn cn else na x,rfl,by omega,by omega,fun x A=>?_,fun x A Mv=>?_,fun x A Mv y hy hyq ee=>?_⟩)
    ·rw[fD]at A;show assoc x (I4 v _ (I4 v _ t2))=_;by_cases ex:x=v
     ·rw[ex,oc,if_neg hq];show some (qn cn)=some (if v=v then qn cn else na v)
      rw[if_pos rfl]
     ·rw[od ex,od ex];show assoc x t2=some (if x∈qs R.from_.form then E0 e (63::x)else if x=v then qn cn else na x)
      rw[if_neg ex];exact h4 x ((al.1 A).resolve_right fun h=>ex (ao.1 h))
    ·rw[fD]at A;show ∃i,c0<=i/\i<cn+1/\(if x=v then qn cn else na x)=qn i
     by_cases ex:x=v
     ·exact⟨cn,X,Nat.lt_succ_self _,if_pos ex⟩
     ·grind
    ·rw[fD]at A hy;have ee:(if x=v then qn cn else na x)=(if y=v then qn cn else na y):=ee
     by_cases ex:x=v
     ·by_cases ey:y=v
      ·rw[ex,ey]
      ·exfalso;rw[if_pos ex,if_neg ey]at ee;have⟨i,i1,i2,i3⟩:=h5 y ((al.1 hy).resolve_right fun h=>ey (ao.1 h)) hyq;rw[i3]at ee;have:=wv _ _ ee;omega
     ·by_cases ey:y=v
      ·exfalso;rw[if_neg ex,if_pos ey]at ee;have⟨i,i1,i2,i3⟩:=h5 x ((al.1 A).resolve_right fun h=>ex (ao.1 h)) Mv;rw[i3]at ee;have:=wv _ _ ee;omega
      ·grind
   ·exfalso;rw[oc]at ee;exact of_decide_eq_false ee rfl
 ·cases ex with
  |ret r=>exact he
  |B7 t=>have h:=he.elim id gh;rw[cj]at h;exact h
theorem Mw:qs zf=[]:=by show qs (O.mk 0 [] [] [])=[];rw[dH,if_neg D5];show []++J6 []=[];rw[J6];rfl
theorem GC{BB W:List J}:∀ {ws ys:List J} {ps:List C4},J8 BB W ws ys=some ps->∀b∈ps,b.form=zf
 | [],ys,ps,h,b,H=>by cases ys<;>(rw[J8]at h;cases h;cases H)<;>simp
 |x::ws,[],ps,h,b,H=>by rw[J8]at h;cases h;cases H;simp
 |x::ws,y::ys,ps,h,b,H=>by
  rw[J8]at h;by_cases U:x∈W
  ·rw[if_pos U]at h;cases hp:J8 BB W ws ys with
   |none=>rw[hp]at h;cases h
   |some l=>
    rw[hp]at h;cases h;rcases ce.1 H with rfl|H
    ·rfl
    ·exact GC hp b H
  ·rw[if_neg U]at h;by_cases X:x∈BB
   ·rw[if_pos X]at h;cases hp:J8 BB W ws ys with
    |none=>rw[hp]at h;cases h
    |some l=>
     rw[hp]at h;cases h;rcases ce.1 H with rfl|H
     ·rfl
     ·exact GC hp b H
   ·rw[if_neg X]at h;by_cases h3:x=y
    ·rw[if_pos h3]at h;exact GC h b H
    ·rw[if_neg h3]at h;cases h
mutual
theorem d6G(s:B1):∀(f g:O)(W:List J)(ps:List C4),R3 s f W g=some ps->∀b∈ps,∀x∈qs b.form,x∈qs g
 | .mk k n w l,g,W,ps,h,b,H,x,A=>by
   rw[R3]at h;by_cases hp:F6 s (.mk k n w l)
   ·grind
   ·rw[if_neg hp]at h;by_cases S:k≠g.kind\/w.length≠g.words.length
    ·rw[if_pos S]at h;cases h
    ·rw[if_neg S]at h;obtain⟨a,y,U,X,rfl⟩:=aB h;obtain⟨x2,y2,h3,h4,rfl⟩:=aB X;rcases al.1 H with H|H
     ·have:b.form=zf:=by
       unfold aA at U;split at U
       ·grind
       ·grind
      rw[this,Mw]at A
      cases A
     ·rcases al.1 H with H|H
      ·rw[GC h3 b H,Mw]at A;cases A
      ·rw[dH g];exact bz _ (d6H s l g.subs _ y2 h4 b H x A)
theorem d6H(s:B1):∀(l gs:List O)(W:List J)(ps:List C4),N7 s l W gs=some ps->∀b∈ps,∀x∈qs b.form,x∈J6 gs
 | [],gs,W,ps,h,b,H,x,A=>by rw[N7]at h;cases h;cases H
 |f::l,[],W,ps,h,b,H,x,A=>by rw[N7]at h;cases h;cases H
 |f::l,g::gs,W,ps,h,b,H,x,A=>by
  rw[N7]at h;rw[J6];obtain⟨a,y,U,X,rfl⟩:=aB h;rcases al.1 H with H|H
  ·exact de _ (d6G s f g W a U b H x A)
  ·exact bz _ (d6H s l gs W y X b H x A)
end
theorem i9i{s:B1}(hs:S4 s){g:O}(hg:D6 g)(hq:zy g){e:Env}(h:mE s g=some e){v:J}(Q:v∈s.parts):zy (C9 e (43::v)):=fun x A=>by
 have⟨ps,hp,he⟩:=pN h;have⟨b,H⟩:=(Md hs hg h).all (43::v) (by unfold E4;simp[Q]);have hfm:C9 e (43::v)=b.form:=by unfold C9;rw[H];rfl
 rw[hfm]at A;rcases(jG _ _ _ he).2.2 _ _ H with h|⟨b',hb',_,rfl⟩
 ·cases h
 ·exact hq x (d6G s s.form g [] ps hp _ hb' x A)
structure i9j(B:List C5)(R:C5)(k:Nat)(d:Nat)(e:Env)(pl:J->Nat)(a:Nat)(u0:List C6)(c0:Nat)(x:K1×Bool×Int×List C6):Prop where
 iff:x.2.1=true↔dK (inst' R e (PT B d e pl fun _ _=>[]) (N5 (fun _ _=>[]) R e a) [] R.B4)
 ok:x.2.1=true->∃(ν:Nat->J->J) (c2:Nat),x.1=lJ (inst' R e (PT B d e pl ν) (N5 ν R e a) [] R.B4)/\x.2.2.1=(c2:Int)/\c2<=c0+200+200*(LD B d (fun v=>C9 e (43::v)) pl (cZ R)).length/\x.2.2.2=u0++(LD B d (fun v=>C9 e (43::v)) pl (cZ R)).map eT/\iK B ((a,k)::LD B d (fun v=>C9 e (43::v)) pl (cZ R)) ν c0 c2
theorem i9k{B:List C5}(hr:dX B){R:C5}{k:Nat}(S:k<B.length)(hR:Am.get B k=R)(hun:∀j,j<(qs R.B4).length->Am.get (qs R.B4) j∉ (qs R.B4).take j){g:O}(hg:D6 g)(hq:zy g){e:Env}(hm:mE R.from_ g=some e){a:Nat}{path:J}{mp:List (J×Int)}(hN:jm mp g path a)(pP:path.length+w9 g<=100000)(d:Nat){u0:List C6}{c0:Nat}(hu:u0.length+B8 g.subs<=100000)(K:c0+200+200*B8 g.subs<=500000)
 (self:Nat->O->J->List C5->Int->List (J×Int)->List C6->Option (K1×Bool×Int×List C6)) (lN:∀(z:O)(q:J)(b:Nat),am z<am g->D6 z->zy z->jm mp z q b->q.length+w9 z<=100000->∀(c:Nat)(C':List C6),C'.length+w9 z<=100000->c+200*w9 z<=500000->Z (fun n=>self n z q B (c:Int) mp C') (sW B (fun ν=>TT B ν d z b) (HT B d z b) c C')):
 Z (fun n=>GD (self n) n R (BL R.from_ e) path B (c0:Int) mp u0) (i9j B R k d e (W5 R g a) a u0 c0):=by
 have Z1:LN R:=hr R (by rw[<-hR];exact get_mem S)
 have hs:=Z1.good
 have hto:=Z1.to
 have hnt:=hto.2.1
 have hqn:=jj R.B4
 have lD:=ji R.B4
 have hne:∀v∈qs R.from_.form,E0 e (63::v)≠v:=fun v Q ee=>by have U:=hq _ (i9e hs hg hm Q);rw[ee]at U;exact U (d4F hs.form.1 v Q)
 have hpi:=Mh hs Z1.root hg hm a
 unfold GD
 refine Z.bind (Ft _ R.B4 (ae _) M) fun v Q=>?_
 subst Q
 refine Z.B3 (i9g hs hto hun hne mp u0 c0 M) (fun t F=>?_) nofun
 have⟨t1,t2⟩:=t
 have⟨cn,na,U,X,h3,h4,h5,h6⟩:=F
 have U:t1=(cn:Int):=U
 subst U
 obtain⟨νs,hνs⟩:∃νs:Nat->J->J,νs=mX [(a,k)] (fun _=>na) (fun _ _=>[]):=⟨_,rfl⟩
 have WE:νs a=na:=by rw[hνs];exact Gu B5
 have hvr:∀w∈qs R.B4,(assoc w t2).getD default=N5 νs R e a w:=fun w hw=>by rw[h4 w hw];unfold N5;rw[WE];rfl
 unfold WG
 refine Z.bind (i8k hs) fun first hfi=>?_
 have⟨ps,hps,hrun⟩:=pN hm
 have hpp:=d5B hs Z1.root hg hps hrun hfi path
 have sX:=i8M hs hg hm hN hfi
 refine Z.bind (i8Y hr hs hpi (fun v Q=>(mW Z1 hg hm v Q).1) (fun v Q=>hpp.len v Q) pP d mp (c0:=cn) hu M (N5 νs R e a) t2 (qs R.B4) hvr _ _ _ _ _ R.B4 (ae _) (M1.ar _ hto.1) M (fun x A=>A) self [] [] [] [] (cn:Int) u0 νs (fun v Q c C' b1 b2=>lN _ _ _ (mW Z1 hg hm v Q).2 (mW Z1 hg hm v Q).1 (i9i hs hg hq hm Q) (sX v Q) (Nat.le_trans (hpp.len v Q) pP) c C' b1 b2) (by simp;omega) (fun x=>Iff.rfl) (fun x A=>by cases A) ⟨fun v _=>rfl,(fun v Q=>by cases Q),(fun v Q=>by cases Q),lh,by simp[LD],cn,rfl,by simp[LD],iK.nil B νs cn⟩) fun r CJ=>Z.pure ?_
 have hsz:=Me (r:=R) (e:=e) (e':=e) (P:=PT B d e (W5 R g a) fun _ _=>[]) (P':=PT B d e (W5 R g a) fun _ _=>[]) (vr:=N5 νs R e a) (vr':=N5 (fun _ _=>[]) R e a) (fun v _=>⟨rfl,rfl⟩) [] R.B4
 refine⟨?_,fun hok=>?_⟩
 ·have h0:=CJ.iff;unfold dK at h0⊢;rw[<-hsz.1, <-hsz.2];exact h0
 ·have⟨ν',q1,q2,_⟩:=CJ.ok hok;rw[<-d6t]at q1;have⟨c2,e1,e2,e3⟩:=q1.cnt;have e2:c2<=cn+200*(LD B d (fun v=>C9 e (43::v)) (W5 R g a) (cZ R)).length:=e2;have hgt:∀z∈LD B d (fun v=>C9 e (43::v)) (W5 R g a) (cZ R),a<z.1:=fun z hz=>by have⟨v,Q,hz⟩:=ed.1 hz;have⟨p1,_⟩:=hpi.sub v (rz Q);have⟨k1,_⟩:=gK hr d _ _ (mW Z1 hg hm v (rz Q)).1 z hz;have p1:a<W5 R g a v:=p1;omega
  have hna:a∉ (LD B d (fun v=>C9 e (43::v)) (W5 R g a) (cZ R)).map (·.1):=fun h=>by grind
  have zl:iK B [(a,k)] νs c0 cn:=⟨X,fun z hz x A=>by
   rw[ao]at hz;subst hz;have⟨x1,x2⟩:=A;rw[hR]at x1 x2;rw[WE];exact h5 x x1 x2,fun z hz x A z' hz' x' hx' ee=>by
   rw[ao]at hz hz';subst hz hz';have⟨x1,x2⟩:=A;have⟨y1,y2⟩:=hx';rw[hR]at x1 x2 y1 y2;rw[WE]at ee;exact⟨rfl,h6 x x1 x2 x' y1 y2 ee⟩⟩
  refine⟨mX (LD B d (fun v=>C9 e (43::v)) (W5 R g a) (cZ R)) ν' νs,c2,?_,e1,by omega,q1.use,?_⟩
  ·show r.1=_;rw[q2];congr 1;refine CQ [] R.B4 (fun v Q hgv=>?_) (fun x _=>?_)
   ·show TT B ν' d _ _=TT B _ d _ _;refine wF B _ _ d _ _ fun z hz x _=>?_;have hmem:z∈LD B d (fun v=>C9 e (43::v)) (W5 R g a) (cZ R):=ed.2 ⟨v,Mi.2 hgv,hz⟩;rw[Gu (bj.2 ⟨z,hmem,rfl⟩)]
   ·unfold N5;rw[Gv hna]
  ·exact zl.app e3 (fun z hz=>by rw[ao]at hz;subst hz;exact hna)
theorem d6I(B:List C5)(ν ν':Nat->J->J)(d:Nat):∀(l:List O)(p:Nat),B8 (E6 (TT B ν d) l p)=B8 (E6 (TT B ν' d) l p)/\N4 (E6 (TT B ν d) l p)=N4 (E6 (TT B ν' d) l p)
 | [],p=>⟨rfl,rfl⟩
 |x::l,p=>by rw[E6,E6,B8,B8,N4,N4];have⟨U,X⟩:=wD B ν ν' d x p;have⟨h3,h4⟩:=d6I B ν ν' d l (p+w9 x);exact⟨by rw[U,h3],by rw[X,h4]⟩
theorem WH{α:Type}{B':O->Nat->α}:∀(l:List O)(p k:Nat),k<l.length->B' (Am.get l k) (p+B8 (l.take k))∈E6 B' l p
 | [],p,k,h=>by simp at h
 |x::l,p,0,h=>by rw[fe,B8,E6];exact az ..
 |x::l,p,k+1,h=>by rw[mc,B8,E6, <-da];exact aw _ (WH l _ k (by simpa using h))
theorem d6J(hr:dX B)(d:Nat)(l:List O)(p:Nat)(hl:∀x∈l,D6 x):(E6 (HT B d) l p).flatten.length<=B8 l:=by
 have U:=Wm (B':=HT B d) l p fun x A q=>⟨wE hr d x q (hl x A),fun z hz=>by have⟨k1,k2,_⟩:=gK hr d x q (hl x A) z hz;exact⟨k1,k2⟩⟩
 have X:=CV (m:=fi p (B8 l)) U fun x A=>by obtain⟨z,hz,rfl⟩:=bj.1 A;have⟨y,hy,q,I,a2,a3⟩:=Gt hz;obtain⟨k1,k2,_⟩:=gK hr d y q (hl y hy) z a3;exact ff.2 ⟨by omega,by omega⟩
 rw[bc,mr]at X;exact X
theorem d6K(B:List C5){k:Nat}(S:k<B.length)(f:O):au (B.drop k) k f=match mE (Am.get B k).from_ f with|some e=>some (k,Am.get B k,e)|none=>au (B.drop (k+1)) (k+1) f:=by
 have WI:B.drop k=Am.get B k::B.drop (k+1):=by rw[kz S];simp[Am.get,S]
 rw[WI,au]<;>(cases mE (Am.get B k).from_ f<;>rfl)
theorem i9o(hr:dX B)(hun:∀R∈B,∀j,j<(qs R.B4).length->Am.get (qs R.B4) j∉ (qs R.B4).take j)(_:B.length<=1000000):∀(d:Nat)(f:O),am f<=d->D6 f->zy f->∀(path:J) (a c:Nat) (mp:List (J×Int)) (C':List C6),jm mp f path a->path.length+w9 f<=100000->C'.length+w9 f<=100000->c+200*w9 f<=500000->
 Z (fun n=>sZ n f path B (c:Int) mp C') (sW B (fun ν=>TT B ν d f a) (HT B d f a) c C'):=by
 intro d
 induction d with
 |zero=>exact z0
 |succ d ih=>
  intro f hf har hq path a c mp C' hN hp hu K;have N6:=D6.sm f har;have hsl:=sP N6;have hnd:=Y8 f;refine Z.succ ?_;simp only[sZ];refine Z.B3 (P:=L2 (fun _=>au B 0 f=none) (sW B (fun ν=>TT B ν (d+1) f a) (HT B (d+1) f a) c C')) ((Z.scan (fun k _=>au B 0 f=au (B.drop k) k f) (fun _ x=>sW B (fun ν=>TT B ν (d+1) f a) (HT B (d+1) f a) c C' x) (by rw[List.drop_zero]) (fun k s S hs=>?_)).mono fun ex he=>?_) (fun t F=>?_) (fun r hr=>hr)
  ·have td:=hr _ (get_mem S);rw[d6K B S f]at hs;unfold WJ;refine Z.bind (i7V td.good har) fun v Q=>?_;rw[d5W]at Q;cases hm:mE (Am.get B k).from_ f with
   |none=>rw[hm]at Q hs;subst Q;exact Z.cond (fun _=>Z.pure hs) (fun e=>by cases e)
   |some e=>
    rw[hm]at Q hs;simp only at Q hs;subst Q;have ij:∀ν,TT B ν (d+1) f a=inst' (Am.get B k) e (PT B d e (W5 (Am.get B k) f a) ν) (N5 ν (Am.get B k) e a) [] (Am.get B k).B4:=fun ν=>by rw[TT,hs];rfl
    have oh:HT B (d+1) f a=(a,k)::LD B d (fun v=>C9 e (43::v)) (W5 (Am.get B k) f a) (cZ (Am.get B k)):=by rw[HT,hs];rfl
    refine Z.cond (fun e=>by cases e) (fun _=>Z.B9 (Z.w6 ?_ ?_))
    ·exact lT
    have zl:(⟨(assoc path mp).getD default,(k:Int)⟩:C6)=eT (a,k):=by rw[hN.root];rfl
    rw[zl];refine Z.bind (i9k hr S rfl (hun _ (get_mem S)) har hq hm hN hp d (u0:=C'++[eT (a,k)]) (c0:=c) ?_ M (fun n=>sZ n) (fun z q b hz hza hzq hzN lO c2 u2 U X=>ih z M hza hzq q b c2 mp u2 hzN lO U X)) fun x A=>Z.pure ⟨?_,fun hok=>?_⟩
    ·grind
    ·show x.2.1=true↔_;rw[ij];exact A.iff
    ·have⟨ν,c2,e1,e2,e3,e4,e5⟩:=A.ok hok;refine⟨ν,c2,by rw[ij];exact e1,e2,?_,?_,by rw[oh];exact e5⟩
     ·grind
     ·grind
  ·cases ex with
   |ret r=>have⟨_,_,_,_,h⟩:=he;exact h
   |B7 t=>have he:au B 0 f=au (B.drop B.length) B.length f:=he;rw[lm,au]at he;exact he
  have hm:au B 0 f=none:=F;have ij:∀ν,TT B ν (d+1) f a= .mk f.kind f.name f.words (E6 (TT B ν d) f.subs (a+1)):=fun ν=>by rw[TT,hm]
  have oh:HT B (d+1) f a=(E6 (HT B d) f.subs (a+1)).flatten:=by rw[HT,hm]
  have GF:∀x∈f.subs,D6 x:=mS ((Q6 f).1 har).2.2.2;unfold WK;refine Z.B3 (P:=L2 (fun t:Int×List C6×List K1×List O=>∃(ν:Nat->J->J) (cN:Nat),t.1=(cN:Int)/\cN<=c+200*(E6 (HT B d) f.subs (a+1)).flatten.length/\t.2.1=C'++(E6 (HT B d) f.subs (a+1)).flatten.map eT/\iK B (E6 (HT B d) f.subs (a+1)).flatten ν c cN/\pO f.subs.length t.2.2.1 t.2.2.2/\t.2.2.2=E6 (TT B ν d) f.subs (a+1)) (fun r=>r.2.1=false/\¬dK (TT B (fun _ _=>[]) (d+1) f a)))
   ((Z.range (fun k (t:Int×List C6×List K1×List O)=>∃(ν:Nat->J->J) (cN:Nat),t.1=(cN:Int)/\cN<=c+200*(E6 (HT B d) (f.subs.take k) (a+1)).flatten.length/\t.2.1=C'++(E6 (HT B d) (f.subs.take k) (a+1)).flatten.map eT/\iK B (E6 (HT B d) (f.subs.take k) (a+1)).flatten ν c cN/\pO k t.2.2.1 t.2.2.2/\t.2.2.2=E6 (TT B ν d) (f.subs.take k) (a+1)) (fun _=>False) (fun r=>r.2.1=false/\¬dK (TT B (fun _ _=>[]) (d+1) f a)) ⟨fun _ _=>[],c,rfl,by simp[E6],by simp[E6],iK.nil B _ c,pO.nil,rfl⟩ (fun k t S F=>?_)).mono fun ex he=>?_) (fun t F=>?_) (fun r hr=>⟨by rw[hr.1];exact⟨fun h=>(by cases h),fun h=>absurd h hr.2⟩,fun h=>by rw[hr.1]at h;cases h⟩)
  ·have⟨t1,t2,t3,t4⟩:=t;have⟨ν,cN,U,X,h3,h4,h5,h6⟩:=F;have U:t1=(cN:Int):=U;subst U;have h3:t2=C'++(E6 (HT B d) (f.subs.take k) (a+1)).flatten.map eT:=h3;have h6:t4=E6 (TT B ν d) (f.subs.take k) (a+1):=h6;have hhl:=d6J hr d (f.subs.take k) (a+1) fun x A=>GF x (ov A);have Wv:t2.length=C'.length+(E6 (HT B d) (f.subs.take k) (a+1)).flatten.length:=by grind
   have hsz:=W3 S;have fD:=eO S;have hd:=zd (k:=k) M;have iI:t3.length=k:=(congrArg ph h5.eq).trans ((bc _).trans h5.len);have Fl:t4.length=k:=h5.len;have dW:zy (Am.get f.subs k):=fun x A=>hq x (by rw[dH];exact bz _ (Ww (get_mem S) A));unfold WL;simp only[FL (m:=k) M,ax];refine Z.w6 (by unfold P8;omega) (Z.bind (ih _ M (hY har S) dW (path++cb k) (a+1+B8 (f.subs.take k)) cN mp t2 (hN.sub S) (by rw[aa];omega) M M) fun v Q=>?_);refine Z.cond (fun hfl=>Z.pure ⟨rfl,fun hsmall=>?_⟩) (fun hok=>?_)
   ·have hfl:v.2.1=false:=by simpa using hfl
    have hn:¬dK (TT B (fun _ _=>[]) d (Am.get f.subs k) (a+1+B8 (f.subs.take k))):=fun h=>by rw[Q.iff.2 h]at hfl;cases hfl
    rw[ij]at hsmall;have⟨l1,l2⟩:=Ml (WH (B':=TT B (fun _ _=>[]) d) f.subs (a+1) k S);unfold dK at hsmall;rw[w9,R0]at hsmall;exact hn ⟨by omega,by omega⟩
   ·have hok:v.2.1=true:=by simpa using hok
    have⟨ν1,c2,e1,e2,e3,e4,e5⟩:=Q.ok hok;have og:=Q.iff.1 hok;have⟨z1,z2⟩:=wD B ν1 (fun _ _=>[]) d (Am.get f.subs k) (a+1+B8 (f.subs.take k));have WB:LY v.1:=by rw[e1];exact⟨rfl,zu hr ν1 d _ _ (hY har S),(by show w9 (TT B ν1 d (Am.get f.subs k) (a+1+B8 (f.subs.take k)))<=200;rw[z1];exact og.1),(by show R0 (TT B ν1 d (Am.get f.subs k) (a+1+B8 (f.subs.take k)))<=40;rw[z2];exact og.2)⟩
    have i9s:∀ {α:Type} (B':O->Nat->List α),(E6 B' (f.subs.take (k+1)) (a+1)).flatten=(E6 B' (f.subs.take k) (a+1)).flatten++B' (Am.get f.subs k) (a+1+B8 (f.subs.take k)):=fun B'=>by rw[H8 S,Gx,List.flatten_append];simp
    have CX:∀z∈(E6 (HT B d) (f.subs.take k) (a+1)).flatten,z.1∉ (HT B d (Am.get f.subs k) (a+1+B8 (f.subs.take k))).map (·.1):=fun z hz bT=>by have⟨z2,bT,ez⟩:=bj.1 bT;have ez:z2.1=z.1:=ez;have⟨y,hy,q,I,a2,a3⟩:=Gt hz;have⟨k1,k2,_⟩:=gK hr d y q (GF y (ov hy)) z a3;have⟨k3,k4,_⟩:=gK hr d _ _ (hY har S) z2 bT;omega
    refine Z.B9 (Z.w6 ?_ (Z.B9 (Z.w6 ?_ (Z.pure ⟨mX (HT B d (Am.get f.subs k) (a+1+B8 (f.subs.take k))) ν1 ν,c2,e2,?_,?_,?_,h5.snoc WB,?_⟩))))
    ·exact lT
    ·exact lT
    ·grind
    ·grind
    ·rw[i9s];exact h4.app e5 CX
    ·show t4++[v.1.form]=_;rw[H8 S,Gx,h6,e1];have g1:E6 (TT B ν d) (f.subs.take k) (a+1)=E6 (TT B (mX (HT B d (Am.get f.subs k) (a+1+B8 (f.subs.take k))) ν1 ν) d) (f.subs.take k) (a+1):=Mk (xv:=HT B d) (C:=fun z=>mX (HT B d (Am.get f.subs k) (a+1+B8 (f.subs.take k))) ν1 ν z.1=ν z.1) (fun x q A=>wF B _ _ d x q fun z hz y _=>by rw[A z hz]) _ _ (fun z hz=>Gv (CX z hz));have g2:TT B (mX (HT B d (Am.get f.subs k) (a+1+B8 (f.subs.take k))) ν1 ν) d (Am.get f.subs k) (a+1+B8 (f.subs.take k))=TT B ν1 d (Am.get f.subs k) (a+1+B8 (f.subs.take k)):=wF B _ _ d _ _ fun z hz y _=>by rw[Gu (bj.2 ⟨z,hz,rfl⟩)]
     rw[g1,g2];rfl
  ·grind
  ·have⟨t1,t2,t3,t4⟩:=t;have⟨ν,cN,U,X,h3,h4,h5,h6⟩:=F;have h6:t4=E6 (TT B ν d) f.subs (a+1):=h6;have e3:t3=t4.map lJ:=h5.eq;have hn4:B8 t4<=200*f.subs.length:=h5.nd;have hd4:N4 t4<=40:=h5.dp;unfold WM;simp only[e3];refine Z.bind (d4R M M) fun v Q=>?_;subst Q;have⟨s1,s2⟩:=d6I B ν (fun _ _=>[]) d f.subs (a+1);rw[<-h6]at s1 s2;refine Z.pure ⟨?_,fun hok=>⟨ν,cN,?_,U,by rw[oh];exact X,by rw[oh];exact h3,by rw[oh];exact h4⟩⟩
   ·show decide (1+B8 t4<=200/\N4 t4<40)=true↔_;rw[decide_eq_true_iff,ij];unfold dK;rw[w9,R0, <-s1, <-s2];omega
   ·show K1.mk (O.mk f.kind f.name f.words t4) _ _=_;rw[ij, <-h6];unfold lJ;rw[w9,R0,n5 1 (N4 t4)]
mutual
theorem d6L(N:Nat->J):∀(f:O) (env:List (J×J)) (i:Nat),∀x∈qs (F8 N f env i),∃j,x=N j
 | .mk k n w s,env,i,x,A=>by
   rw[F8,dH]at A;rcases al.1 A with A|A
   ·by_cases S:QK k
    ·rw[if_pos (show QK (O.mk k _ _ _).kind from S),ao]at A;exact⟨i,by rw[A];show(if QK k then N i else n)=N i;rw[if_pos S]⟩
    ·simp_all
   ·exact d6M N s _ _ x A
theorem d6M(N:Nat->J):∀(l:List O) (env:List (J×J)) (i:Nat),∀x∈J6 (L4 N l env i),∃j,x=N j
 | [],env,i,x,A=>by rw[L4,J6]at A;cases A
 |f::l,env,i,x,A=>by
  rw[L4,J6]at A;rcases al.1 A with A|A
  ·exact d6L N f env i x A
  ·exact d6M N l env _ x A
end
theorem i9t(f:O):zy (F8 qn f [] 0):=fun x A=>by obtain⟨j,rfl⟩:=d6L qn f [] 0 x A;exact UZ j
theorem i9u{g:O}(hs:P6 g):jm (gH (dJ g []) 0) g [] 0:=fun j L=>by rw[d5q _ 0 j (VG g [] hs) (by rw[Gd];exact L)]
theorem d6N(hr:dX B)(d:Nat){f:O}(hf:D6 f)(hn:w9 f<=1000):Kr ((HT B d f 0).map eT):=by
 refine⟨fun x A=>?_,?_⟩
 ·obtain⟨z,hz,rfl⟩:=bj.1 A;have⟨k1,k2,_⟩:=gK hr d f 0 hf z hz;show 0<=(z.1:Int)/\(z.1:Int)<=_;exact⟨by omega,by omega⟩
 ·have h:=wE hr d f 0 hf;rw[ja];refine Bi.2 ((Bi.1 h).imp fun {x y} hne e=>hne ?_);have e:(x.1:Int)=(y.1:Int):=e;omega
structure i9v(B:List C5)(d:Nat)(f:O)(x:O×List C6×Bool):Prop where
 iff:x.2.2=true↔dK (TT B (fun _ _=>[]) d (F8 qn f [] 0) 0)
 ok:x.2.2=true->∃(ν:Nat->J->J) (c2:Nat),x.1=cf (TT B ν d (F8 qn f [] 0) 0)/\x.2.1=cw gu ((HT B d (F8 qn f [] 0) 0).map eT)/\iK B (HT B d (F8 qn f [] 0) 0) ν (nq f) c2
 no:x.2.2=false->x.1=zf/\x.2.1=[]
theorem i9w{B:List C5}(hr:dX B)(hun:∀R∈B,∀j,j<(qs R.B4).length->Am.get (qs R.B4) j∉ (qs R.B4).take j)(hrl:B.length<=1000000){f:O}(h:Y0 f){d:Nat}(hd:am (F8 qn f [] 0)<=d):Z (fun n=>zA n B f) (i9v B d f):=by
 have hn:=h.2.1;have hq:=jj f;have har:=M1.ar f h.1;have N6:=M1.sm f h.1;have M8:D6 (F8 qn f [] 0):=D6.F8 qn f [] 0 har;have mg:P6 (F8 qn f [] 0):=D6.sm _ M8;have zo:w9 (F8 qn f [] 0)=w9 f:=Fa qn f [] 0;unfold zA;refine Z.bind (i7P _ f (ae _) N6 _ 0 [] [] M) fun v1 hv1=>?_;subst hv1;refine Z.bind (i8d _ _ (ae _) mg [] _ _ [] [] (by simp;omega) (fun q hq=>by cases hq)) fun v2 hv2=>?_;subst hv2;refine Z.bind (i9o hr hun hrl d _ hd M8 (i9t f) [] 0 (0+nq f) (gH (dJ (F8 qn f [] 0) []) 0) [] (i9u mg) (by simp;omega) (by simp;omega) M) fun v3 W4=>?_;refine Z.cond (fun e=>Z.pure ?_) (fun e=>?_)
 ·have e:v3.2.1=false:=by simpa using e
  exact⟨⟨fun h=>(by cases h),fun h=>by rw[W4.iff.2 h]at e;cases e⟩,fun h=>(by cases h),fun _=>⟨rfl,rfl⟩⟩
 ·have e:v3.2.1=true:=by simpa using e
  have⟨ν,c2,e1,e2,e3,e4,e5⟩:=W4.ok e;have og:=W4.iff.1 e;have⟨z1,z2⟩:=wD B ν (fun _ _=>[]) d (F8 qn f [] 0) 0;rw[e4,e1,fw];have hlen:((HT B d (F8 qn f [] 0) 0).map eT).length<=1000:=by
   have U:=CV (m:=fi 0 (w9 (F8 qn f [] 0))) (wE hr d _ 0 M8) fun x A=>by obtain⟨z,hz,rfl⟩:=bj.1 A;have⟨k1,k2,_⟩:=gK hr _ _ 0 M8 z hz;exact ff.2 ⟨k1,k2⟩
   rw[bc,mr]at U;rw[bc];omega
  refine Z.bind (P:=fun v=>v=cw gu ((HT B d (F8 qn f [] 0) 0).map eT)) ?_ fun v4 fF=>Z.bind (i7L (D6.sm _ (zu hr ν _ _ 0 M8)) (by show w9 (TT B ν d (F8 qn f [] 0) 0)<=200;rw[z1];exact og.1)) fun v6 jk=>Z.pure ?_
  ·unfold CZ;exact Z.w6 ⟨by omega,d6N hr _ M8 M⟩ (Z.pure rfl)
  ·subst fF jk;rw[dq]at e5;exact⟨⟨fun _=>og,fun _=>rfl⟩,fun _=>⟨ν,c2,rfl,rfl,e5⟩,fun h=>(by cases h)⟩
def pR(w:J):Prop:=∀m,w≠mk m
mutual
def tg:O->Prop
 | .mk _ _ w s=>(∀x∈w,pR x)/\tj s
def tj:List O->Prop
 | []=>True
 |f::l=>tg f/\tj l
end
mutual
theorem d6O:∀(f:O),tg f->∀(W:List J)(x:J),E5 f W x->pR x
 | .mk k n w s,h,W,x,A=>by rw[tg]at h;rw[E5]at A;exact A.elim (fun A=>h.1 x A.1) fun A=>d6P s h.2 _ x A
theorem d6P:∀(l:List O),tj l->∀(W:List J)(x:J),F5 l W x->pR x
 | [],_,W,x,A=>by rw[F5]at A;exact A.elim
 |f::l,h,W,x,A=>by rw[tj]at h;rw[F5]at A;exact A.elim (fun A=>d6O f h.1 W x A) fun A=>d6P l h.2 W x A
end
theorem i9x:∀(m:Nat)(f:O),am f<=m->P6 f->∀(I a2:List J)(i:Nat),I.length=a2.length->I.length+w9 f<=100000->i+nq f<=1000->
 Z (fun n=>wK n f I a2 (i:Int)) (fun r=>r.1=F8 mk f (kA I a2) i/\r.2=((i+nq f:Nat):Int)):=by
 intro m
 induction m with
 |zero=>exact z0
 |succ m ih=>
  intro f hf hwf I a2 i WO UN u;have hnd:=Y8 f;have dU:=wq hwf;have hsl:=sP hwf;have mR:=Kz f;refine Z.succ ?_;simp only[wK];refine Z.B3 (P:=L2 (fun t=>t=f.words.map (sub (kA I a2))) (fun _=>False)) ((Z.range (fun k s=>s=(f.words.take k).map (sub (kA I a2))) (fun _=>False) (fun _=>False) B5 (fun k s S hs=>?_)).mono fun e he=>?_) (fun t F=>?_) nofun
  ·unfold WQ;refine Z.B3 (d4f (Am.get I) (Am.get a2) I.length M (Am.get f.words k) (Mx I f k a2) (fun j L=>?_) rfl) (fun t F=>?_) nofun
   ·unfold Mx;have e1:decide (0<=(j:Int))=true:=decide_eq_true M;have e2:(j:Int)<(a2.length:Int):=by omega
    rw[e1,cond_true,sk M,sk e2];rfl
   ·unfold WR;refine Z.B9 (Z.w6 ?_ (Z.pure ?_))
    ·subst hs;exact lT
    ·show _=_;have F:t=sub (kA I a2) (Am.get f.words k):=F;rw[hs,F,H8 S,cm];rfl
  ·grind
  ·subst F;have key:∀(c1 c2:List J)(nm:J)(j:Nat),nm=(if QK f.kind then mk i else f.name)->c1.length=c2.length->kA c1 c2=(if QK f.kind then(f.name,mk i)::kA I a2 else kA I a2)->j=i+(if QK f.kind then 1 else 0)->c1.length<=I.length+1->
    Z (fun n=>Da (wK n) f (f.words.map (sub (kA I a2))) ((j:Int),nm,c1,c2)) (fun r=>r.1=F8 mk f (kA I a2) i/\r.2=((i+nq f:Nat):Int)):=by
    intro c1 c2 nm j hnm T4 UQ L hlen
    have hjn:j+K2 f.subs=i+nq f:=by omega
    unfold Da
    refine Z.w6 M (Z.B3 (P:=L2 (fun t=>t.2=L4 mk f.subs (kA c1 c2) j/\t.1=((j+K2 f.subs:Nat):Int)) (fun _=>False)) ((Z.range (fun k s=>s.2=L4 mk (f.subs.take k) (kA c1 c2) j/\s.1=((j+K2 (f.subs.take k):Nat):Int)) (fun _=>False) (fun _=>False) ⟨by simp[L4],by simp[K2]⟩ (fun k s S hs=>?_)).mono fun e he=>?_) (fun t F=>?_) nofun)
    ·have⟨aK,V1⟩:=hs;unfold WS;have hsz:=W3 S;have fD:=eO S;have dW:=Ce S;refine Z.bind (P:=fun r=>r.1=F8 mk (Am.get f.subs k) (kA c1 c2) (j+K2 (f.subs.take k))/\r.2=((j+K2 (f.subs.take k)+nq (Am.get f.subs k):Nat):Int)) ?_ fun v Q=>Z.B9 (Z.w6 ?_ (Z.pure ?_))
     ·rw[V1];exact ih _ M (pJ hwf S) c1 c2 _ T4 M M
     ·rw[Y7,aK];simp only[aa,qU,db,an,cz];omega
     ·have⟨hv1,hv2⟩:=Q;refine⟨?_,?_⟩
      ·show s.2++[v.1]=_;rw[aK,hv1,H8 S,yT]
      ·show v.2=_;rw[hv2,H8 S,vV,da]
    ·grind
    ·have⟨pF,jg⟩:=F;unfold WT;refine Z.pure ⟨?_,by show t.1=_;rw[jg,hjn]⟩;show O.mk _ _ _ _=_;rw[BK,pF,hnm,UQ,L]
   unfold WU;refine Z.cond (fun e=>?_) (fun e=>?_)
   ·replace e:=bx e;have e:QK f.kind:=e;rw[if_pos e]at mR;have hw:wr .i64 ((i:Int)+1)=((i+1:Nat):Int):=by rw[F9 M M];rfl
    rw[hw];refine Z.bind (Le M) fun v Q=>?_;subst Q;have hl:=oa (m:=i) M;refine Z.w6 (by unfold P8;simp;omega) (Z.B9 (Z.w6 ?_ (Z.B9 (Z.w6 ?_ (Z.B9 (Z.w6 ?_ (Z.B9 (Z.w6 ?_ ?_))))))))
    ·exact lT
    ·exact lT
    ·exact lT
    ·exact lT
    ·exact key _ _ _ _ (by rw[if_pos e];rfl) (by simp[WO]) (by rw[if_pos e];exact i7h WO _ _) (by rw[if_pos e]) B5
   ·replace e:=bx e;have e:¬QK f.kind:=fun h=>by unfold QK at h;omega
    rw[if_neg e]at mR;exact key _ _ _ _ (by rw[if_neg e]) WO (by rw[if_neg e]) (by rw[if_neg e];rfl) M
mutual
theorem d6Q(σ:J->J)(N:Nat->J)(q:Nat)(U:∀j,j<q->σ (mk j)=N j)(X:∀w,pR w->σ w=w):∀(f:O) (env:List (J×J)) (i:Nat),tg f->i+nq f<=q->swp σ (F8 mk f env i)=F8 N f (env.map fun e=>(e.1,σ e.2)) i
 | .mk k n w s,env,i,hwf,hq=>by
   rw[tg]at hwf;have⟨hw,hs⟩:=hwf;rw[nq]at hq;rw[F8,F8,swp];have e1:(w.map (sub env)).map σ=w.map (sub (env.map fun e=>(e.1,σ e.2))):=by rw[ja];exact e8 fun x A=>d4k σ (X x (hw x A)) env
   rw[e1];by_cases S:QK k
   ·rw[if_pos S]at hq;simp only[if_pos S];rw[U i M,WV σ N q U X s _ _ hs M,bv,U i M]
   ·rw[if_neg S]at hq;simp only[if_neg S];rw[WV σ N q U X s _ _ hs M]
theorem WV(σ:J->J)(N:Nat->J)(q:Nat)(U:∀j,j<q->σ (mk j)=N j)(X:∀w,pR w->σ w=w):∀(l:List O) (env:List (J×J)) (i:Nat),tj l->i+K2 l<=q->iJ σ (L4 mk l env i)=L4 N l (env.map fun e=>(e.1,σ e.2)) i
 | [],env,i,_,_=>by rw[L4,L4,iJ]
 |f::l,env,i,h,hq=>by rw[K2]at hq;rw[tj]at h;rw[L4,L4,iJ,d6Q σ N q U X f env i h.1 M,WV σ N q U X l env _ h.2 M]
end
theorem d6R(N:Nat->J){w:J}(hw:pR w):∀n i,sub ((nms mk i n).zip (nms N i n)) w=w
 |0,i=>rfl
 |n+1,i=>by rw[nms,nms,List.zip_cons_cons,kh,if_neg fun e=>hw i e.symm,d6R N hw n]
theorem i9y{f:O}(h:P6 f)(hn2:w9 f<=200)(hm:tg f):Z (fun n=>GH n f) (fun r=>r=cf f):=by
 have hnd:=hn2;have hq:=jj f;unfold GH Mz;refine Z.bind (P:=fun r=>r=cf f) (Z.bind (i9x _ f (ae _) h [] [] 0 rfl (by simp;omega) M) fun v1 hv1=>?_) fun v Q=>Z.pure Q;have⟨g,c⟩:=v1;have⟨yx,hc0⟩:=hv1;have hg:g=F8 mk f [] 0:=yx;have K:c=((0+nq f:Nat):Int):=hc0;clear yx hc0;rw[dq]at K;subst K;have N6:P6 g:=by rw[hg];exact P6.F8 mk f [] 0 h
 have zo:w9 g=w9 f:=by rw[hg,Fa]
 refine Z.bind (P:=fun C=>(∀x,x∈C↔E5 f [] x)/\C.length<=3*w9 f) ?_ fun C hC=>?_
 ·unfold MA;refine Z.bind (i7k _ g (ae _) N6 [] [] (by simp;omega) (by simp;omega)) fun v Q=>Z.pure ⟨fun x=>?_,?_⟩
  ·rw[Q.1 x,hg];have:=d3I mk pR (fun i u=>u i rfl) f [] 0 (fun x A=>d6O f hm _ x A) (fun p hp=>by cases hp) x;simp only[List.not_mem_nil,false_or];exact this
  ·grind
 have⟨hC,hCl⟩:=hC;have sQ:∀x,E5 f [] x->x∈C:=fun x=>(hC x).2;refine Z.B3 (P:=L2 (fun t=>t=C) (fun _=>False)) ((Z.range (fun k s=>s=C.take k) (fun _=>False) (fun _=>False) B5 (fun k s S hs=>?_)).mono fun e he=>?_) (fun t F=>?_) nofun
 ·unfold WW;refine Z.B9 (Z.w6 ?_ (Z.pure ?_))
  ·subst hs;exact lT
  ·show _=_;rw[hs,H8 S]
 ·grind
 have F:t=C:=F;subst F;unfold WX;have Wp:=Tz sQ 600 M;refine Z.B3 (Z.R5 (nq f) (fun k s=>s.1=nms mk 0 k/\s.2.1=nms (NN (E5 f [])) 0 k/\(∃b:Nat,s.2.2.1=(b:Int)/\nx (E5 f []) b=num (E5 f []) k)/\s.2.2.2=(k:Int)) (fun t=>t=(nms mk 0 (nq f),nms (NN (E5 f [])) 0 (nq f))) (fun _=>False) ⟨rfl,rfl,⟨0,rfl,rfl⟩,rfl⟩ (fun k s S hs=>?_) (fun s hs=>?_)) (fun t F=>?_) (fun _ h=>?_)
 ·have⟨aK,V1,⟨b,jc,H⟩,tq⟩:=hs;unfold MB;refine Z.cond (fun _=>?_) ab;have A:=Lf sQ b;have Gc:=Wp k;have step:∀m:Nat,m<=1000000->Z (fun n=>MC n t (m:Int)) (fun c=>c=if vn m∈t then .B7 ((m+1:Nat):Int)else .brk (m:Int)):=fun m hm=>by
   unfold MC;have hl:=oa (m:=m) M;refine Z.bind (Le M) fun v Q=>?_;subst Q;have hw:wr .i64 ((m:Int)+1)=((m+1:Nat):Int):=by rw[F9 M M];rfl
   have e:O1 [118] (cb m)=vn m:=rfl;refine Z.w6 (by unfold P8;simp;omega) ?_;simp only[e,TF,ax,hw];refine Z.cond (fun e=>Z.pure ?_) (fun e=>Z.pure ?_)
   ·grind
   ·grind
  rw[jc];refine Z.B3 (Z.R5 (nx (E5 f []) b-b) (fun j i=>i=((b+j:Nat):Int)) (fun i=>i=((num (E5 f []) k:Nat):Int)) (fun _=>False) rfl (fun j i L u=>?_) (fun i u=>?_)) (fun i u=>?_) (fun _ h=>?_)
  ·subst u;refine(step _ M).mono fun c K=>?_;rw[if_pos ((hC _).2 (A.2.2 _ M M))]at K;subst K;rfl
  ·subst u;have e:b+(nx (E5 f []) b-b)=nx (E5 f []) b:=by have:=A.1;omega
   rw[e];refine(step _ M).mono fun c K=>?_;rw[if_neg fun hm=>A.2.1 ((hC _).1 hm)]at K;subst K;show((nx (E5 f []) b:Nat):Int)=_;rw[H]
  ·have u:i=((num (E5 f []) k:Nat):Int):=u;subst u;unfold WY;rw[tq];have l1:=oa (m:=k) M;have l2:=oa (m:=num (E5 f []) k) M;refine Z.bind (Le M) fun v Q=>?_;subst Q;refine Z.w6 (by unfold P8;simp;omega) (Z.B9 (Z.w6 ?_ (Z.bind (Le M) fun v Q=>?_)))
   ·rw[Y7,aK];simp only[aa,Cj,an,cz];omega
   subst Q;refine Z.w6 (by unfold P8;simp;omega) (Z.B9 (Z.w6 ?_ (Z.pure ?_)))
   ·rw[Y7,V1];simp only[aa,Cj,an,cz];omega
   ·refine⟨?_,?_,⟨num (E5 f []) k+1,?_,rfl⟩,?_⟩
    ·rw[d4l, <-aK];rfl
    ·rw[d4l, <-V1];rfl
    ·show wr .i64 (((num (E5 f []) k:Nat):Int)+1)=_;rw[F9 M M];rfl
    ·show wr .i64 ((k:Int)+1)=_;rw[F9 M M];rfl
  ·exact gh h
 ·have⟨aK,V1,_,tq⟩:=hs;unfold MB;refine Z.cond ab (fun _=>Z.pure ?_);show(_,_)=(_,_);rw[aK,V1]
 ·have F:t=(nms mk 0 (nq f),nms (NN (E5 f [])) 0 (nq f)):=F;subst F;unfold WZ;refine Z.bind (i7m (by rw[Cj,Cj]) (by rw[Cj];omega) _ g (ae _) N6) fun v Q=>Z.pure ?_;rw[Q,hg];exact d6Q _ _ (nq f) (fun j L=>by have:=d4m (NN (E5 f [])) (nq f) 0 j L;rw[dq]at this;exact this) (fun w hw=>d6R _ hw _ _) f [] 0 hm M
 ·exact gh h
theorem d6S:∀(l:List O)(x:O),N4 (l++[x])=max (N4 l) (R0 x)
 | [],x=>by simp[N4]
 |a::l,x=>by rw[di,N4,N4,d6S l x];omega
theorem i9z:∀(m:Nat)(f:O),am f<=m->R0 f<=w9 f:=by
 intro m;induction m with
 |zero=>exact z0
 |succ m ih=>
  intro f hf;rw[d3y,Y8];have:∀l:List O,(∀y∈l,am y<=m)->N4 l<=B8 l:=by
   intro l;induction l with
   |nil=>intro _;rw[N4];omega
   |cons a l ihl=>intro h;rw[N4,B8];have:=ih a (h a (az ..));have:=ihl fun y hy=>h y (aw _ hy);omega
  have:=this f.subs fun y hy=>by obtain⟨j,L,rfl⟩:=U0.1 hy;have:=W3 L;omega
  omega
section
variable {s:B1} {bs:List C4}
end
