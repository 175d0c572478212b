import Derived.Orders
import Derived.Scope
import Derived.Test.YtchbmngmmdeenaaGreatDoorTMAm1
open Array renaming all_eq_true_iff_forall_mem->s7,getD_eq_getD_getElem?->ca,replicate->q9
open Bool renaming and_eq_true->ie,not_eq_true'->l5,or_eq_true->rl,or_eq_false_iff->nv
open Go.Act renaming put->nl
open Go.Oper renaming wp->uA,looksAt->Hc,apart->IH,apart_spec->uC
open Go.Region renaming wanted->pm,binds->j5,ready->sn
open List renaming map_cons->bv,mem_cons->ce,getElem?_set->pt,mem_append->al,map_congr_left->e8,getElem_of_mem->gz,ext_getElem?->A4,mem_range->EQ,eq_nil_iff_forall_not_mem->ns,getElem_cons_drop->my,take_append_drop->ew,getElem_take->k8,getElem_drop->io,length_take->db,length_drop->iv,getElem_mem->bt,range->ol,getD_eq_getElem?_getD->ac,getElem?_eq_none->rc,getElem?_append_right->c8,getElem?_cons_zero->q7,getElem_cons_zero->kb,getElem_cons_succ->ka,replicate->be,all_eq_true->fc,append->r9,take_of_length_le->nn,mem_map->bj,nodup_cons->ia,getElem?_eq_some_iff->c7,getElem?_append_left->cy,append_nil->gf,getElem?_toArray->xy,getElem?_cons_succ->xn,set_append_left->pc
open Nat renaming le_refl->ae,lt_or_ge->il,zero_add->dq,testBit->mn,add_zero->ky,lt_of_lt_of_le->gr,le_of_ble_eq_true->ym,not_lt_zero->co
open Option renaming map_some->kx,getD_some->nf
namespace Go.Am
open Go
variable {Γ α κ ρ σ:Type} {c:Code} {d':D} {R:D->St->Prop} {B':Fr} {f:FuncId} {l':List (J×List D)} {args args':List D} {B:List ResultVar} {μ:Mu} {j k t:Nat} {ob x:Ob} {p:Prop} {De st0:St} {v:Value} {w:World}
theorem d0T{o:Nat}:∀ {m:List (Nat×Ob)} {s:St},o∉m.map (·.1)->(puts s m)[o]? =s[o]?
 | [],_,_=>rfl
 |(a,x)::m,s,h=>by simp only[bv,ce,not_or]at h;simp only[puts];rw[pt,if_neg (fun e=>h.1 e.symm),d0T h.2]
theorem d0U{o:Nat}:∀ {m:List (Nat×Ob)} {s s':St},s[o]? =s'[o]? ->(puts s m)[o]? =(puts s' m)[o]?
 | [],_,_,h=>h
 |(a,x)::m,s,s',h=>by
  have ih:=d0U (m:=m) h;simp only[puts];have sg:∀(l:St)(v:Option Ob),(l.set a v)[o]? =if a=o then(l[o]?).map (fun _=>v)else l[o]? :=fun l v=>by grind
  rw[sg,sg,ih]
def Jw(P:Program)(G:Gl)(f:FuncId)(args:List D)(rd:List Nat)(st0:St)(r:D)(ups:List (Nat×Ob)):Prop:=
 ∀st,(∀o∈rd,look st o=look st0 o)->Spec P G f args st fun d st'=>d=r/\st'=puts st ups
theorem Pure.loc{P:Program}{G:Gl}{r:D}(h:Pure P G f args r):Jw P G f args [] st0 r []:=fun st _=>h st
structure Row where
 o:Oper
 q:Nat
 G:Bool
 r:LR
 ups:List (Nat×Ob)
def Row.d(x:Row):D:=match x.o.guard with
 |none=>x.r.d
 |some _=>.cond x.G x.r.d
def Row.fr(x:Row)(fr:Fr):Fr:=fr.U3 x.o.dst x.d
def Row.st(x:Row)(st:St):St:=bif x.G then puts (x.r.app x.q st) x.ups else st
def Row.rd(x:Row):List Nat:=bif x.G then x.r.rd else []
def Row.wr(x:Row):List Nat:=bif x.G then(match x.r.up with|some (o,_)=>[o]|none=>[])++x.ups.map (·.1)else []
structure Fits(P:Program)(gl:Gl)(N:Nat)(ops:Array Oper)(b:Nat)(x:Row)(fr:Fr)(st:St):Prop where
 dst:kd N x.o
 gok:mz ops fr x.o
 hG:x.G=guardOf ops fr x.o
 kV:kV x.r/\∀p∈x.ups,p.1∈x.r.rd
 does:x.G=true->(gb x.o.op=none/\x.r=G2 P gl true x.o.op fr (look st) x.q/\x.r.ok/\(needs x.o.op=true->st[x.q]? =some (some .resv))/\x.ups=[])\/
  ∃f xs g first cap d rd,gb x.o.op=some (f,xs)/\K5 gl true fr f/\(∀y∈xs,K5 gl true fr y)/\F2 gl fr f= .fn g first cap/\Jw P gl g (first++xs.map (F2 gl fr)++cap) rd st d x.ups/\
   x.r=⟨d,True,rd,none,none⟩/\∀o∈rd,(o<b\/∃e∈first++xs.map (F2 gl fr)++cap,e.top=some o)/\∃ob,st[o]? =some (some ob)/\ob≠ .resv
 makes:x.r.new≠none->needs x.o.op=true
section
variable {P:Program} {gl:Gl} {N:Nat} {ops:Array Oper} {w0:World} {μ0:Mu} {st0:St} {x:Row} {b:Nat} {fr fr':Fr} {st st':St} {BE:Exit->Act->World->Prop}
theorem uO{o:Nat}:look st o=some ob↔st[o]? =some (some ob):=by
 unfold look;cases h:st[o]? with
 |none=>simp
 |some y=>cases y<;>simp
theorem d0W{a:Act}{w:World}{μ:Mu}{o:Oper}{q:Nat}(h:bp gl N w0 μ0 st0 fr st a w μ)(hok:(G2 P gl true o.op fr (look st) q).ok)(hd:kd N o)(hq:needs o.op=true->st[q]? =some (some .resv)):
 ∃nx v w' μ',(execOp a.eval o).run P w= .ok nx w'/\(nx= .value v\/(nx= .skip/\v=undef))/\
  bp gl N w0 μ0 st0 (fr.U3 o.dst (G2 P gl true o.op fr (look st) q).d) ((G2 P gl true o.op fr (look st) q).app q st) (a.put o.dst v) w' μ':=by
 have⟨nx,v,w',μ',U,X,h3,h4,h5⟩:=Qk (P:=P) (G:=gl) (q:=q) h.bU h.fr h.glob hq hok
 refine⟨nx,v,w',μ',U,X,h3,h.glob.step h4,?_,?_,?_,h.step.trans h4⟩
 ·cases cF:o.dst with
  |none=>exact h.fr.step h4
  |some t=>
   have F:t<N:=by simpa[kd,cF]using hd
   exact(h.fr.step h4).put h5 (by rw[h.size];exact F)
 ·cases cF:o.dst with
  |none=>exact h.size
  |some t=>simp[nl,h.size]
 ·cases cF:o.dst with
  |none=>exact h.defers
  |some t=>simp[nl,h.defers]
theorem i3B{a:Act}{yo:Act->World->Prop}(K:bp gl N w0 μ0 st0 fr st a w μ)(h:Fits P gl N ops b x fr st)
 (hK:∀a' w' μ',bp gl N w0 μ0 st0 (x.fr fr) (x.st st) a' w' μ'->yo a' w'):
 if pm x.o (yielded ops a.tmps)then x.o.wp P a w yo BE\/(x.o.asks P a w/\LetsOut BE)else yo (a.put x.o.dst undef) w:=by
 rw[Qn K.fr h.gok, <-h.hG]
 cases hG:x.G with
 |false=>
  simp only[Bool.false_eq_true,if_false];have xX:∃p,x.o.guard=some p:=by
   cases hgd:x.o.guard with
   |none=>have:=h.hG;simp[guardOf,hgd,hG]at this
   |some p=>exact⟨p,rfl⟩
  have⟨p,xX⟩:=xX;refine hK _ _ μ ?_;simp only[Row.fr,Row.st,Row.d,xX,hG,cond_false];exact Qo K h.dst _
 |true=>
  simp only[if_true];left;have wrap:∀ {d:D} {a' w' μ' st'} {v:Value},bp gl N w0 μ0 st0 (fr.U3 x.o.dst d) st' (a.put x.o.dst v) w' μ'->x.r.d=d->a'=a.put x.o.dst v->bp gl N w0 μ0 st0 (x.fr fr) st' a' w' μ':=by
   intro d a' w' μ' st' v hc' hd ha;subst ha;subst hd;have:=Qp hc' true rfl;unfold nO at this;simp only[Row.fr,Row.d];split at this
   ·grind
   ·grind
  rcases h.does hG with⟨hcall,hr,hok,hq,yg⟩|⟨f,xs,g,first,cap,d,rd,hcall,hf,A,jD,hp,hr,hrd⟩
  ·rw[hr]at hok;have⟨nx,v,w',μ',U,X,h3⟩:=d0W (P:=P) (o:=x.o) K hok h.dst hq;unfold uA;rw[U];have next:yo (a.put x.o.dst v) w':=by refine hK _ _ μ' ?_;simp only[Row.st,hG,cond_true,yg,puts];rw[<-hr]at h3;exact wrap h3 rfl rfl
   rcases X with rfl|⟨rfl,rfl⟩<;>exact next
  ·have⟨_,hspec⟩:=hp st fun _ _=>rfl;have⟨vs,U,X,h3⟩:=Jk (P:=P) hcall K.fr K.glob hf A jD;unfold uA;rw[U];refine(hspec w μ vs K.bU K.glob X h3).upon fun e w' ⟨v,d',st',μ',he,⟨hd1,hd2⟩,hs',kT,Q⟩=>?_;subst he;subst hd1;subst hd2;refine hK _ _ μ' ?_;have hst:x.st st=puts st x.ups:=by simp[Row.st,hG,hr,LR.app]
   rw[hst];refine wrap (d:=d') ?_ (by rw[hr]) rfl;refine⟨hs',K.glob.step kT,?_,?_,?_,K.step.trans kT⟩
   ·cases cF:x.o.dst with
    |none=>exact K.fr.step kT
    |some t=>
     have F:t<N:=by simpa[kd,cF]using h.dst
     exact(K.fr.step kT).put Q (by rw[K.size];exact F)
   ·cases cF:x.o.dst with
    |none=>exact K.size
    |some t=>simp[nl,K.size]
   ·cases cF:x.o.dst with
    |none=>exact K.defers
    |some t=>simp[nl,K.defers]
theorem QL(hs:∀t∈x.o.looksAt ops,fr'.get t=fr.get t):∀y∈x.o.op.operands,ev gl fr y=ev gl fr' y:=by
 intro y hy;cases y with
 |tmp t=>exact(hs t (by simp only[Hc,al,List.mem_filterMap];exact .inl ⟨.tmp t,by simpa using hy,rfl⟩)).symm
 | _=>rfl
theorem i3C(hs:∀t∈x.o.looksAt ops,fr'.get t=fr.get t):guardOf ops fr' x.o=guardOf ops fr x.o/\(mz ops fr' x.o↔mz ops fr x.o):=by
 unfold guardOf mz;cases hg:x.o.guard with
 |none=>exact⟨rfl,Iff.rfl⟩
 |some p=>
  have⟨j,want⟩:=p;simp only;cases hd:(ops[j]?).bind (·.dst)with
  |none=>exact⟨rfl,Iff.rfl⟩
  |some t=>have:=hs t (by simp only[Hc,hg,hd,al];exact .inr B5);simp only[this];exact⟨trivial,trivial⟩
theorem d0X{o:Op}{f:Operand}{xs:List Operand}(h:gb o=some (f,xs)):f∈o.operands/\∀y∈xs,y∈o.operands:=by
 cases o<;>simp only[gb]at h<;>first|(cases h;done)|skip
 rename_i c;have⟨callee,args,dF⟩:=c;cases callee<;>simp only at h<;>first|(cases h;done)|skip
 cases h;exact⟨by simp[Op.operands,Call.operands],fun y hy=>by simp only[Op.operands,Call.operands,Array.mem_append];exact .inr (by simpa using hy)⟩
theorem i3D{a:Act}(K:bp gl N w0 μ0 st0 fr' st' a w μ)(h:Fits P gl N ops b x fr st)(hs:∀t∈x.o.looksAt ops,fr'.get t=fr.get t):
 ∀o∈x.rd,st'[o]? ≠some (some .resv)\/o<b:=by
 intro o ho
 unfold Row.rd at ho
 cases hG:x.G with
 |false=>rw[hG]at ho;cases ho
 |true=>
  rw[hG]at ho;rcases h.does hG with⟨hcall,hr,hok,hq,yg⟩|⟨f,xs,g,first,cap,d,rd,hcall,hf,A,jD,hp,hr,hrd⟩
  ·rw[hr]at hok;simp only[cond_true,hr]at ho;have⟨y,U,X,h3⟩:=i3A hok ho;have e:=QL (gl:=gl) hs y (by simpa using U);have h2':K5 gl true fr' y:=by unfold K5 at X ⊢; rw[<-e];exact X
   have h3':(F2 gl fr' y).top=some o:=by unfold F2 at h3 ⊢; rw[<-e];exact h3
   exact .inl ((Ay K.fr K.glob h2').d0S h3')
  ·simp only[hr,cond_true]at ho;rcases(hrd o ho).1 with U|⟨e,U,X⟩
   ·exact .inr U
   ·have⟨m1,m2⟩:=d0X hcall;have d0Z:=QL (gl:=gl) hs;have e1:∀y∈x.o.op.operands,F2 gl fr' y=F2 gl fr y:=fun y hy=>by unfold F2;rw[d0Z y hy]
    have e2:∀y∈x.o.op.operands,K5 gl true fr y->K5 gl true fr' y:=fun y hy=>by unfold K5;rw[d0Z y hy];exact id
    have⟨vs,_,_,h5⟩:=Jk (P:=P) hcall K.fr K.glob (e2 f m1 hf) (fun y hy=>e2 y (m2 y hy) (A y hy)) ((e1 f m1).trans jD);rw[e8 fun y hy=>e1 y (m2 y hy)]at h5;have⟨j,L,ej⟩:=gz U;have h6:=h5 j L;rw[ej]at h6;exact .inl (h6.d0S X)
theorem QM(h:Fits P gl N ops b x fr st):∀o∈x.rd,∃ob,st[o]? =some (some ob)/\ob≠ .resv:=by
 intro o ho;unfold Row.rd at ho;cases hG:x.G with
 |false=>rw[hG]at ho;cases ho
 |true=>
  rw[hG]at ho;rcases h.does hG with⟨hcall,hr,hok,hq,yg⟩|⟨f,xs,g,first,cap,d,rd,hcall,hf,A,jD,hp,hr,hrd⟩
  ·rw[hr]at hok;simp only[cond_true,hr]at ho;have⟨_,ob,U,X⟩:=(d0R (look st) hok).1 o ho;exact⟨ob,uO.1 U,X⟩
  ·grind
theorem i3E(h:Fits P gl N ops b x fr st)(hs:∀t∈x.o.looksAt ops,fr'.get t=fr.get t)(hm:∀o∈x.rd,look st' o=look st o)
 (hq:needs x.o.op=true->st'[x.q]? =some (some .resv)):Fits P gl N ops b x fr' st':=by
 have⟨g1,g2⟩:=i3C hs
 refine⟨h.dst,g2.2 h.gok,by rw[g1];exact h.hG,h.kV,fun hG=>?_,h.makes⟩
 have jD:=QL (gl:=gl) hs
 rcases h.does hG with⟨hcall,hr,hok,_,yg⟩|⟨f,xs,g,first,cap,d,rd,hcall,hf,A,he,hp,hr,hrd⟩
 ·refine .inl ⟨hcall,?_,hok,hq,yg⟩;rw[hr]at hok;have:x.rd=(G2 P gl true x.o.op fr (look st) x.q).rd:=by simp[Row.rd,hG, <-hr]
  rw[this]at hm;have k:=(d0R (look st) hok).2 (look st') hm;rw[hr];exact k.symm.trans (i3y jD)
 ·have⟨m1,m2⟩:=d0X hcall;have e1:∀y∈x.o.op.operands,F2 gl fr' y=F2 gl fr y:=fun y hy=>by unfold F2;rw[jD y hy]
  have e2:∀y∈x.o.op.operands,K5 gl true fr y->K5 gl true fr' y:=fun y hy=>by unfold K5;rw[jD y hy];exact id
  have hm':∀o∈rd,look st' o=look st o:=fun o ho=>hm o (by simp[Row.rd,hG,hr];exact ho);refine .inr ⟨f,xs,g,first,cap,d,rd,hcall,e2 f m1 hf,fun y hy=>e2 y (m2 y hy) (A y hy),by rw[e1 f m1];exact he,?_,hr,fun o ho=>⟨by rw[e8 fun y hy=>e1 y (m2 y hy)];exact(hrd o ho).1,?_⟩⟩
  ·rw[e8 fun y hy=>e1 y (m2 y hy)];exact fun st2 X=>hp st2 fun o ho=>(X o ho).trans (hm' o ho)
  ·have⟨ob,U,X⟩:=(hrd o ho).2;exact⟨ob,uO.1 ((hm' o ho).trans (uO.2 U)),X⟩
end
def Row.ap(x:Row)(s:Fr×St):Fr×St:=(x.fr s.1,x.st s.2)
def Row.mB(x:Row):List Nat:=x.wr++(bif x.G&&x.r.new.isSome then [x.q]else [])
theorem Jx{x:Row}{st st':St}{o:Nat}(h:st[o]? =st'[o]?):(x.st st)[o]? =(x.st st')[o]? :=by
 unfold Row.st;cases x.G with
 |false=>exact h
 |true=>
  simp only[cond_true,LR.app];refine d0U ?_;cases x.r.up with
  |none=>grind
  |some p=>grind
theorem uP{x:Row}{st:St}{o:Nat}(h:o∉x.mB):(x.st st)[o]? =st[o]? :=by
 unfold Row.st;unfold Row.mB Row.wr at h;cases hG:x.G with
 |false=>rfl
 |true=>
  rw[hG]at h;simp only[cond_true,LR.app,al,not_or]at h⊢;have⟨⟨h,yg⟩,h'⟩:=h;rw[d0T yg];have h:o∉ (match x.r.up with|some (o,_)=>[o]|none=>[])++(bif true&&x.r.new.isSome then [x.q]else []):=by grind
  cases hu:x.r.up with
  |none=>grind
  |some p=>grind
theorem AL{x:Row}{fr:Fr}{t:Nat}(h:x.o.dst≠some t):(x.fr fr).get t=fr.get t:=by
 unfold Row.fr;cases hd:x.o.dst with
 |none=>rfl
 |some C'=>simp only[Fr.U3,Fr.Eh];rw[if_neg];intro e;exact h (by rw[hd,e])
theorem Jy{x:Row}{fr fr':Fr}(h:fr.get t=fr'.get t):(x.fr fr).get t=(x.fr fr').get t:=by
 unfold Row.fr;cases hd:x.o.dst with
 |none=>exact h
 |some C'=>simp only[Fr.U3,Fr.Eh,h]
def gT(s s':Fr×St):Prop:=(∀t,s.1.get t=s'.1.get t)/\∀o:Nat,s.2[o]? =s'.2[o]?
theorem gT.refl(s:Fr×St):gT s s:=⟨fun _=>rfl,fun _=>rfl⟩
theorem gT.trans{a b c:Fr×St}(h:gT a b)(h':gT b c):gT a c:=⟨fun t=>(h.1 t).trans (h'.1 t),fun o=>(h.2 o).trans (h'.2 o)⟩
theorem gT.symm{a b:Fr×St}(h:gT a b):gT b a:=⟨fun t=>(h.1 t).symm,fun o=>(h.2 o).symm⟩
theorem gT.ap{s s':Fr×St}(h:gT s s')(x:Row):gT (x.ap s) (x.ap s'):=⟨fun t=>Jy (h.1 t),fun o=>Jx (h.2 o)⟩
theorem i3F{x y:Row}(hd:∀t,x.o.dst=some t->y.o.dst≠some t)(hm:∀o∈x.mB,o∉y.mB)(s:Fr×St):gT (x.ap (y.ap s)) (y.ap (x.ap s)):=by
 refine⟨fun t=>?_,fun o=>?_⟩
 ·simp only[Row.ap];by_cases h:x.o.dst=some t
  ·rw[AL (x:=y) (hd t h)];exact Jy (AL (hd t h))
  ·rw[AL (x:=x) h];exact Jy (AL h).symm
 ·simp only[Row.ap];by_cases h:o∈x.mB
  ·rw[uP (x:=y) (hm o h)];exact Jx (uP (hm o h))
  ·rw[uP (x:=x) h];exact Jx (uP h).symm
def full:List Row->Fr×St->Fr×St
 | [],s=>s
 |x::l,s=>full l (x.ap s)
def sel(AM:Nat->Bool):Nat->List Row->Fr×St->Fr×St
 | _,[],s=>s
 |i,x::l,s=>sel AM (i+1) l (bif AM i then x.ap s else s)
theorem QN{AM:Nat->Bool}:∀(l:List Row)(i:Nat)(s s':Fr×St),gT s s'->gT (sel AM i l s) (sel AM i l s')
 | [],_,_,_,h=>h
 |x::l,i,s,s',h=>by
  simp only[sel];cases AM i with
  |true=>exact QN l _ _ _ (h.ap x)
  |false=>exact QN l _ _ _ h
theorem QO{AM:Nat->Bool}:∀(l1 l2:List Row)(i:Nat)(s:Fr×St),sel AM i (l1++l2) s=sel AM (i+l1.length) l2 (sel AM i l1 s)
 | [],_,_,_=>rfl
 |x::l1,l2,i,s=>by simp only[List.cons_append,sel,List.length_cons];rw[QO l1 l2 (i+1)];congr 1;omega
theorem QS{AM L':Nat->Bool}:∀(l:List Row)(i:Nat)(s:Fr×St),(∀k,i<=k->k<i+l.length->AM k=L' k)->sel AM i l s=sel L' i l s
 | [],_,_,_=>rfl
 |x::l,i,s,h=>by simp only[sel];rw[h i (ae _) B5];exact QS l _ _ fun k U X=>h k M (by simp at X ⊢; omega)
theorem d1a{AM:Nat->Bool}:∀(l:List Row)(i:Nat)(s:Fr×St),(∀k,i<=k->k<i+l.length->AM k=true)->sel AM i l s=full l s
 | [],_,_,_=>rfl
 |x::l,i,s,h=>by simp only[sel,full];rw[h i (ae _) B5,cond_true];exact d1a l _ _ fun k U X=>h k M (by simp at X ⊢; omega)
theorem d1b{AM:Nat->Bool}:∀(l:List Row)(i:Nat)(s:Fr×St),(∀k,i<=k->k<i+l.length->AM k=false)->sel AM i l s=s
 | [],_,_,_=>rfl
 |x::l,i,s,h=>by simp only[sel];rw[h i (ae _) B5,cond_false];exact d1b l _ _ fun k U X=>h k M (by simp at X ⊢; omega)
theorem d1c{AM:Nat->Bool}{x:Row}:∀(l:List Row)(i:Nat)(s:Fr×St),
 (∀k (h:k<l.length),AM (i+k)=true->(∀t,x.o.dst=some t->(l[k]).o.dst≠some t)/\∀o∈x.mB,o∉ (l[k]).mB)->gT (sel AM i l (x.ap s)) (x.ap (sel AM i l s))
 | [],_,s,_=>gT.refl _
 |y::l,i,s,h=>by
  have hl:∀s,gT (sel AM (i+1) l (x.ap s)) (x.ap (sel AM (i+1) l s)):=fun s=>d1c l (i+1) s fun k S hL=>by have:=h (k+1) (by simpa using S) (by rw[<-hL];congr 1;omega);simpa using this
  simp only[sel];cases hL:AM i with
  |false=>exact hl s
  |true=>simp only[cond_true];have⟨U,X⟩:=h 0 B5 hL;exact(QN l (i+1) _ _ (i3F U X s).symm).trans (hl (y.ap s))
theorem d1d{AM:Nat->Bool}{t:Nat}:∀(l:List Row)(i:Nat)(s:Fr×St),(∀k (h:k<l.length),AM (i+k)=true->(l[k]).o.dst≠some t)->(sel AM i l s).1.get t=s.1.get t
 | [],_,_,_=>rfl
 |y::l,i,s,h=>by
  have hl:∀s,(sel AM (i+1) l s).1.get t=s.1.get t:=fun s=>d1d l (i+1) s fun k S hL=>by have:=h (k+1) (by simpa using S) (by rw[<-hL];congr 1;omega);simpa using this
  simp only[sel];rw[hl];cases hL:AM i with
  |false=>rfl
  |true=>exact AL (h 0 B5 hL)
theorem QT{AM:Nat->Bool}{o:Nat}:∀(l:List Row)(i:Nat)(s:Fr×St),(∀k (h:k<l.length),AM (i+k)=true->o∉ (l[k]).mB)->(sel AM i l s).2[o]? =s.2[o]?
 | [],_,_,_=>rfl
 |y::l,i,s,h=>by
  have hl:∀s,(sel AM (i+1) l s).2[o]? =s.2[o]? :=fun s=>QT l (i+1) s fun k S hL=>by have:=h (k+1) (by simpa using S) (by rw[<-hL];congr 1;omega);simpa using this
  simp only[sel];rw[hl];cases hL:AM i with
  |false=>rfl
  |true=>exact uP (h 0 B5 hL)
theorem d1e{AM:Nat->Bool}{t:Nat}:∀(l:List Row)(i:Nat)(s s':Fr×St),s.1.get t=s'.1.get t->(∀k (h:k<l.length),AM (i+k)=false->(l[k]).o.dst≠some t)->(sel AM i l s).1.get t=(full l s').1.get t
 | [],_,_,_,h,_=>h
 |y::l,i,s,s',he,h=>by
  simp only[sel,full];refine d1e l (i+1) _ _ ?_ fun k S hL=>by have:=h (k+1) (by simpa using S) (by rw[<-hL];congr 1;omega);simpa using this
  cases hL:AM i with
  |true=>exact Jy he
  |false=>exact he.trans (AL (h 0 B5 hL)).symm
theorem d1f{AM:Nat->Bool}{o:Nat}:∀(l:List Row)(i:Nat)(s s':Fr×St),s.2[o]? =s'.2[o]? ->(∀k (h:k<l.length),AM (i+k)=false->o∉ (l[k]).mB)->(sel AM i l s).2[o]? =(full l s').2[o]?
 | [],_,_,_,h,_=>h
 |y::l,i,s,s',he,h=>by
  simp only[sel,full];refine d1f l (i+1) _ _ ?_ fun k S hL=>by have:=h (k+1) (by simpa using S) (by rw[<-hL];congr 1;omega);simpa using this
  cases hL:AM i with
  |true=>exact Jx he
  |false=>exact he.trans (uP (h 0 B5 hL)).symm
def Trace(P:Program)(gl:Gl)(N:Nat)(ops:Array Oper)(b:Nat):List Row->Fr×St->Prop
 | [],_=>True
 |x::l,s=>Fits P gl N ops b x s.1 s.2/\Trace P gl N ops b l (x.ap s)
def Ord(ops:Array Oper)(i j:Nat):Prop:=
 ∀AM:Nat->Bool,(∀k o,AM k=true->ops[k]? =some o->∀e∈o.after,j5 .any e=true->AM e.on=true)->
  (∀o,ops[j]? =some o->∀e∈o.after,j5 .any e=true->AM e.on=true)->AM i=true
def QU(ops:Array Oper)(x y:Row):Prop:=IH ops x.o y.o=true/\(∀o∈x.wr,o∉y.rd)/\∀o∈y.wr,o∉x.rd
structure Good(P:Program)(gl:Gl)(N:Nat)(ops:Array Oper)(b:Nat)(rows:List Row)(Y:Fr×St):Prop where
 hO:ops.toList=rows.map (·.o)
 tr:Trace P gl N ops b rows Y
 qs:∀i j (u:i<rows.length) (L:j<rows.length),i≠j->needs (rows[i]).o.op=true->needs (rows[j]).o.op=true->(rows[i]).q≠(rows[j]).q
 kept:∀x∈rows,needs x.o.op=true->Y.2[x.q]? =some (some .resv)/\b<=x.q
 fwd:∀i o,ops[i]? =some o->∀e∈o.after,j5 .any e=true->e.on<i
 ind:∀i j (u:i<rows.length) (L:j<rows.length),i<j->Ord ops i j\/QU ops (rows[i]) (rows[j])
section
variable {P:Program} {gl:Gl} {N b:Nat} {ops:Array Oper} {w0:World} {μ0:Mu} {st0:St} {rows:List Row} {Y:Fr×St} {BE:Exit->Act->World->Prop}
theorem yh{x:Row}(h:kV x.r/\∀p∈x.ups,p.1∈x.r.rd){o:Nat}(ho:o∈x.wr):o∈x.rd:=by
 unfold Row.wr at ho;unfold Row.rd;cases hG:x.G with
 |false=>rw[hG]at ho;cases ho
 |true=>
  rw[hG]at ho;simp only[cond_true,al]at ho⊢;rcases ho with ho|ho
  ·cases hu:x.r.up with
   |none=>rw[hu]at ho;cases ho
   |some p=>rw[hu]at ho;simp only[List.mem_singleton]at ho;exact h.1 o p.2 (by rw[hu,ho])
  ·grind
theorem yj{x:Row}{o:Nat}(h:o∈x.mB):o∈x.wr\/(o=x.q/\x.r.new≠none):=by
 unfold Row.mB at h;rcases al.1 h with h|h
 ·exact .inl h
 ·grind
theorem Em:∀(l1:List Row) {x:Row} {l2:List Row} {s:Fr×St},Trace P gl N ops b (l1++x::l2) s->Fits P gl N ops b x (full l1 s).1 (full l1 s).2
 | [],_,_,_,h=>h.1
 | _::l1,_,_,_,h=>Em l1 h.2
theorem d1g:∀(l1 l2:List Row)(s:Fr×St),Trace P gl N ops b (l1++l2) s->(∀x∈l1,∀y∈l2,needs x.o.op=true->needs y.o.op=true->x.q≠y.q)->
 (∀y∈l2,needs y.o.op=true->s.2[y.q]? =some (some .resv))->∀y∈l2,needs y.o.op=true->(full l1 s).2[y.q]? =some (some .resv)
 | [],_,_,_,_,h=>h
 |x::l1,l2,s,F,hq,h=>by
  refine d1g l1 l2 (x.ap s) F.2 (fun z hz=>hq z (by simp[hz])) fun y hy hn=>?_;have:y.q∉x.mB:=fun hm=>by
   rcases yj hm with hm|⟨e,hm⟩
   ·have⟨ob,U,X⟩:=QM F.1 _ (yh F.1.kV hm);rw[h y hy hn]at U;cases U;exact X rfl
   ·exact hq x B5 y hy (F.1.makes hm) hn e.symm
  simp only[Row.ap];rw[uP this];exact h y hy hn
def cnt(AM:Nat->Bool):Nat->Nat
 |0=>0
 |n+1=>cnt AM n+(bif AM n then 0 else 1)
theorem d1h{AM:Nat->Bool}:∀ {n:Nat},cnt AM n=0->∀k,k<n->AM k=true
 |n+1,h,k,S=>by
  simp only[cnt]at h;cases hL:AM n with
  |false=>simp[hL]at h
  |true=>
   rcases il k n with hk'|hk'
   ·exact d1h (by simp[hL]at h;exact h) k hk'
   ·grind
theorem d1i{AM L':Nat->Bool}:∀ {n:Nat},(∀k,k<n->AM k=L' k)->cnt AM n=cnt L' n
 |0,_=>rfl
 |n+1,h=>by simp only[cnt];rw[d1i fun k S=>h k M,h n M]
theorem d1j{AM L':Nat->Bool}{i:Nat}(u:AM i=false)(hi':L' i=true)(hs:∀k,k≠i->AM k=L' k):∀ {n:Nat},i<n->cnt L' n+1=cnt AM n
 |n+1,h=>by
  simp only[cnt];rcases il i n with U|U
  ·rw[<-d1j u hi' hs U,hs n M];omega
  ·have:i=n:=by omega
   subst this;rw[u,hi',d1i (AM:=L') (L':=AM) fun k S=>(hs k M).symm];simp
def R6(listed:Array Bool)(i:Nat):Bool:=listed.getD i false
theorem i3G{s s':Fr×St}{a:Act}{w:World}{μ:Mu}(h:gT s s')(K:bp gl N w0 μ0 st0 s.1 s.2 a w μ):bp gl N w0 μ0 st0 s'.1 s'.2 a w μ:=by have e:s.2=s'.2:=A4 h.2;rw[e]at K;exact⟨K.bU,K.glob,fun t=>by rw[<-h.1 t];exact K.fr t,K.size,K.defers,K.step⟩
set_option maxHeartbeats 1000000 in
theorem i3H(hg:Good P gl N ops b rows Y)(hQ:∀a w μ,bp gl N w0 μ0 st0 (full rows Y).1 (full rows Y).2 a w μ->BE .normal a w):
 ∀(fuel:Nat)(listed:Array Bool)(a:Act)(w:World)(μ:Mu),listed.size=rows.length->cnt (R6 listed) rows.length<=fuel->
  (∀k o,R6 listed k=true->ops[k]? =some o->∀e∈o.after,j5 .any e=true->R6 listed e.on=true)->
  (∀i j (u:i<rows.length) (L:j<rows.length),R6 listed j=true->R6 listed i=false->needs (rows[i]).o.op=true->(rows[i]).q∉ (rows[j]).rd)->
  bp gl N w0 μ0 st0 (sel (R6 listed) 0 rows Y).1 (sel (R6 listed) 0 rows Y).2 a w μ->wpAny P .any ops BE fuel listed a w:=by
 have hsz:ops.size=rows.length:=by have:=congrArg List.length hg.hO;simpa using this
 have qD:∀i (h:i<rows.length),ops[i]? =some (rows[i]).o:=fun i h=>by
  have:ops.toList[i]? =(rows.map (·.o))[i]? :=by rw[hg.hO]
  simpa[h]using this
 have hall:∀(listed:Array Bool)(a:Act)(w:World)(μ:Mu),(∀k,k<rows.length->R6 listed k=true)->
  bp gl N w0 μ0 st0 (sel (R6 listed) 0 rows Y).1 (sel (R6 listed) 0 rows Y).2 a w μ->BE .normal a w:=fun listed a w μ h K=>by
  rw[d1a rows 0 Y fun k _ S=>h k M]at K
  exact hQ a w μ K
 have QV:∀(listed:Array Bool)(i:Nat),listed.size=rows.length->(i∈sn .any ops listed↔i<rows.length/\R6 listed i=false/\∀o,ops[i]? =some o->∀e∈o.after,j5 .any e=true->R6 listed e.on=true):=by
  intro listed i hls;unfold sn;simp only[List.mem_filter,EQ,hsz];constructor
  ·rintro⟨U,X⟩;rw[qD i U]at X⊢;simp only[kx,nf,ie,l5,s7]at X;refine⟨U,?_,fun o ho e he H=>?_⟩
   ·have:=X.1;unfold R6;simp[ca, hls,U]at this⊢;exact this
   ·cases ho;have:=X.2 e he;simp only[rl,l5,H,Bool.true_eq_false,false_or]at this;exact this
  ·rintro⟨U,X,h3⟩;refine⟨U,?_⟩;rw[qD i U]at h3⊢;simp only[kx,nf,ie,l5,s7];refine⟨?_,fun e he=>?_⟩
   ·unfold R6 at X;simp[ca, hls,U]at X⊢;exact X
   ·cases H:j5 .any e with
    |false=>simp
    |true=>have:=h3 _ rfl e he H;unfold R6 at this;rw[this];rfl
 have hnone:∀(listed:Array Bool),listed.size=rows.length->sn .any ops listed=[]->∀k,k<rows.length->R6 listed k=true:=by
  intro listed hls hr k;induction k using Nat.strongRecOn with
  | _ k ih=>
   intro S;cases hL:R6 listed k with
   |true=>rfl
   |false=>
    exfalso;have:k∈sn .any ops listed:=(QV listed k hls).2 ⟨S,hL,fun o ho e he H=>by have:=hg.fwd k o ho e he H;exact ih e.on this M⟩
    rw[hr]at this;cases this
 intro fuel
 induction fuel with
 |zero=>intro listed a w μ hls K hcl hh T4;have ha:=d1h (Nat.le_zero.1 K);refine⟨?_,hall listed a w μ ha T4⟩;rw[ns];intro i u;have⟨U,X,_⟩:=(QV listed i hls).1 u;rw[ha i U]at X;cases X
 |succ fuel ih=>
  intro listed a w μ hls K hcl hh T4;refine⟨fun hr=>hall listed a w μ (hnone listed hls hr) T4,fun i u=>?_⟩;have⟨dx,AO,Jz⟩:=(QV listed i hls).1 u;generalize A:rows[i]=x;have jZ:rows=rows.take i++x::rows.drop (i+1):=by rw[<-A,my,ew]
  have JA:(rows.take i).length=i:=by simp;omega
  have d1k:∀k (S:k<i),R6 listed k=false->QU ops (rows[k]'(by omega)) x:=fun k S hL=>by
   rcases hg.ind k i M dx S with h|h
   ·have:=h (R6 listed) hcl Jz;rw[this]at hL;cases hL
   ·rw[A]at h;exact h
  have QW:∀k (S:i<k) (hkl:k<rows.length),R6 listed k=true->QU ops x (rows[k]):=fun k S hkl hL=>by
   rcases hg.ind i k dx hkl S with h|h
   ·have:=h (R6 listed) hcl (fun o ho=>hcl k o hL ho);rw[this]at AO;cases AO
   ·rw[A]at h;exact h
  have En:Fits P gl N ops b x (full (rows.take i) Y).1 (full (rows.take i) Y).2:=by have F:=hg.tr;rw[jZ]at F;exact Em _ F
  have i3I:∀k (S:i<=k) (hkl:k<rows.length),needs (rows[k]).o.op=true->(full (rows.take i) Y).2[(rows[k]).q]? =some (some .resv):=fun k S hkl hn=>by
   refine d1g (P:=P) (gl:=gl) (N:=N) (ops:=ops) (rows.take i) (rows.drop i) Y (by rw[ew];exact hg.tr) (fun z hz y hy U X=>?_) (fun y hy hn=>(hg.kept y (List.mem_of_mem_drop hy) hn).1) _ ?_ hn
   ·have⟨a',ha',e1⟩:=gz hz;have⟨b',hb',e2⟩:=gz hy;simp only[k8]at e1;simp only[io]at e2;simp only[db]at ha';simp only[iv]at hb';have:=hg.qs a' (i+b') M M M;rw[e1,e2]at this;exact this U X
   ·have:rows[k]=(rows.drop i)[k-i]'(by simp;omega):=by rw[io];congr 1;omega
    rw[this];exact bt _
  have d1l:∀j (h:j<rows.length),kV (rows[j]).r/\∀p∈(rows[j]).ups,p.1∈(rows[j]).r.rd:=fun j h=>by
   have F:=hg.tr;have e:rows=rows.take j++rows[j]::rows.drop (j+1):=by rw[my,ew]
   rw[e]at F;exact(Em _ F).kV
  have qB:∀j (h:j<rows.length),(rows[j]).r.new≠none->needs (rows[j]).o.op=true:=fun j h=>by
   have F:=hg.tr;have e:rows=rows.take j++rows[j]::rows.drop (j+1):=by rw[my,ew]
   rw[e]at F;exact(Em _ F).makes
  have hR:∀k (S:k<rows.length),R6 listed k=false->needs (rows[k]).o.op=true->(sel (R6 listed) 0 rows Y).2[(rows[k]).q]? =some (some .resv):=fun k S hL hn=>by
   rw[QT rows 0 Y]
   ·exact(hg.kept _ (bt _) hn).1
   ·intro j L uQ hm;rw[dq]at uQ;rcases yj hm with hm|⟨e,hm⟩
    ·exact hh k j S L uQ hL hn (yh (d1l j L) hm)
    ·have hne:k≠j:=fun e=>by subst e;rw[hL]at uQ;cases uQ
     exact hg.qs k j S L hne hn (qB j L hm) e
  have hsel:sel (R6 listed) 0 rows Y=sel (R6 listed) (i+1) (rows.drop (i+1)) (sel (R6 listed) 0 (rows.take i) Y):=by
   conv=>lhs;rw[jZ]
   rw[QO,JA];simp only[sel,dq,AO,cond_false]
  have d1m:∀t∈x.o.looksAt ops,(sel (R6 listed) 0 rows Y).1.get t=(full (rows.take i) Y).1.get t:=fun t F=>by
   rw[hsel,d1d]
   ·refine d1e _ _ _ _ rfl fun k S hL hd=>?_;simp only[db]at S;rw[dq]at hL;simp only[k8]at hd;exact(uC (d1k k M hL).1).1 t hd F
   ·intro k S hL hd;simp only[iv]at S;simp only[io]at hd;exact(uC (QW (i+1+k) M M hL).1).2.2 t hd F
  have jd:∀o∈x.rd,∀k (S:k<rows.length),R6 listed k=false->needs (rows[k]).o.op=true->o≠(rows[k]).q:=fun o ho k S hL hn e=>by
   rcases i3D T4 En d1m o ho with h|h
   ·rw[e]at h;exact h (hR k S hL hn)
   ·have:=(hg.kept _ (bt S) hn).2;omega
  have i3J:=QM En;have d1n:∀o∈x.rd,∀k (S:i<k) (hkl:k<rows.length),R6 listed k=true->o∉ (rows[k]).mB:=fun o ho k S hkl hL hm=>by
   rcases yj hm with hm|⟨e,hm⟩
   ·exact(QW k S hkl hL).2.2 o hm ho
   ·have⟨ob,U,X⟩:=i3J o ho;rw[e,i3I k M hkl (qB k hkl hm)]at U;cases U;exact X rfl
  have i3K:∀o∈x.rd,(sel (R6 listed) 0 rows Y).2[o]? =(full (rows.take i) Y).2[o]? :=fun o ho=>by
   rw[hsel];have e2:(sel (R6 listed) (i+1) (rows.drop (i+1)) (sel (R6 listed) 0 (rows.take i) Y)).2[o]? =(sel (R6 listed) 0 (rows.take i) Y).2[o]? :=QT _ _ _ fun k S hL=>by simp only[iv]at S;simp only[io];exact d1n o ho (i+1+k) M M hL
   rw[e2];refine d1f _ _ _ _ rfl fun k S hL hm=>?_;simp only[db]at S;rw[dq]at hL;simp only[k8]at hm;rcases yj hm with hm|⟨e,hm⟩
   ·exact(d1k k M hL).2.1 o hm ho
   ·exact jd o ho k M hL (qB k M hm) e
  have i3L:Fits P gl N ops b x (sel (R6 listed) 0 rows Y).1 (sel (R6 listed) 0 rows Y).2:=
   i3E En d1m (fun o ho=>by unfold look;rw[i3K o ho]) (fun hn=>by have:=hR i dx AO (by rw[A];exact hn);rw[A]at this;exact this)
  have hL':∀k,R6 (listed.setIfInBounds i true) k=if k=i then true else R6 listed k:=fun k=>by
   unfold R6;by_cases e:k=i
   ·subst e;rw[if_pos rfl];simp[ca, hls,dx]
   ·rw[if_neg e];simp[ca, Array.getElem?_setIfInBounds_ne (Ne.symm e)]
  unfold wpOp;rw[qD i dx,A];refine i3B T4 i3L fun a' w' μ' hc'=>?_;refine ih _ a' w' μ' (by simpa using hls) ?_ ?_ ?_ ?_
  ·have:=d1j (AM:=R6 listed) (L':=R6 (listed.setIfInBounds i true)) AO (by rw[hL',if_pos rfl]) (fun k S=>by rw[hL',if_neg S]) dx;omega
  ·intro k o S ho e he H;rw[hL']at S⊢;split
   ·rfl
   ·by_cases hki:k=i
    ·subst hki;exact Jz o ho e he H
    ·rw[if_neg hki]at S;exact hcl k o S ho e he H
  ·intro k j S L uQ AP hn;rw[hL']at uQ AP;have hki:k≠i:=fun e=>by rw[if_pos e]at AP;cases AP
   rw[if_neg hki]at AP;by_cases hji:j=i
   ·subst hji;rw[A];intro hm;exact jd _ hm k S AP hn rfl
   ·rw[if_neg hji]at uQ;exact hh k j S L uQ AP hn
  ·refine i3G (s:=x.ap (sel (R6 listed) 0 rows Y)) ?_ hc';have e1:sel (R6 (listed.setIfInBounds i true)) 0 rows Y=sel (R6 listed) (i+1) (rows.drop (i+1)) (x.ap (sel (R6 listed) 0 (rows.take i) Y)):=by
    conv=>lhs;rw[jZ]
    rw[QO,JA];simp only[sel,dq];rw[hL',if_pos rfl,cond_true];rw[QS (L':=R6 listed) (rows.take i) 0 Y fun k _ S=>by simp only[db]at S;rw[hL',if_neg M]]
    exact QS _ _ _ fun k S _=>by rw[hL',if_neg M]
   rw[e1,hsel];refine(d1c _ _ _ fun k S hL=>?_).symm;simp only[iv]at S;simp only[io];have hI:=QW (i+1+k) M M hL;refine⟨(uC hI.1).2.1,fun o ho hm=>?_⟩;rcases yj ho with ho|⟨e,ho⟩
   ·exact d1n o (yh En.kV ho) (i+1+k) M M hL hm
   ·have hn:=En.makes ho;rcases yj hm with hm|⟨e',hm⟩
    ·have:=hh i (i+1+k) dx M hL AO (by rw[A];exact hn);rw[A, <-e]at this;exact this (yh (d1l _ M) hm)
    ·have:=hg.qs i (i+1+k) dx M M (by rw[A];exact hn) (qB _ M hm);rw[A]at this;exact this (e.symm.trans e')
end
abbrev Log:=List (List Nat×List Nat)
def QX(rd up:List Nat):Log->Prop
 | []=>True
 |(rd',up')::l=>(∀o∈up,o∉rd')/\(∀o∈up',o∉rd)/\QX rd up l
def uR:Log->Prop
 | []=>True
 |(rd,up)::l=>QX rd up l/\uR l
def JB(r:LR):List Nat:=match r.up with|some (o,_)=>[o]|none=>[]
def iA(tr:Bool)(lg:Log)(r:LR)(ups:List (Nat×Ob)):Log:=bif tr then lg++[(r.rd,JB r++ups.map (·.1))]else lg
def yp(N q:Nat)(tr:Bool)(dst:Option Nat)(lg:Log)(fr:Fr)(st:St)(k:Log->Fr->St->Prop)(r:LR):Prop:=
 r.ok/\eJ N dst/\k (iA tr lg r []) (fr.U3 dst r.d) (r.app q st)
def yq(P:Program)(gl:Gl)(b:Nat)(tr:Bool)(dst:Option Nat)(lg:Log)(fr:Fr)(st:St)(k:Log->Fr->St->Prop)(g:FuncId)(args:List D):Prop:=
 ∃r rd ups,Jw P gl g args rd st r ups/\(∀p∈ups,p.1∈rd)/\(∀o∈rd,(o<b\/∃e∈args,e.top=some o)/\∃ob,look st o=some ob/\ob≠ .resv)/\(tr=false->rd=[])/\k (iA tr lg ⟨r,True,rd,none,none⟩ ups) (fr.U3 dst r) (puts st ups)
def Eo(P:Program)(gl:Gl)(b:Nat)(G tr:Bool)(dst:Option Nat)(lg:Log)(fr:Fr)(st:St)(k:Log->Fr->St->Prop)(g:FuncId)(args:List D):Prop:=
 ∃r rd ups,(G=true->Jw P gl g args rd st r ups)/\(∀p∈ups,p.1∈rd)/\(∀o∈rd,(o<b\/∃e∈args,e.top=some o)/\∃ob,look st o=some ob/\ob≠ .resv)/\(tr=false->rd=[])/\(G=false->puts st ups=st)/\k (iA tr lg ⟨r,True,rd,none,none⟩ ups) (fr.U3 dst (.cond G r)) (puts st ups)
def JC(P:Program)(gl:Gl)(N b:Nat)(tr:Bool)(dst:Option Nat)(lg:Log)(fr:Fr)(st:St)(k:Log->Fr->St->Prop)(ok:Prop)(f:D)(args:List D):Prop:=
 match f with
 | .fn g first cap=>eJ N dst/\ok/\yq P gl b tr dst lg fr st k g (first++args++cap)
 | _=>False
def Ep(N q:Nat)(G:Bool)(tr:Bool)(dst:Option Nat)(lg:Log)(fr:Fr)(st:St)(k:Log->Fr->St->Prop)(r:LR):Prop:=
 L1 G r.ok/\eJ N dst/\k (iA tr lg r []) (fr.U3 dst (.cond G r.d)) (bif G then r.app q st else st)
def JD(P:Program)(gl:Gl)(N b:Nat)(G:Bool)(tr:Bool)(dst:Option Nat)(lg:Log)(fr:Fr)(st:St)(k:Log->Fr->St->Prop)(ok:Prop)(f:D)(args:List D):Prop:=
 match f with
 | .fn g first cap=>eJ N dst/\ok/\Eo P gl b G tr dst lg fr st k g (first++args++cap)
 | _=>False
def AU(P:Program)(gl:Gl)(N b q:Nat)(tr:Bool)(k k1:Log->Fr->St->Prop)(dst:Option Nat)(op:Op)(lg:Log)(fr:Fr)(st:St):Nat->Prop
 |0=>yp N q tr dst lg fr st k (G2 P gl true op fr (look st) q)
 |1=>yp N q tr dst lg fr st k1 (G2 P gl true op fr (look st) q)
 | _=>match op with
  | .call ⟨.value f,args,_⟩=>JC P gl N b tr dst lg fr st k (K5 gl true fr f/\(∀x∈args.toList,K5 gl true fr x)) (F2 gl fr f) (args.toList.map (F2 gl fr))
  | _=>False
def yr(P:Program)(gl:Gl)(N b q:Nat)(tr:Bool)(k k1:Log->Fr->St->Prop)(dst:Option Nat)(op:Op)(lg:Log)(fr:Fr)(st:St):Nat->Option Bool->Prop
 |0,some G=>Ep N q G tr dst lg fr st k (G2 P gl G op fr (look st) q)
 |1,some G=>Ep N q G tr dst lg fr st k1 (G2 P gl G op fr (look st) q)
 |2,some G=>match op with
  | .call ⟨.value f,args,_⟩=>JD P gl N b G tr dst lg fr st k (K5 gl G fr f/\(∀x∈args.toList,K5 gl G fr x)) (F2 gl fr f) (args.toList.map (F2 gl fr))
  | _=>False
 | _,_=>False
def dG(P:Program)(gl:Gl)(N:Nat)(ops:Array Oper)(b:Nat)(J4:List Nat)(yo:Fr->St->Prop):List Oper->Nat->Nat->Log->Fr->St->Prop
 | [],_,_,lg,fr,st=>uR lg/\yo fr st
 |⟨dst,op,_,_,_,none⟩::l,i,k,lg,fr,st=>AU P gl N b (b+k) (J4.contains i) (dG P gl N ops b J4 yo l (i+1) k) (dG P gl N ops b J4 yo l (i+1) (k+1)) dst op lg fr st (dD op)
 |⟨dst,op,_,_,_,some (j,want)⟩::l,i,k,lg,fr,st=>yr P gl N b (b+k) (J4.contains i) (dG P gl N ops b J4 yo l (i+1) k) (dG P gl N ops b J4 yo l (i+1) (k+1)) dst op lg fr st (dD op) (rY fr want (gslot ops j))
def uS:Op->Bool
 | .load _ _| .store _ _ _| .indexAddr _ _ _| .slice _ _ _ _ _| .lookup _ _ _ _| .mapUpdate _ _ _ _| .insert _ _ _ _| .next _ _| .call { callee:=.builtin .len,.. }| .call { callee:=.builtin .append,.. }=>true
 | _=>false
def AV:Op->Bool
 | .store _ _ _| .mapUpdate _ _ _ _| .insert _ _ _ _| .next _ _| .call { callee:=.builtin .append,.. }=>true
 | _=>false
def qE(J4:List Nat)(i:Nat)(o:Op):Bool:=(gb o).isSome&&J4.contains i
def QY(bV:List Nat)(o:Oper):Nat:=o.after.toList.foldl (fun s e=>bif j5 .any e then s|||2^e.on|||bV.getD e.on 0 else s) 0
def masks:List Oper->List Nat->List Nat
 | [],bV=>bV
 |o::l,bV=>masks l (bV++[QY bV o])
def d1q(ops:Array Oper)(J4:List Nat)(m i j:Nat):Bool:=
 mn m i||(match ops[i]?, ops[j]? with
  |some x,some y=>IH ops x y&&((!((AV x.op||qE J4 i x.op)&&(uS y.op||qE J4 j y.op))&& !((AV y.op||qE J4 j y.op)&&(uS x.op||qE J4 i x.op)))||(J4.contains i&&J4.contains j))
  | _,_=>false)
def Es(ops:Array Oper)(J4:List Nat):Bool:=
 let bV:=masks ops.toList []
 (ol ops.size).all fun j=>
  (match ops[j]? with|some o=>o.after.toList.all fun e=> !j5 .any e||Nat.blt e.on j|none=>true)&&
  (ol j).all fun i=>d1q ops J4 (bV.getD j 0) i j
theorem i3M{bV:List Nat}{o:Oper}(h:mn (QY bV o) j=true):∃e∈o.after,j5 .any e=true/\(e.on=j\/mn (bV.getD e.on 0) j=true):=by
 have key:∀(l:List Edge)(s:Nat),mn (l.foldl (fun s e=>bif j5 .any e then s|||2^e.on|||bV.getD e.on 0 else s) s) j=true->
  mn s j=true\/∃e∈l,j5 .any e=true/\(e.on=j\/mn (bV.getD e.on 0) j=true):=by
  intro l
  induction l with
  |nil=>intro s h;exact .inl h
  |cons e l ih=>grind
 rcases key _ 0 h with h|⟨e,U,X⟩
 ·simp at h
 ·grind
theorem d1r{ops:Array Oper}:∀(l:List Oper)(bV:List Nat),ops.toList.drop bV.length=l->
 (∀j,j<bV.length->∀i,mn (bV.getD j 0) i=true->Ord ops i j)->∀j i,mn ((masks l bV).getD j 0) i=true->Ord ops i j
 | [],bV,_,h,j,i,H=>by
  rcases il j bV.length with L|L
  ·exact h j L i H
  ·simp only[masks]at H;rw[ac,rc L]at H;simp at H
 |o::l,bV,hl,h,j,i,H=>by
  simp only[masks]at H;have ho:ops[bV.length]? =some o:=by
   have:(ops.toList.drop bV.length)[0]? =some o:=by rw[hl];rfl
   simpa[List.getElem?_drop]using this
  refine d1r l (bV++[QY bV o]) ?_ ?_ j i H
  ·have:=congrArg List.tail hl;simpa[List.tail_drop]using this
  ·intro j L i H;rcases il j bV.length with hj'|hj'
   ·grind
   ·have:j=bV.length:=by simp at L;omega
    subst this;rw[ac,c8 (ae _)]at H;simp only[Nat.sub_self,q7,nf]at H;have⟨e,U,X,h3⟩:=i3M H;intro AM hcl Jz;have Ef:=Jz o ho e U X;rcases h3 with rfl|h3
    ·exact Ef
    ·rcases il e.on bV.length with hlt|hge
     ·exact h e.on hlt i h3 AM hcl fun o' ho' e' he' hb'=>hcl e.on o' Ef ho' e' he' hb'
     ·grind
section
variable {P:Program} {gl:Gl} {N:Nat} {ops:Array Oper} {fr:Fr} {st:St} {q:Nat} {g:Bool} {op:Op} {lk:Look}
theorem i3N(h:uS op=false):(G2 P gl g op fr lk q).rd=[]:=by
 cases op with
 |load|store|indexAddr|slice|lookup|mapUpdate|insert|next=>cases h
 |range t x=>exact QH
 |call c=>
  have⟨callee,args,dF⟩:=c;cases callee with
  |value f=>rfl
  |invoke r m=>rfl
  |builtin b=>
   cases b<;>first|(cases h;done)|skip
   all_goals
    simp only[G2]
    generalize args.toList=l
    generalize dF.toList=l'
    first|rfl|(split<;>first|contradiction|rfl|exact QE|exact QF|exact QD)
 |pick c a b=>exact QG
 |build t ps=>exact Qt
 |buildSlice t len ps=>simp only[G2];cases gl.M7 t<;>rfl
 |binOp o t x y C'=>simp only[G2];split<;>first|exact Qy|exact Qx
 |unOp o t x=>exact Qz
 |nilCheck x=>exact QA
 |convert s t x=>exact QB
 |makeFunc f a b=>cases f<;>rfl
 |makeMap t r=>cases r with
  |none=>exact QI
  |some r=>rfl
 |makeSlice t l c=>exact QJ
 |fieldAddr t x f=>exact Qv
 |field t x f=>exact Qu
 |index t x y=>exact Qw
 |extract x j=>exact QC
 | _=>rfl
theorem i3O(h:AV op=false)(hr:uS op=true):(G2 P gl g op fr lk q).up=none:=by
 cases op<;>first|(cases h;done)|(cases hr;done)|skip
 case load=>exact(Jd _ _ _).1
 case indexAddr=>exact(Je _ _ _ _ _).1
 case slice=>exact(Jf _ _ _ _ _ _ _).1
 case lookup=>exact(Jg _ _ _ _ _ _ _).1
 case call c=>
  have⟨callee,args,dF⟩:=c
  cases callee with
  |value f=>rfl
  |invoke r m=>rfl
  |builtin b=>
   cases b<;>first|(cases h;done)|(cases hr;done)|skip
   simp only[G2];generalize args.toList=l;generalize dF.toList=l';first|rfl|(split<;>first|contradiction|rfl|exact(Ei _ _ _).1|exact(Ej _ _).1)
theorem JE{b:Nat}{x:Row}(h:Fits P gl N ops b x fr st)(hr:uS x.o.op=false)(K:gb x.o.op≠none->x.r.rd=[]):x.rd=[]:=by
 unfold Row.rd;cases hG:x.G with
 |false=>rfl
 |true=>
  rcases h.does hG with⟨_,e,_⟩|⟨_,_,_,_,_,_,_,e,_⟩
  ·rw[e];exact i3N hr
  ·exact K (by rw[e];simp)
theorem d1s{b:Nat}{x:Row}(h:Fits P gl N ops b x fr st)(hw:AV x.o.op=false)(K:gb x.o.op≠none->x.r.rd=[]):x.wr=[]:=by
 cases hr:uS x.o.op with
 |false=>have:=JE h hr K;rw[ns];intro o ho;have:=yh h.kV ho;rw[JE h hr K]at this;cases this
 |true=>
  unfold Row.wr;cases hG:x.G with
  |false=>rfl
  |true=>
   rcases h.does hG with⟨_,e,_,_,hu⟩|⟨_,_,_,_,_,_,_,e,_⟩
   ·rw[e,i3O hw hr,hu];rfl
   ·rw[ns];intro o ho;have U:o∈x.wr:=by unfold Row.wr;rw[hG];exact ho
    have X:=yh h.kV U;unfold Row.rd at X;rw[hG,K (by rw[e];simp)]at X;cases X
end
def kW:List Oper->Nat
 | []=>0
 |o::l=>kW l+(bif needs o.op then 1 else 0)
def AW:Nat->List Row->Prop
 | _,[]=>True
 |q,x::l=>x.q=q/\AW (bif needs x.o.op then q+1 else q) l
def kX(J4:List Nat):Nat->List Row->Log
 | _,[]=>[]
 |i,x::l=>bif J4.contains i then(x.r.rd,JB x.r++x.ups.map (·.1))::kX J4 (i+1) l else kX J4 (i+1) l
def Et(J4:List Nat):Nat->List Row->Prop
 | _,[]=>True
 |i,x::l=>(J4.contains i=false->gb x.o.op≠none->x.r.rd=[])/\Et J4 (i+1) l
theorem d1t{J4:List Nat}:∀(l:List Row)(i j:Nat)(h:j<l.length),Et J4 i l->J4.contains (i+j)=false->gb (l[j]).o.op≠none->(l[j]).r.rd=[]
 |x::l,i,0,_,h,F,K=>h.1 (by simpa using F) K
 |x::l,i,j+1,L,h,F,K=>d1t l (i+1) j (by simpa using L) h.2 (by rw[<-F];congr 1;omega) K
section
variable {P:Program} {gl:Gl} {N:Nat} {ops:Array Oper} {b:Nat} {J4:List Nat} {yo:Fr->St->Prop} {w0:World} {μ0:Mu} {st0:St} {BE:Exit->Act->World->Prop}
theorem i3P{x:Row}{fr:Fr}{st:St}{q:Nat}(h:Fits P gl N ops b x fr st)(hq:st[q]? =some (some .resv))(hne:needs x.o.op=true->q≠x.q):(x.st st)[q]? =some (some .resv):=by
 rw[uP fun hm=>?_]
 ·exact hq
 ·rcases yj hm with hm|⟨e,hm⟩
  ·have⟨ob,U,X⟩:=QM h _ (yh h.kV hm);rw[hq]at U;cases U;exact X rfl
  ·exact hne (h.makes hm) e
theorem AX{o:Oper}{l:List Oper}{i:Nat}{lg:Log}{fr:Fr}{st:St}(x:Row)(A:x.o=o)(hq:x.q=b+k)(hf:Fits P gl N ops b x fr st)(dP:J4.contains i=false->gb x.o.op≠none->x.r.rd=[])
 (S:∀m,k<=m->m<k+kW (o::l)->st[b+m]? =some (some .resv))
 (ih:(∀m,(bif needs o.op then k+1 else k)<=m->m<(bif needs o.op then k+1 else k)+kW l->(x.st st)[b+m]? =some (some .resv))->
  ∃rows:List Row,rows.map (·.o)=l/\AW (b+(bif needs o.op then k+1 else k)) rows/\Trace P gl N ops b rows (x.ap (fr,st))/\yo (full rows (x.ap (fr,st))).1 (full rows (x.ap (fr,st))).2/\uR (iA (J4.contains i) lg x.r x.ups++kX J4 (i+1) rows)/\Et J4 (i+1) rows):
 ∃rows:List Row,rows.map (·.o)=o::l/\AW (b+k) rows/\Trace P gl N ops b rows (fr,st)/\yo (full rows (fr,st)).1 (full rows (fr,st)).2/\uR (lg++kX J4 i rows)/\Et J4 i rows:=by
 have⟨rows,U,X,h3,h4,h5,h6⟩:=ih fun m U X=>by
  refine i3P hf (S m ?_ ?_) fun hn=>?_
  ·grind
  ·simp only[kW];cases hn:needs o.op<;>simp[hn]at X⊢ <;>omega
  ·grind
 refine⟨x::rows,by simp[A,U],⟨hq,?_⟩,⟨hf,h3⟩,h4,?_,dP,h6⟩
 ·grind
 ·simp only[kX];unfold iA at h5;cases F:J4.contains i with
  |false=>rw[F]at h5;exact h5
  |true=>grind
set_option maxHeartbeats 1000000 in
theorem yt:∀(l:List Oper)(i k:Nat)(lg:Log)(fr:Fr)(st:St),dG P gl N ops b J4 yo l i k lg fr st->
 (∀m,k<=m->m<k+kW l->st[b+m]? =some (some .resv))->
 ∃rows:List Row,rows.map (·.o)=l/\AW (b+k) rows/\Trace P gl N ops b rows (fr,st)/\yo (full rows (fr,st)).1 (full rows (fr,st)).2/\uR (lg++kX J4 i rows)/\Et J4 i rows
 | [],i,k,lg,fr,st,h,_=>⟨[],rfl,trivial,trivial,h.2,by simpa[kX]using h.1,trivial⟩
 |⟨dst,op,ty,pos,af,none⟩::l,i,k,lg,fr,st,h,S=>by
  simp only[dG]at h;by_cases h0:dD op=0
  ·rw[h0]at h;have⟨U,X⟩:=(yd op).1 h0;have⟨a,c,d⟩:=h;refine AX ⟨_,b+k,true,G2 P gl true op fr (look st) (b+k),[]⟩ rfl rfl ⟨c,trivial,rfl,⟨Jv,fun _ h=>(by cases h)⟩,fun _=>.inl ⟨U,rfl,a,(fun hn=>by rw[X]at hn;cases hn),rfl⟩,fun hn=>absurd (Qm X) hn⟩ (fun _ K=>absurd U K) S ?_;rw[X];exact fun hk'=>yt l _ _ _ _ _ d hk'
  ·by_cases h1':dD op=1
   ·rw[h1']at h;have⟨U,X⟩:=(yd op).2 h1';have⟨a,c,d⟩:=h;refine AX ⟨_,b+k,true,G2 P gl true op fr (look st) (b+k),[]⟩ rfl rfl ⟨c,trivial,rfl,⟨Jv,fun _ h=>(by cases h)⟩,fun _=>.inl ⟨U,rfl,a,fun hn=>S k (ae _) ?_,rfl⟩,fun _=>X⟩ (fun _ K=>absurd U K) S ?_
    ·simp only[kW,X,cond_true];omega
    ·rw[X];exact fun hk'=>yt l _ _ _ _ _ d hk'
   ·obtain⟨f,args,dF,rfl⟩:=Js h0 h1';simp only[dD,AU,JC]at h;cases hf:F2 gl fr f<;>rw[hf]at h<;>first|exact h.elim|skip
    have⟨a,⟨c,d⟩,r,rd,ups,hp,hu,hrd,QZ,e⟩:=h;refine AX ⟨_,b+k,true,⟨r,True,rd,none,none⟩,ups⟩ rfl rfl ⟨a,trivial,rfl,⟨iz rfl,hu⟩,fun _=>.inr ⟨f,args.toList,_,_,_,r,rd,rfl,c,d,hf,hp,rfl,fun o ho=>⟨(hrd o ho).1,let ⟨ob,U,X⟩:=(hrd o ho).2;⟨ob,uO.1 U,X⟩⟩⟩,fun hn=>absurd rfl hn⟩ (fun F _=>QZ F) S ?_;exact fun hk'=>yt l _ _ _ _ _ e hk'
 |⟨dst,op,ty,pos,af,some (j,want)⟩::l,i,k,lg,fr,st,h,S=>by
  simp only[dG]at h;cases hg:rY fr want (gslot ops j)with
  |none=>rw[hg]at h;unfold yr at h;split at h<;>first|exact h.elim|(rename_i e;cases e)
  |some G=>
   rw[hg]at h;have⟨g1,g2⟩:=d0G (dst:=dst) (op:=op) (ty:=ty) (pos:=pos) (af:=af) hg;by_cases h0:dD op=0
   ·rw[h0]at h;have⟨a,c,d⟩:=h;have⟨U,X⟩:=(yd op).1 h0;refine AX ⟨_,b+k,G,G2 P gl G op fr (look st) (b+k),[]⟩ rfl rfl ⟨c,g2.symm▸trivial,g1.symm,⟨Jv,fun _ h=>(by cases h)⟩,fun(hG:G=true)=>.inl ⟨U,by subst hG;rfl,a hG,(fun hn=>by rw[X]at hn;cases hn),rfl⟩,fun hn=>absurd (Qm X) hn⟩ (fun _ K=>absurd U K) S ?_;rw[X];exact fun hk'=>yt l _ _ _ _ _ d hk'
   ·by_cases U:dD op=1
    ·rw[U]at h;have⟨a,c,d⟩:=h;have⟨X,h3⟩:=(yd op).2 U;refine AX ⟨_,b+k,G,G2 P gl G op fr (look st) (b+k),[]⟩ rfl rfl ⟨c,g2.symm▸trivial,g1.symm,⟨Jv,fun _ h=>(by cases h)⟩,fun(hG:G=true)=>.inl ⟨X,by subst hG;rfl,a hG,fun hn=>S k (ae _) ?_,rfl⟩,fun _=>h3⟩ (fun _ K=>absurd X K) S ?_
     ·simp only[kW,h3,cond_true];omega
     ·rw[h3];exact fun hk'=>yt l _ _ _ _ _ d hk'
    ·obtain⟨f,args,dF,rfl⟩:=Js h0 U;simp only[dD,yr,JD]at h;cases hf:F2 gl fr f<;>rw[hf]at h<;>first|exact h.elim|skip
     have⟨a,⟨c,d⟩,r,rd,ups,hp,hu,hrd,QZ,JF,e⟩:=h;refine AX ⟨_,b+k,G,⟨r,True,rd,none,none⟩,ups⟩ rfl rfl ⟨a,g2.symm▸trivial,g1.symm,⟨iz rfl,hu⟩,fun(hG:G=true)=>.inr ⟨f,args.toList,_,_,_,r,rd,rfl,by subst hG;exact c,by subst hG;exact d,hf,hp hG,rfl,fun o ho=>⟨(hrd o ho).1,let ⟨ob,U,X⟩:=(hrd o ho).2;⟨ob,uO.1 U,X⟩⟩⟩,fun hn=>absurd rfl hn⟩ (fun F _=>QZ F) S ?_;have es:(bif G then puts ((LR.mk r True rd none none).app (b+k) st) ups else st)=puts st ups:=by
      cases G with
      |true=>rfl
      |false=>exact(JF rfl).symm
     intro hk';simp only[Row.ap,Row.st,Row.fr,Row.d,es]at hk'⊢;exact yt l _ _ _ _ _ e hk'
theorem Ra:∀(l:List Row)(q:Nat),AW q l->∀j (h:j<l.length),q<=(l[j]).q/\(needs (l[j]).o.op=true->(l[j]).q<q+kW (l.map (·.o)))
 |x::l,q,h,0,_=>by refine⟨Nat.le_of_eq h.1.symm,fun hn=>?_⟩;simp only[kb]at hn⊢;rw[h.1];simp only[bv,kW,hn,cond_true];omega
 |x::l,q,h,j+1,L=>by
  have:=Ra l _ h.2 j (by simpa using L);simp only[ka,bv,kW];cases hn:needs x.o.op<;>simp only[hn,cond_true,cond_false]at this⊢
  ·grind
  ·grind
theorem Rb:∀(l:List Row)(q:Nat),AW q l->∀i j (u:i<l.length) (L:j<l.length),i<j->needs (l[i]).o.op=true->(l[i]).q<(l[j]).q
 |x::l,q,h,0,j+1,_,L,_,hn=>by simp only[kb,ka]at hn⊢;have:=(Ra l _ h.2 j (by simpa using L)).1;rw[hn,cond_true]at this;rw[h.1];omega
 |x::l,q,h,i+1,j+1,u,L,hij,hn=>by simp only[ka]at hn⊢;exact Rb l _ h.2 i j (by simpa using u) (by simpa using L) M hn
theorem d1u{rd up:List Nat}:∀ {lg:Log},QX rd up lg->∀y∈lg,(∀o∈up,o∉y.1)/\∀o∈y.2,o∉rd
 |(rd',up')::l,h,y,hy=>by
  rcases ce.1 hy with e|e
  ·subst e;exact⟨h.1,h.2.1⟩
  ·exact d1u h.2.2 y e
theorem d1v{J4:List Nat}:∀(l:List Row)(i j:Nat)(h:j<l.length),J4.contains (i+j)=true->((l[j]).r.rd,JB (l[j]).r++(l[j]).ups.map (·.1))∈kX J4 i l
 |x::l,i,0,_,F=>by simp only[kX,ky]at F ⊢; rw[F];simp
 |x::l,i,j+1,L,F=>by
  have:=d1v l (i+1) j (by simpa using L) (by rw[<-F];congr 1;omega);simp only[kX,ka];cases J4.contains i with
  |true=>grind
  |false=>exact this
theorem d1w{x:Row}{o:Nat}(h:o∈x.wr):o∈JB x.r++x.ups.map (·.1):=by
 unfold Row.wr at h;cases hG:x.G<;>rw[hG]at h<;>simp only[cond_true,cond_false]at h
 ·cases h
 ·exact h
theorem d1x{x:Row}{o:Nat}(h:o∈x.rd):o∈x.r.rd:=by
 unfold Row.rd at h;cases hG:x.G<;>rw[hG]at h
 ·cases h
 ·exact h
theorem d1y{J4:List Nat}:∀(l:List Row)(i:Nat),uR (kX J4 i l)->∀j m (L:j<l.length) (hm:m<l.length),j<m->J4.contains (i+j)=true->J4.contains (i+m)=true->
 (∀o∈(l[j]).wr,o∉ (l[m]).rd)/\∀o∈(l[m]).wr,o∉ (l[j]).rd
 |x::l,i,h,0,m+1,_,hm,_,t1,t2=>by simp only[kX,ky]at h t1;rw[t1]at h;have:=d1u h.1 _ (d1v l (i+1) m (by simpa using hm) (by rw[<-t2];congr 1;omega));simp only[kb,ka];exact⟨fun o ho ho'=>this.1 o (d1w ho) (d1x ho'),fun o ho ho'=>this.2 o (d1w ho) (d1x ho')⟩
 |x::l,i,h,j+1,m+1,L,hm,hjm,t1,t2=>by
  have h':uR (kX J4 (i+1) l):=by
   simp only[kX]at h;cases F:J4.contains i with
   |true=>rw[F]at h;exact h.2
   |false=>rw[F]at h;exact h
  simp only[ka];exact d1y l (i+1) h' j m (by simpa using L) (by simpa using hm) M (by rw[<-t1];congr 1;omega) (by rw[<-t2];congr 1;omega)
theorem d1z{rows:List Row}{s:Fr×St}(h:Trace P gl N ops b rows s)(j:Nat)(L:j<rows.length):∃s':Fr×St,Fits P gl N ops b (rows[j]) s'.1 s'.2:=by
 have e:rows=rows.take j++rows[j]::rows.drop (j+1):=by rw[my,ew]
 rw[e]at h;exact⟨_,Em _ h⟩
theorem d1A{fr:Fr}{a:Act}{w:World}:∀(n:Nat) {st:St} {μ:Mu},bp gl N w0 μ0 st0 fr st a w μ->∃μ',bp gl N w0 μ0 st0 fr (st++be n (some .resv)) a w μ'
 |0,st,μ,h=>⟨μ,by simpa using h⟩
 |n+1,st,μ,h=>by have⟨k1,k2⟩:=IB h.bU;have⟨μ',h'⟩:=d1A n (st:=st++[some .resv]) ⟨k1,h.glob.step k2,h.fr.step k2,h.size,h.defers,h.step.trans k2⟩;exact⟨μ',by simpa[List.replicate_succ,List.append_assoc]using h'⟩
theorem i3Q{fr:Fr}{a:Act}{st:St}(h:bp gl N w0 μ0 st0 fr st a w μ):bp gl N w0 μ0 st0 fr st a { w with drawn:=w.drawn+1 } μ:=by
 have step:Step w μ st { w with drawn:=w.drawn+1 } μ st:=⟨ae _,rfl,rfl,⟨rfl,Dr.le (Nat.le_succ _)⟩,fun _ _ _=>rfl,fun _ h=>.inl h,ae _,fun _ ob' _ h=>⟨ob',h,by
  cases ob' with
  |arr g n b es=>exact⟨ae _,fun _=>⟨rfl,rfl,rfl,rfl,fun blk base c ty _ hh=>⟨c,hh,rfl⟩⟩⟩
  |mps=>exact⟨rfl,rfl⟩
  |T9=>exact⟨rfl,rfl,rfl⟩
  |V0=>rfl
  |resv=>trivial⟩⟩
 exact⟨⟨fun o ob ho=>(h.bU.obj o ob ho).step step (fun _ _ _=>rfl),h.bU.inj⟩,h.glob.step step,h.fr.step step,h.size,h.defers,h.step.trans step⟩
variable {n0:Nat} {keep:List Nat} {Rc:AQ} {fr:Fr} {st:St}
theorem i3R{l:List Oper}{yo:Fr->St->Prop}{BE:Exit->Act->World->Prop}{a:Act}(J4:List Nat)(n:Nat)(ho:Es l.toArray J4=true)(hn:kW l=n)
 (h:dG P gl N l.toArray st.length J4 yo l 0 0 [] fr (st++be n (some .resv))) (K:bp gl N w0 μ0 st0 fr st a w μ) (hQ:∀fr st a w μ,yo fr st->bp gl N w0 μ0 st0 fr st a w μ->BE .normal a w):
 wpAny P .any l.toArray BE l.toArray.size (q9 l.toArray.size false) a { w with drawn:=w.drawn+1 }:=by
 have⟨μ1,hc1⟩:=d1A n (i3Q K)
 have hget:∀m,m<n->(st++be n (some Ob.resv))[st.length+m]? =some (some .resv):=fun m hm=>by grind
 have⟨rows,U,X,h3,h4,h5,h6⟩:=yt l 0 0 [] fr _ h fun m _ hm=>hget m M
 have hlen:rows.length=l.length:=by rw[<-U];simp
 have qD:∀i (u:i<rows.length),l.toArray[i]? =some (rows[i]).o:=fun i u=>by grind
 have JG:=ho
 unfold Es at JG
 simp only[fc,EQ,ie]at JG
 have i3S:Good P gl N l.toArray st.length rows (fr,st++be n (some .resv)):=by
  refine⟨by simpa using U.symm,h3,fun i j u L hne hni hnj=>?_,fun x A Eu=>?_,fun i o hio e he H=>?_,fun i j u L hij=>?_⟩
  ·rcases Nat.lt_or_gt_of_ne hne with hlt|hlt
   ·exact Nat.ne_of_lt (Rb rows _ X i j u L hlt hni)
   ·exact Nat.ne_of_gt (Rb rows _ X j i L u hlt hnj)
  ·have⟨j,L,e⟩:=gz A;have:=Ra rows _ X j L;rw[e,U,hn]at this;have⟨q1,q2⟩:=this;have q3:=q2 Eu;have:=hget (x.q-st.length) M;rw[show st.length+(x.q-st.length)=x.q by omega]at this;exact⟨this,by omega⟩
  ·have dx:i<l.length:=by grind
   have:=(JG i (by simpa using dx)).1;rw[hio]at this;simp only[fc]at this;have:=this e (by simpa using he);rw[H]at this;simp only[Bool.not_true,Bool.false_or]at this;exact gr (Nat.lt_succ_self _) (ym this)
  ·have hp:=(JG j (by simpa[<-hlen]using L)).2 i hij;unfold d1q at hp;rw[qD i u,qD j L]at hp;simp only[rl]at hp;rcases hp with hp|hp
   ·exact .inl (d1r l.toArray.toList [] rfl (fun j L=>absurd L (co _)) j i hp)
   ·right;simp only[ie,rl]at hp;have⟨hp1,hp2⟩:=hp;refine⟨hp1,?_⟩;have⟨s1,f1⟩:=d1z h3 i u;have⟨s2,f2⟩:=d1z h3 j L;rcases hp2 with⟨hp2,hp3⟩|⟨t1,t2⟩
    ·have T4:∀k (S:k<rows.length),qE J4 k (rows[k]).o.op=false->gb (rows[k]).o.op≠none->(rows[k]).r.rd=[]:=fun k S K hne=>by
      refine d1t rows 0 k S h6 ?_ hne;unfold qE at K;have:(gb (rows[k]).o.op).isSome=true:=by cases h:gb (rows[k]).o.op with
       |none=>exact absurd h hne
       |some=>rfl
      rw[this,Bool.true_and]at K;rw[dq];exact K
     refine⟨fun o I a2=>?_,fun o I a2=>?_⟩
     ·cases hw:(AV (rows[i]).o.op||qE J4 i (rows[i]).o.op)with
      |false=>rw[nv]at hw;rw[d1s f1 hw.1 (T4 i u hw.2)]at I;cases I
      |true=>cases hr:(uS (rows[j]).o.op||qE J4 j (rows[j]).o.op)with
       |false=>rw[nv]at hr;rw[JE f2 hr.1 (T4 j L hr.2)]at a2;cases a2
       |true=>rw[hw,hr]at hp2;cases hp2
     ·cases hw:(AV (rows[j]).o.op||qE J4 j (rows[j]).o.op)with
      |false=>rw[nv]at hw;rw[d1s f2 hw.1 (T4 j L hw.2)]at I;cases I
      |true=>cases hr:(uS (rows[i]).o.op||qE J4 i (rows[i]).o.op)with
       |false=>rw[nv]at hr;rw[JE f1 hr.1 (T4 i u hr.2)]at a2;cases a2
       |true=>rw[hw,hr]at hp3;cases hp3
    ·exact d1y rows 0 (by simpa using h5) i j u L hij (by simpa using t1) (by simpa using t2)
 have H6:∀i,R6 (q9 l.toArray.size false) i=false:=fun i=>by
  unfold R6;rw[ca];by_cases u:i<l.length
  ·simp[u]
  ·simp[u]
 refine i3H i3S (fun a w μ K=>hQ _ _ a w μ h4 K) _ _ _ _ μ1 (by simp[hlen]) ?_ ?_ ?_ ?_
 ·have:∀n,cnt (R6 (q9 l.toArray.size false)) n<=n:=fun n=>by
   induction n with
   |zero=>exact ae _
   |succ n ih=>simp only[cnt,H6,cond_false];omega
  have:=this rows.length
  simpa[hlen]using this
 ·grind
 ·grind
 ·rw[d1b rows 0 _ fun k _ _=>H6 k];exact hc1
theorem d1C{id:Nat}{l:List Oper}(J4:List Nat)(n:Nat)(hm:P.follows .mixedOrders=true)(ho:Es l.toArray J4=true)(hn:kW l=n)
 (h:dG P gl N l.toArray st.length J4 (fun fr st=>Rc .normal (Fr.only keep fr) st) l 0 0 [] fr (st++be n (some .resv))):
 F4 P gl N n0 keep (.region id l.toArray true) Rc fr st:=by
 intro w0 μ0 st0 hl a w ⟨μ,K⟩
 exact wp_region_any hm (i3R J4 n ho hn h K fun fr st a w μ S K=>⟨_,_,S,μ,K.bU,K.glob,K.fr.only keep,K.size,K.defers,K.step⟩)
end
section
variable {P:Program} {gl:Gl} {N n0:Nat} {ops:Array Oper} {keep:List Nat} {BE:AQ} {fr:Fr} {st:St} {lg:Log} {b q:Nat} {J4:List Nat} {yo:Fr->St->Prop}
 {dst:Option Nat} {op:Op} {l:List Oper} {i k:Nat} {tr:Bool} {kk k1:Log->Fr->St->Prop} {d:D} {p:Prop} {rd:List Nat} {o:Nat} {ob:Ob} {G:Bool}
@[congr] theorem p6n{fr':Fr}{st':St}{lg':Log}{i' k':Nat}(h0:i=i')(U:k=k')(X:lg=lg')(h:fr=fr')(h3:st=st'):dG P gl N ops b J4 yo l i k lg fr st=dG P gl N ops b J4 yo l i' k' lg' fr' st':=by rw[h0,U,X,h,h3]
@[congr] theorem p6o(h:args=args'):yq P gl b tr dst lg fr st kk f args=yq P gl b tr dst lg fr st kk f args':=by rw[h]
@[congr] theorem p6p(h:args=args'):Eo P gl b G tr dst lg fr st kk f args=Eo P gl b G tr dst lg fr st kk f args':=by rw[h]
theorem p6q:dG P gl N ops b J4 yo [] i k lg fr st=(uR lg/\yo fr st):=rfl
theorem p6r{o:Oper}{l':List Oper}:dG P gl N ops b J4 yo (r9 (o::l) l') i k lg fr st=dG P gl N ops b J4 yo (o::r9 l l') i k lg fr st:=rfl
theorem p6s{l':List Oper}:dG P gl N ops b J4 yo (r9 [] l') i k lg fr st=dG P gl N ops b J4 yo l' i k lg fr st:=rfl
theorem p6t{ty:TypeId}{pos:String}{af:Array Edge}:dG P gl N ops b J4 yo (⟨dst,op,ty,pos,af,none⟩::l) i k lg fr st=
 AU P gl N b (b+k) (J4.contains i) (dG P gl N ops b J4 yo l (i+1) k) (dG P gl N ops b J4 yo l (i+1) (k+1)) dst op lg fr st (dD op):=rfl
theorem p6u{ty:TypeId}{pos:String}{af:Array Edge}{want:Bool}:dG P gl N ops b J4 yo (⟨dst,op,ty,pos,af,some (j,want)⟩::l) i k lg fr st=
 yr P gl N b (b+k) (J4.contains i) (dG P gl N ops b J4 yo l (i+1) k) (dG P gl N ops b J4 yo l (i+1) (k+1)) dst op lg fr st (dD op) (rY fr want (gslot ops j)):=rfl
theorem p6v:AU P gl N b q tr kk k1 dst op lg fr st 0=yp N q tr dst lg fr st kk (G2 P gl true op fr (look st) q):=rfl
theorem p6w:AU P gl N b q tr kk k1 dst op lg fr st 1=yp N q tr dst lg fr st k1 (G2 P gl true op fr (look st) q):=rfl
theorem p6x{f:Operand}{args:Array Operand}{dF:Array TypeId}:AU P gl N b q tr kk k1 dst (.call ⟨.value f,args,dF⟩) lg fr st 2=JC P gl N b tr dst lg fr st kk (K5 gl true fr f/\(∀x∈args.toList,K5 gl true fr x)) (F2 gl fr f) (args.toList.map (F2 gl fr)):=rfl
theorem p6y:yr P gl N b q tr kk k1 dst op lg fr st 0 (some G)=Ep N q G tr dst lg fr st kk (G2 P gl G op fr (look st) q):=rfl
theorem p6z:yr P gl N b q tr kk k1 dst op lg fr st 1 (some G)=Ep N q G tr dst lg fr st k1 (G2 P gl G op fr (look st) q):=rfl
theorem p6A{f:Operand}{args:Array Operand}{dF:Array TypeId}:yr P gl N b q tr kk k1 dst (.call ⟨.value f,args,dF⟩) lg fr st 2 (some G)=JD P gl N b G tr dst lg fr st kk (K5 gl G fr f/\(∀x∈args.toList,K5 gl G fr x)) (F2 gl fr f) (args.toList.map (F2 gl fr)):=rfl
theorem p6B:yp N q tr dst lg fr st kk ⟨d,p,rd,none,none⟩=(p/\eJ N dst/\kk (iA tr lg ⟨d,p,rd,none,none⟩ []) (fr.U3 dst d) st):=rfl
theorem p6C:yp N q tr dst lg fr st kk ⟨d,p,rd,some (o,ob),none⟩=(p/\eJ N dst/\kk (iA tr lg ⟨d,p,rd,some (o,ob),none⟩ []) (fr.U3 dst d) (st.set o (some ob))):=rfl
theorem p6D:yp N q tr dst lg fr st kk ⟨d,p,rd,none,some ob⟩=(p/\eJ N dst/\kk (iA tr lg ⟨d,p,rd,none,some ob⟩ []) (fr.U3 dst d) (st.set q (some ob))):=rfl
theorem p6E:Ep N q G tr dst lg fr st kk ⟨d,p,rd,none,none⟩=(L1 G p/\eJ N dst/\kk (iA tr lg ⟨d,p,rd,none,none⟩ []) (fr.U3 dst (.cond G d)) st):=by cases G<;>rfl
theorem p6F{g:FuncId}{first cap:List D}:JC P gl N b tr dst lg fr st kk p (.fn g first cap) args=(eJ N dst/\p/\yq P gl b tr dst lg fr st kk g (first++args++cap)):=rfl
theorem p6G{g:FuncId}{first cap:List D}:JD P gl N b G tr dst lg fr st kk p (.fn g first cap) args=(eJ N dst/\p/\Eo P gl b G tr dst lg fr st kk g (first++args++cap)):=rfl
theorem p6H{r:LR}{ups:List (Nat×Ob)}:iA false lg r ups=lg:=rfl
theorem aL{r:D}(h:Pure P gl f args r)(S:kk (iA tr lg ⟨r,True,[],none,none⟩ []) (fr.U3 dst r) st):
 yq P gl b tr dst lg fr st kk f args:=
 ⟨r,[],[],h.loc,fun _ h=>(by cases h),fun _ h=>(by cases h),fun _=>rfl,S⟩
theorem AY{r:D}(h:G=true->Pure P gl f args r)(S:kk (iA tr lg ⟨r,True,[],none,none⟩ []) (fr.U3 dst (.cond G r)) st):
 Eo P gl b G tr dst lg fr st kk f args:=
 ⟨r,[],[],fun e=>(h e).loc,fun _ h=>(by cases h),fun _ h=>(by cases h),fun _=>rfl,fun _=>rfl,S⟩
theorem p6I{ups:List (Nat×Ob)}:iA true lg ⟨d,p,rd,none,some ob⟩ ups=lg++[(rd,ups.map (·.1))]:=rfl
theorem p6J{ups:List (Nat×Ob)}:iA true lg ⟨d,p,rd,none,none⟩ ups=lg++[(rd,ups.map (·.1))]:=rfl
theorem p6K{ups:List (Nat×Ob)}:iA true lg ⟨d,p,rd,some (o,ob),none⟩ ups=lg++[(rd,o::ups.map (·.1))]:=rfl
theorem p6L{b:Bool}:(b==true)=b:=by cases b<;>rfl
theorem p6M{b:Bool}:(b==false)= !b:=by cases b<;>rfl
theorem p6N{l:List Oper}:gslot l.toArray j=(l[j]?).bind (·.dst):=by simp[gslot]
theorem p6O{e:Nat}:(∃t,TK.slice e=TK.slice t)=True:=eq_true ⟨e,rfl⟩
theorem p6P{a c:Nat}:(∃t C',TK.map a c=TK.map t C')=True:=eq_true ⟨a,c,rfl⟩
end
attribute [go_sem] p6L p6M p6N Option.bind_some p6O p6P IE qm Int.toNat_natCast imp_self false_implies p6r p6s p6q p6t p6u p6v p6w p6x p6y p6z p6A p6B p6C p6D p6E p6F p6G p6H p6I p6J p6K QX uR Nat.add_zero
section
variable {P:Program} {gl:Gl} {N n0:Nat} {keep:List Nat} {BE:AQ} {fr:Fr} {st:St} {c:Code}
theorem Rf{t n b:Nat}{full:Bool}{es:List (List D)}(hg:fr.get t= .sl full n b es)(h:es.length*b<=top->F4 P gl N n0 keep c BE fr st):F4 P gl N n0 keep c BE fr st:=
 i3t (p:=es.length*b<=top) (fun w μ tmps _ hf=>by
  have:=hf t;rw[hg]at this;generalize tmps.getD t undef=v at this;cases this with
  |tr h=>cases h;assumption) h
end
def d1E(n:Nat)(rows:List (List D)):Prop:=∀r∈rows,r.length=n/\r.all D.one=true
theorem i3V{α:Type}{l:List α}{k:Nat}{d:α}(h:k<l.length):l.getD k d∈l:=by grind
theorem d1E.at{n:Nat}{rows:List (List D)}(h:d1E n rows)(S:k<rows.length):∃r,rows.getD k []=r/\r.length=n/\r.take n=r/\r.all D.one=true/\r∈rows:=by have hm:=i3V (d:=[]) S;have⟨U,X⟩:=h _ hm;exact⟨_,rfl,U,nn M,X,hm⟩
def Ew:Ob->Ob->Prop
 | .arr g n b es,.arr g' n' b' es'=>g'=g/\n'=n/\b'=b/\es'.length=es.length
 | .mps ag _,.mps xH _=>xH=ag
 | .T9 ag k _,.T9 xH k' _=>xH=ag/\k'=k
 | .V0 s p,.V0 s' p'=>s'=s/\p'=p
 | .resv,.resv=>True
 | _,_=>False
structure nP(st De:St):Prop where
 len:De.length<=st.length
 sh:∀(o:Nat)(ob':Ob),De[o]? =some (some ob')->∃ob,st[o]? =some (some ob)/\Ew ob ob'
section
variable {w:World} {μ:Mu} {st De:St}
theorem nP.own(S:nP st De){blk:Nat}(h:own μ De blk):own μ st blk:=by have⟨o,ob,base,U,X⟩:=h;have⟨ob',h3,_⟩:=S.sh o ob U;exact⟨o,ob',base,h3,X⟩
theorem TR.kill(S:nP st De){d:D}(h:TR w (Am.own μ st) v d):TR w (Am.own μ De) v d:=
 h.mono (fun _ _ hn=>⟨rfl,fun h=>hn (S.own h)⟩) (ae _)
theorem nP.resv(S:nP st De){o:Nat}(h:st[o]? ≠some (some .resv)):De[o]? ≠some (some .resv):=fun e=>by have⟨ob,U,X⟩:=S.sh o _ e;cases ob<;>first|exact X.elim|exact h U
theorem VR.kill(S:nP st De){d:D}(h:VR w μ st v d)(hd:D.sc De.length d):VR w μ De v d:=by
 induction h with
 |any v=>exact .any v
 |tr h=>exact .tr (h.kill S)
 |agg vs cs hs K ih=>exact .agg vs cs hs (fun j L=>ih j L (mw hd j L))
 |E8 vs cs hs K ih=>exact .E8 vs cs hs (fun j L=>ih j L (mw hd j L))
 |fn f vf vc first cap hf K Ah T4 ih1 ih2=>exact .fn f vf vc first cap hf K (fun j L=>ih1 j L (mw hd.1 j L)) (fun j L=>ih2 j L (mw hd.2 j L))
 |ref v full o g off len Q ho hr hg h=>
  refine .ref v full o g off len Q hd (S.resv hr) (fun g' n b es e=>?_) (fun n b es e=>?_)
  ·have⟨ob,U,X⟩:=S.sh o _ e;cases ob<;>first|exact X.elim|skip
   have:=hg _ _ _ _ U;rw[X.1];exact this
  ·have⟨ob,U,X⟩:=S.sh o _ e;cases ob<;>first|exact X.elim|skip
   obtain⟨rfl,rfl,rfl,e4⟩:=X;have:=h _ _ _ U;unfold Ag at this⊢;rw[e4];exact this
 |ptr v o g i c Q ho hr hg h=>
  refine .ptr v o g i c Q hd (S.resv hr) (fun g' n b es e=>?_) (fun n b es e=>?_)
  ·have⟨ob,U,X⟩:=S.sh o _ e;cases ob<;>first|exact X.elim|skip
   have:=hg _ _ _ _ U;rw[X.1];exact this
  ·have⟨ob,U,X⟩:=S.sh o _ e;cases ob<;>first|exact X.elim|skip
   obtain⟨rfl,rfl,rfl,e4⟩:=X;exact h _ _ _ U
 |mp v o Q ho hr U X=>
  refine .mp v o Q hd (S.resv hr) (fun ag es e=>?_) (fun ag k es e=>?_)
  ·have⟨ob,h3,h4⟩:=S.sh o _ e;cases ob<;>first|exact h4.elim|skip
   exact U _ _ h3
  ·have⟨ob,h3,h4⟩:=S.sh o _ e;cases ob<;>first|exact h4.elim|skip
   exact X _ _ _ h3
 |it v o Q ho hr h=>
  refine .it v o Q hd (S.resv hr) (fun s p e=>?_);have⟨ob,h3,h4⟩:=S.sh o _ e;cases ob<;>first|exact h4.elim|skip
  exact h _ _ h3
 |cond v g d h h0 ih=>exact .cond v g d (fun e=>ih e (hd e)) h0
end
def D.M7:D->Bool
 | .agg _| .E8 _| .fn _ _ _| .ref _ _ _ _ _| .ptr _ _ _ _| .mp _| .it _| .cond _ _=>false
 | _=>true
def qF(rows:List (List D)):Prop:=∀e∈rows,e.all D.M7=true
mutual
inductive Up(st De:St):D->D->Prop
 |any (d:D):Up st De d .any
 |same (d:D):Up st De d d
 |A9 (full:Bool) (n b:Nat) (H:1<=b):Up st De .A9 (.sl full n b [])
 |nref (full:Bool) (o g n b:Nat) (es:List (List D)) (h:De[o]? =some (some (.arr g n b es))):Up st De .A9 (.ref full o g 0 0)
 |full (f:Bool) (n b:Nat) (es:List (List D)):Up st De (.sl true n b es) (.sl f n b es)
 |ref (full:Bool) (o g off len n b:Nat) (es:List (List D)) (rows:List (List D)) (h:st[o]? =some (some (.arr g n b es))) (hT:look De o=none) (H:1<=b) (u:qF es)
  (hr:rows=(es.drop off).take len):Up st De (.ref full o g off len) (.sl false n b rows)
 |Ey (o g off len:Nat):Up st De (.ref true o g off len) (.ref false o g off len)
 |agg (cs cs':List D) (h:bq st De cs cs'):Up st De (.agg cs) (.agg cs')
 |E8 (cs cs':List D) (h:bq st De cs cs') (hl:cs.all D.live=true):Up st De (.E8 cs) (.E8 cs')
 |cond (g:Bool) (d d':D) (h:Up st De d d'):Up st De (.cond g d) (.cond g d')
inductive bq(st De:St):List D->List D->Prop
 |nil:bq st De [] []
 |cons (d d':D) (l l':List D) (h:Up st De d d') (hl:bq st De l l'):bq st De (d::l) (d'::l')
end
theorem bq.len{st:St}:∀ {l l':List D},bq st De l l'->l'.length=l.length
 | _,_,.nil=>rfl
 | _,_,.cons _ _ _ _ _ h=>by simp[h.len]
theorem bq.get{st:St}:∀ {l l':List D},bq st De l l'->∀(j:Nat)(h:j<l.length)(h':j<l'.length),Up st De (l[j]) (l'[j])
 | _,_,.cons _ _ _ _ h _,0,_,_=>h
 | _,_,.cons _ _ _ _ _ h,j+1,L,hj'=>h.get j (by simpa using L) (by simpa using hj')
theorem bq.refl{st De:St}:∀(l:List D),bq st De l l
 | []=>.nil
 |d::l=>.cons d d l l (.same d) (bq.refl l)
inductive mC(st De:St):List (List D)->List (List D)->Prop
 |same (l:List (List D)):mC st De l l
 |nil:mC st De [] []
 |cons (e e':List D) (l l':List (List D)) (h:bq st De e e') (hl:mC st De l l'):mC st De (e::l) (e'::l')
 |snoc (e e':List D) (l l':List (List D)) (hl:mC st De l l') (h:bq st De e e'):mC st De (l++[e]) (l'++[e'])
theorem mC.spec{st:St}{l l':List (List D)}(h:mC st De l l'):l'.length=l.length/\∀(j:Nat)(h:j<l.length)(h':j<l'.length),bq st De (l[j]) (l'[j]):=by
 induction h with
 |same l=>exact⟨rfl,fun j _ _=>bq.refl _⟩
 |nil=>grind
 |cons e e' l l' h hl ih=>grind
 |snoc e e' l l' hl h ih=>grind
inductive oS(st De:St):List (J×List D)->List (J×List D)->Prop
 |nil:oS st De [] []
 |cons (k:J) (d d':D) (l l':List (J×List D)) (h:Up st De d d') (hl:oS st De l l'):oS st De ((k,[d])::l) ((k,[d'])::l')
theorem oS.keys{st:St}{l:List (J×List D)}(h:oS st De l l'):l'.map (·.1)=l.map (·.1):=by
 induction h with
 |nil=>rfl
 |cons k d d' l l' _ _ ih=>simp[ih]
def mF(es':List (J×List D))(p:J×List D):J×List D:=(p.1,(assoc p.1 es').getD p.2)
theorem i3W{l:List (J×List D)}{x:J}{c:List D}{es':List (J×List D)}(h:x∉l.map (·.1)):l.map (mF ((x,c)::es'))=l.map (mF es'):=
 e8 fun p hp=>by have:p.1≠x:=fun e=>h (e▸bj.2 ⟨p,hp,rfl⟩);unfold mF;rw[show assoc p.1 ((x,c)::es')=assoc p.1 es' by simp only[assoc];rw[if_neg fun e=>this (by first|exact e|exact e.symm)]]
theorem oS.map{st:St}{l:List (J×List D)}(h:oS st De l l')(hn:(l.map (·.1)).Nodup):l.map (mF l')=l':=by
 induction h with
 |nil=>rfl
 |cons k d d' l l' _ _ ih=>rw[bv,ia]at hn;rw[bv,i3W hn.1,ih hn.2];unfold mF;simp[assoc]
theorem oS.ent{st:St}{l:List (J×List D)}(h:oS st De l l')(hn:(l.map (·.1)).Nodup){p:J×List D}(hp:p∈l):∃d d',p.2=[d]/\(mF l' p).2=[d']/\Up st De d d':=by
 induction h with
 |nil=>cases hp
 |cons k d d' l l' h _ ih=>
  rw[bv,ia]at hn;rcases ce.1 hp with rfl|hp
  ·exact⟨d,d',rfl,by unfold mF;simp[assoc],h⟩
  ·have⟨a,b,U,X,h3⟩:=ih hn.2 hp;refine⟨a,b,U,?_,h3⟩;have:p.1≠k:=fun e=>hn.1 (e▸bj.2 ⟨p,hp,rfl⟩);rw[<-X];unfold mF;rw[show assoc p.1 ((k,[d'])::l')=assoc p.1 l' by simp only[assoc];rw[if_neg fun e=>this (by first|exact e|exact e.symm)]]
inductive nQ(st De:St):Ob->Ob->Prop
 |same (ob:Ob):nQ st De ob ob
 |arr (g n b:Nat) (es es':List (List D)) (h:mC st De es es'):nQ st De (.arr g n b es) (.arr g n b es')
 |mps (es es':List (J×List D)) (h:oS st De es es'):nQ st De (.mps false es) (.mps false es')
theorem nQ.sh{st:St}{ob':Ob}(h:nQ st De ob ob'):Ew ob ob':=by
 cases h with
 |same=>cases ob<;>simp[Ew]
 |arr g n b es es' h=>exact⟨rfl,rfl,rfl,h.spec.1⟩
 |mps es es' h=>exact rfl
structure mG(st De:St):Prop where
 len:De.length<=st.length
 obs:∀(o:Nat)(ob':Ob),De[o]? =some (some ob')->∃ob,st[o]? =some (some ob)/\nQ st De ob ob'
 sc:Q8 De.length De
theorem mG.kill{st:St}(h:mG st De):nP st De:=⟨h.len,fun o ob' e=>let ⟨ob,U,X⟩:=h.obs o ob' e;⟨ob,U,X.sh⟩⟩
section
variable {w:World} {μ:Mu} {st De:St}
theorem i3X{d:D}(h:VR w μ st v d)(u:d.M7=true)(U:v.oneCell'=true):TR w (own μ st) v d:=by
 cases h with
 |any=>exact .any _ U
 |tr h=>exact h
 | _=>cases u
theorem VR.up(hs:J0 w μ st)(S:nP st De){d:D}(hu:Up st De d d')(h:VR w μ st v d)(hd:D.sc De.length d'):VR w μ De v d':=by
 induction h generalizing d' with
 |any v=>cases hu with
  |any=>exact .any _
  |same=>exact .any _
 |tr h=>
  cases hu with
  |any=>exact .any _
  |same=>exact .tr (h.kill S)
  |A9 full n b H=>cases h;exact .tr (.sl full n b [] none 0 0 (fun _ _=>undef) rfl (ae _) (fun _=>rfl) (by simp[top]) H (fun e he=>by cases he) (.inl rfl) (fun i j u=>absurd u (co _)))
  |nref full o g n b es hT=>
   cases h;refine .ref _ full o g 0 0 ⟨none,0,0,rfl⟩ (c7.1 hT).1 (by rw[hT];simp) (fun g' n' b' es' e=>?_) (fun n' b' es' e=>?_)
   ·grind
   ·exact⟨none,0,rfl,ae _,by omega,fun _=>rfl,.inl rfl⟩
  |full f n b es=>
   cases h.kill S with
   |sl _ _ _ _ a len cap cv hlen hcap fY H hb1 hn ha K=>exact .tr (.sl f n b es a len cap cv hlen hcap (fun _=>fY rfl) H hb1 hn ha K)
  |ref=>cases h
  |Ey=>cases h
  |agg=>cases h
  |E8=>cases h
  |cond=>cases h
 |agg vs cs hs' K ih=>
  cases hu with
  |any=>exact .any _
  |same=>exact VR.kill S (.agg vs cs hs' K) hd
  |agg _ cs' hu=>exact .agg vs cs' (by rw[hu.len];exact hs') fun j L=>ih j (by rw[<-hu.len];exact L) (hu.get j _ L) (mw hd j L)
 |E8 vs cs hs' K ih=>
  cases hu with
  |any=>exact .any _
  |same=>exact VR.kill S (.E8 vs cs hs' K) hd
  |E8 _ cs' hu hl=>exact .E8 vs cs' (fun j L _=>hs' j (by rw[<-hu.len];exact L) (fc.1 hl _ (bt _))) fun j L=>ih j (by rw[<-hu.len];exact L) (hu.get j _ L) (mw hd j L)
 |fn f vf vc first cap hf K Ah T4 ih1 ih2=>
  cases hu with
  |any=>exact .any _
  |same=>exact VR.kill S (.fn f vf vc first cap hf K Ah T4) hd
 |ref v full o g off len Q ho hr hg h=>
  cases hu with
  |any=>exact .any _
  |same=>exact VR.kill S (.ref v full o g off len Q ho hr hg h) hd
  |Ey=>exact VR.kill S (.ref v false o g off len Q ho hr hg fun n b es e=>by have⟨a,cap,U,X,h3,h4,h5⟩:=h n b es e;exact⟨a,cap,U,X,h3,(fun hf=>by cases hf),h5⟩) hd
  |ref _ _ _ _ _ n b es rows hst hT H u jZ=>
   subst jZ;have⟨a,cap,e1,e2,e3,e4,e5⟩:=h n b es hst;subst e1;have hA:bk w μ st (μ o) n b es:=hs.obj o _ hst;have hlen:((es.drop off).take len).length=len:=by simp;omega
   have hrow:∀i (u:i<((es.drop off).take len).length),((es.drop off).take len)[i]=es[off+i]'(by rw[hlen]at u;omega):=fun i u=>by simp
   rcases hA.loc with⟨m0,e0⟩|⟨blk,base,c,ty,em,hh,hsz,hcell⟩
   ·subst e0;have h0:len=0:=by simp at e3;omega
    subst h0;refine .tr (.sl false n b _ a 0 cap (fun _ _=>undef) B5 e2 (fun hf=>by cases hf) B5 H (fun e he=>by simp at he) (.inl B5) (fun i j u=>by simp at u))
   ·have hcv:∀i j,∃C',∀(u:i<len)(L:j<n),c[base+((off+i)*n+j)]? =some C'/\TR w (own μ De) C' ((es[off+i]'(by omega))[j]'(by rw[hA.hn _ (bt _)];exact L)):=fun i j=>by
     by_cases K:i<len/\j<n
     ·have⟨C',U,X,h3⟩:=hcell (off+i) j M (by rw[hA.hn _ (bt _)];exact K.2);refine⟨C',fun _ _=>⟨U,?_⟩⟩;have d1F:=u (es[off+i]'(by omega)) (bt _);rw[fc]at d1F;exact(i3X X (d1F _ (bt _)) h3).kill S
     ·exact⟨undef,fun u L=>absurd ⟨u,L⟩ K⟩
    have i3Y:∃cv:Nat->Nat->Value,∀i j (u:i<len) (L:j<n),c[base+((off+i)*n+j)]? =some (cv i j)/\TR w (own μ De) (cv i j) ((es[off+i]'(by omega))[j]'(by rw[hA.hn _ (bt _)];exact L)):=
     ⟨fun i j=>Classical.choose (hcv i j),fun i j u L=>Classical.choose_spec (hcv i j) u L⟩
    have⟨cv,hcv⟩:=i3Y
    have hlb:((es.drop off).take len).length*b<=top:=by rw[hlen];exact Nat.le_trans (Nat.mul_le_mul_right b (show len<=es.length by omega)) hA.Pc
    have hno:¬own μ De blk:=by rintro⟨o',ob',base',U,X⟩;have⟨ob,h3,_⟩:=S.sh o' ob' U;have:=hs.inj o o' _ _ blk base base' hst h3 em X;subst this;rw[uO.2 U]at hT;cases hT
    refine .tr (.sl false n b _ a len cap cv hlen.symm e2 (fun hf=>by cases hf) hlb H ?_ ?_ ?_)
    ·intro e he;have⟨i,hi',e'⟩:=gz he;rw[hrow i hi']at e';rw[<-e'];exact hA.hn _ (bt _)
    ·by_cases h0:len=0
     ·subst h0;left;simp
     ·right;rcases e5 with e5|⟨bS,base',em',ea,c',ty',rJ,hsz'⟩
      ·omega
      ·rw[em]at em';cases em';have hlt:blk<w.heap.size:=by
        rcases il blk w.heap.size with h|h
        ·exact h
        ·rw[Array.getElem?_eq_none h]at hh;cases hh
       refine⟨blk,base+off*n,ea,hlt,hno,fun i j hi' L=>?_⟩;rw[hlen]at hi';have:=(hcv i j hi' L).1;simp only[World.cell?, hh];rw[show base+off*n+(i*n+j)=base+((off+i)*n+j)by rw[Nat.add_mul];omega];simpa using this
    ·intro i j hi' L;have hi2:i<len:=by rw[hlen]at hi';exact hi'
     have hn2:(((es.drop off).take len)[i]).length=n:=by rw[hrow i hi'];exact hA.hn _ (bt _)
     have:=(hcv i j hi2 M).2;have e:(((es.drop off).take len)[i])[j]=(es[off+i]'(by omega))[j]'(by rw[hA.hn _ (bt _)];omega):=by have:=hrow i hi';congr 1
     rw[e];exact this
 |ptr v o g i c Q ho hr hg h=>
  cases hu with
  |any=>exact .any _
  |same=>exact VR.kill S (.ptr v o g i c Q ho hr hg h) hd
 |mp v o Q ho hr U X=>
  cases hu with
  |any=>exact .any _
  |same=>exact VR.kill S (.mp v o Q ho hr U X) hd
 |it v o Q ho hr h=>
  cases hu with
  |any=>exact .any _
  |same=>exact VR.kill S (.it v o Q ho hr h) hd
 |cond v g d h h0 ih=>
  cases hu with
  |any=>exact .any _
  |same=>exact VR.kill S (.cond v g d h h0) hd
  |cond _ _ d' hu=>exact .cond v g d' (fun e=>ih e hu (hd e)) h0
end
section
variable {P:Program} {gl:Gl} {N n0:Nat} {keep:List Nat} {BE:AQ} {fr:Fr} {st:St} {c:Code} {w:World} {μ:Mu} {De:St}
theorem J0.wk(hs:J0 w μ st)(hw:mG st De):J0 w μ De:=by
 have S:=hw.kill;refine⟨fun o ob' h=>?_,fun o1 o2 bY kL blk b1 b2 U X m1 m2=>?_⟩
 ·have⟨ob,U,X⟩:=hw.obs o ob' h;have ak:=hs.obj o ob U;have hsc:=hw.sc o ob' h;cases X with
  |same=>
   cases ob' with
   |arr g n b es=>
    have⟨I,a2,a3⟩:=(ak:bk w μ st (μ o) n b es);refine(⟨I,a2,?_⟩:bk w μ De (μ o) n b es);rcases a3 with a3|⟨blk,base,cc,ty,em,hh,hsz,K⟩
    ·exact .inl a3
    ·exact .inr ⟨blk,base,cc,ty,em,hh,hsz,fun i j u L=>let ⟨v,e,Q,U⟩:=K i j u L;⟨v,e,Q.kill S (mw (hsc _ (bt u)) j L),U⟩⟩
   |mps ag es=>
    have⟨blk,ents,clock,ez,em,hh,hsz,K,A⟩:=(ak:aW _ ag w μ _ (μ o) es).loc;refine(⟨⟨blk,ents,clock,ez,em,hh,hsz,fun i u=>?_,A⟩⟩:aW _ ag w μ De (μ o) es);have⟨e,e1,e2,e3⟩:=K i u;refine⟨e,e1,e2,?_⟩;have kY:=hsc _ (A.perm.mem_iff.1 (bt u));cases ag with
    |true=>exact VR.kill S e3 kY
    |false=>have⟨d,a,b⟩:=e3;rw[a]at kY;exact⟨d,a,b.kill S kY.1⟩
   |T9 ag k es=>
    have⟨blk,ents,clock,ez,em,hh,hsz,K,A⟩:=(ak:aW _ ag w μ _ (μ o) es).loc;refine(⟨⟨blk,ents,clock,ez,em,hh,hsz,fun i u=>?_,A⟩⟩:aW _ ag w μ De (μ o) es);have⟨e,e1,e2,e3⟩:=K i u;refine⟨e,e1,e2,?_⟩;have kY:=hsc _ (A.perm.mem_iff.1 (bt u));cases ag with
    |true=>exact VR.kill S e3 kY
    |false=>have⟨d,a,b⟩:=e3;rw[a]at kY;exact⟨d,a,b.kill S kY.1⟩
   |V0=>exact ak
   |resv=>exact ak
  |arr g n b es es' hu=>
   have⟨u1,u2⟩:=hu.spec;have⟨I,a2,a3⟩:=(ak:bk w μ st (μ o) n b es);refine(⟨by rw[u1];exact I,fun e he=>?_,?_⟩:bk w μ De (μ o) n b es')
   ·have⟨i,u,e1⟩:=gz he;rw[<-e1,(u2 i M u).len];exact a2 _ (bt _)
   ·rcases a3 with⟨a3,a4⟩|⟨blk,base,cc,ty,em,hh,hsz,K⟩
    ·subst a4;left;exact⟨a3,List.eq_nil_of_length_eq_zero (by simpa using u1)⟩
    ·refine .inr ⟨blk,base,cc,ty,em,hh,by rw[u1];exact hsz,fun i j u L=>?_⟩;have kQ:=u2 i M u;have⟨v,e,Q,U⟩:=K i j M (by rw[<-kQ.len];exact L);exact⟨v,e,VR.up hs S (kQ.get j _ L) Q (mw (hsc _ (bt u)) j L),U⟩
  |mps es es' hu=>
   have⟨blk,ents,clock,ez,em,hh,hsz,K,A⟩:=(ak:aW _ false w μ _ (μ o) es).loc;have hmap:=hu.map A.nd;have hperm:(ez.map (mF es')).Perm es':=by have:=A.perm.map (mF es');rw[hmap]at this;exact this
   refine(⟨⟨blk,ents,clock,ez.map (mF es'),em,hh,by rw[List.length_map];exact hsz,fun i u=>?_,⟨hperm,by rw[hu.keys];exact A.nd,A.Ai,A.born⟩⟩⟩:aW _ false w μ De (μ o) es');have hi':i<ez.length:=by simpa using u
   have⟨e,e1,e2,e3⟩:=K i hi';have eg:(ez.map (mF es'))[i]=mF es' ez[i]:=by simp
   have⟨d,d',p1,p2,p3⟩:=hu.ent A.nd (A.perm.mem_iff.1 (bt hi'));have⟨d0,q1,q2⟩:=(e3:∃d,ez[i].2=[d]/\VR w μ st e.val d);rw[p1]at q1;cases q1;have kY:=hsc _ (hperm.mem_iff.1 (bt u));rw[eg,p2]at kY;refine⟨e,e1,by rw[eg];exact e2,?_⟩;rw[eg];exact⟨d',p2,VR.up hs S p3 q2 kY.1⟩
 ·have⟨p6Q,e1,_⟩:=hw.obs o1 bY U;have⟨p6R,e2,_⟩:=hw.obs o2 kL X;exact hs.inj o1 o2 _ _ blk b1 b2 e1 e2 m1 m2
theorem eF.sh{w':World}{m m':Option (Nat×Nat)}{a ob':Ob}(h:eF w w' m m' a ob)(hs:Ew ob ob'):eF w w' m m' a ob':=by
 cases ob<;>cases ob'<;>first|exact hs.elim|skip
 ·obtain⟨rfl,rfl,rfl,e⟩:=hs;cases a<;>first|exact h|skip
  refine⟨h.1,fun hg=>?_⟩;have⟨I,a2,a3,a4,a5⟩:=h.2 hg;exact⟨I,a2,by rw[e];exact a3,a4,a5⟩
 ·cases a<;>first|exact h|skip
  exact⟨h.1.trans (Eq.symm hs),h.2⟩
 ·cases a<;>first|exact h|skip
  exact⟨h.1.trans hs.1.symm,h.2.1.trans hs.2.symm,h.2.2⟩
 ·cases a<;>exact h
 ·exact h
theorem Step.wk{w0:World}{μ0:Mu}(hl:st0.length<=De.length)(hw:mG st De)(h:Step w0 μ0 st0 w μ st):Step w0 μ0 st0 w μ De where
 size:=h.size
 os:=h.os
 output:=h.output
 tape:=h.tape
 M7:=h.M7
 own:=fun blk H=>h.own blk (hw.kill.own H)
 len:=hl
 keep:=fun o ob' ho U=>by have⟨ob,e1,e2⟩:=hw.obs o ob' U;have⟨a,I,a2⟩:=h.keep o ob ho e1;exact⟨a,I,a2.sh e2.sh⟩
def gj(st De:St)(fr:Fr):Fr->Prop
 | []=>True
 |(t,d)::r=>Up st De (fr.get t) d/\gj st De fr r
theorem gj.get:∀ {B':Fr},gj st De fr B'->∀t,Up st De (fr.get t) (B'.get t)
 | [],_,_=>.any _
 |(k,d)::r,h,t=>by
  simp only[Fr.get];split
  ·rename_i e;subst e;exact h.1
  ·exact h.2.get t
structure Bk(n0:Nat)(B':Fr)(De:St)(fr:Fr)(st:St):Prop where
 len:n0<=De.length
 wk:mG st De
 up:gj st De fr B'
 sc:Fr.sc De.length B'
theorem i3Z(H:Bk n0 B' De fr st)(h:F4 P gl N n0 keep c BE B' De):F4 P gl N n0 keep c BE fr st:=
 fun w0 μ0 st0 H6 a w ⟨μ,K⟩=>h w0 μ0 st0 H6 a w ⟨μ,K.bU.wk H.wk,Ek K.glob (fun _ h=>H.wk.kill.own h),
  fun t=>VR.up K.bU H.wk.kill (H.up.get t) (K.fr t) (Fr.Qr B' H.sc t),K.size,K.defers,Step.wk (by rw[H6];exact H.len) H.wk K.step⟩
def fin(n0:Nat)(R:D->St->Prop)(d:D)(st:St):Prop:=∃De d',n0<=De.length/\mG st De/\Up st De d d'/\D.sc De.length d'/\R d' De
def JH(P:Program)(B:List ResultVar)(n0:Nat)(R:D->St->Prop):AQ
 | .exit _,_,_=>False
 | _,fr,st=>Jt P fr st B/\fin n0 R (rsD P fr st B) st
theorem i4a{fn:Func}(keep:List Nat)(hf:P.funcs[f]? =some fn)(H:fn.body=some c)(hN:fn.ntmps=N)(hr:fn.results.toList=B)
 (hname:(fn.name != "runtime.NumGoroutine")=true) (hlen:Nat.ble args.length N=true)
 (h:Q8 st.length st->F4 P gl N st.length keep c (JH P B st.length R) (uM 0 args) st):Spec P gl f args st R:=by
 subst hN hr
 have hlen:=ym hlen
 refine⟨trivial,fun w μ vs hs hg hsz yu=>.inl ⟨by unfold iZ;rw[hf];simp[H,hname],?_⟩⟩
 refine calls_of_wp hf H ?_
 have K:bp gl fn.ntmps w μ st (uM 0 args) st { tmps:=vs++q9 (fn.ntmps-vs.size) undef,defers:=[] } w μ:=by
  refine⟨hs,hg,fun t=>?_,by simp;omega,rfl,Step.refl _ _ _⟩;rw[d0F];split
  ·rename_i F;have hts:t<vs.size:=by rw[hsz];omega
   have:=yu t M;rw[ca, Array.getElem?_append_left hts, <-ca];simpa using this
  ·exact .any _
 refine wp_mono (h hs.sc w μ st rfl _ w ⟨μ,K⟩) fun e a' w' hq=>?_
 have fin:∀fr' st',JH P fn.results.toList st.length R .ret fr' st'->uK gl fn.ntmps w μ st fr' st' a' w'->a'.defers=[]/\∃v,(results fn a'.tmps).run P w'= .ok v w'/\
  ∃v' d oE μ',Ending.returned v= .returned v'/\R d oE/\J0 w' μ' oE/\Step w μ st w' μ' oE/\VR w' μ' oE v' d:=by
  rintro fr' st' ⟨i4b,De,d',hle,hw,hu,hsc,hR⟩ ⟨μ',hc'⟩
  have⟨v,U,X⟩:=i3v hc'.bU hc'.fr (d0I _ i4b)
  exact⟨hc'.defers,v,U,v,d',De,μ',rfl,hR,hc'.bU.wk hw,Step.wk hle hw hc'.step,VR.up hc'.bU hw.kill hu X hsc⟩
 cases e with
 |normal=>have⟨fr',st',U,X⟩:=hq;exact fin fr' st' U X
 |ret=>have⟨fr',st',U,X⟩:=hq;exact fin fr' st' U X
 |exit id=>have⟨fr',st',U,X⟩:=hq;exact U.elim
 |goto=>exact hq.elim
 |panic=>exact hq.elim
 |outgrown=>exact hq.elim
inductive gn(st De:St):St->St->Prop
 |nil (l:St):gn st De l []
 |dead (x:Option Ob) (l l':St) (h:gn st De l l'):gn st De (x::l) (none::l')
 |live (ob ob':Ob) (l l':St) (h:nQ st De ob ob') (hl:gn st De l l'):gn st De (some ob::l) (some ob'::l')
theorem gn.lv{l l2:St}(h:gn st De l l2):gn st De (some ob::l) (some ob::l2):=.live _ _ _ _ (.same _) h
theorem nQ.s:nQ st De ob ob:=.same _
theorem Up.s{d:D}:Up st De d d:=.same _
theorem gn.len:∀ {l l':St},gn st De l l'->l'.length<=l.length
 | _,_,.nil _=>Nat.zero_le _
 | _,_,.dead _ _ _ h=>by simp[h.len]
 | _,_,.live _ _ _ _ _ h=>by simp[h.len]
theorem gn.get:∀ {l l':St},gn st De l l'->∀(j:Nat)(ob':Ob),l'[j]? =some (some ob')->∃ob,l[j]? =some (some ob)/\nQ st De ob ob'
 | _,_,.nil _,j,ob',h=>by simp at h
 | _,_,.dead _ _ _ h,0,ob',e=>by simp at e
 | _,_,.dead _ _ _ h,j+1,ob',e=>by simpa using h.get j ob' (by simpa using e)
 | _,_,.live ob kL _ _ h _,0,ob',e=>by simp at e;subst e;exact⟨ob,rfl,h⟩
 | _,_,.live _ _ _ _ _ h,j+1,ob',e=>by simpa using h.get j ob' (by simpa using e)
def mH(n:Nat):St->Prop
 | []=>True
 |none::l=>mH n l
 |some ob::l=>ob.sc n/\mH n l
theorem mH.get{n:Nat}:∀ {l:St},mH n l->∀(j:Nat)(ob:Ob),l[j]? =some (some ob)->ob.sc n
 |none::l,h,0,ob,e=>by simp at e
 |some a::l,h,0,ob,e=>by simp at e;subst e;exact h.1
 |none::l,h,j+1,ob,e=>mH.get (l:=l) h j ob (by simpa using e)
 |some a::l,h,j+1,ob,e=>mH.get (l:=l) h.2 j ob (by simpa using e)
end
mutual
theorem D.AZ{n m:Nat}(h:n<=m):∀(d:D),D.sc n d->D.sc m d
 | .agg cs,hd=>D.uT h cs hd
 | .E8 cs,hd=>D.uT h cs hd
 | .fn _ a b,hd=>⟨D.uT h a hd.1,D.uT h b hd.2⟩
 | .ref _ o _ _ _,hd=>(gr hd h:o<m)
 | .ptr o _ _ _,hd=>(gr hd h:o<m)
 | .mp o,hd=>(gr hd h:o<m)
 | .it o,hd=>(gr hd h:o<m)
 | .cond _ d,hd=>fun e=>D.AZ h d (hd e)
 | .any,_=>trivial
 | .bool _,_=>trivial
 | .int _ _,_=>trivial
 | .str _,_=>trivial
 | .Z6,_=>trivial
 | .A9,_=>trivial
 | .Q7,_=>trivial
 | .S8,_=>trivial
 | .sl _ _ _ _,_=>trivial
 | .bR _,_=>trivial
theorem D.uT{n m:Nat}(h:n<=m):∀(l:List D),D.eI n l->D.eI m l
 | [],_=>trivial
 |d::l,hd=>⟨D.AZ h d hd.1,D.uT h l hd.2⟩
end
theorem Ob.AZ{n m:Nat}(h:n<=m)(hs:ob.sc n):ob.sc m:=by
 cases ob with
 |arr=>exact fun e he=>D.uT h _ (hs e he)
 |mps=>exact fun e he=>D.uT h _ (hs e he)
 |T9=>exact fun e he=>D.uT h _ (hs e he)
 |V0=>trivial
 |resv=>trivial
theorem Rg{d:D}(h:d.M7=true)(n:Nat):D.sc n d:=by cases d<;>first|trivial|cases h
theorem qF.sc{rows:List (List D)}(h:qF rows)(n:Nat):∀e∈rows,D.eI n e:=fun e he=>rU fun _ _=>Rg (fc.1 (h e he) _ (bt _)) n
theorem sj{s l l':St}(hs:Q8 s.length s)(hu:gn (s++l) (s++l') l l')(hl:mH (s++l').length l'):mG (s++l) (s++l'):=by
 refine⟨by simp;exact hu.len,fun o ob' h=>?_,fun o ob' h=>?_⟩
 ·rcases il o s.length with ho|ho
  ·rw[cy ho]at h;exact⟨ob',by rw[cy ho];exact h,.same _⟩
  ·rw[c8 ho]at h;have⟨ob,U,X⟩:=hu.get _ _ h;exact⟨ob,by rw[c8 ho];exact U,X⟩
 ·rcases il o s.length with ho|ho
  ·rw[cy ho]at h;exact Ob.AZ B5 (hs o ob' h)
  ·rw[c8 ho]at h;exact hl.get _ _ h
theorem uU{s l:St}(hs:Q8 s.length s):mG (s++l) s:=by have:=sj (l:=l) (l':=[]) hs (.nil l) trivial;rwa[gf]at this
theorem JI{s:St}(hs:Q8 s.length s):mG s s:=by have:=uU (l:=[]) hs;rwa[gf]at this
section
variable {P:Program} {gl:Gl} {N n0:Nat} {keep:List Nat} {BE:AQ} {fr:Fr} {st:St} {c:Code} {w:World} {μ:Mu} {De:St}
theorem nP.refl(st:St):nP st st:=⟨ae _,fun o ob h=>⟨ob,h,by cases ob<;>simp[Ew]⟩⟩
theorem Spec.up(h:Spec P gl f args' st R)(hu:bq st st args args')(hsc:D.eI st.length args'):Spec P gl f args st R:=
 ⟨h.1,fun w μ vs U X h3 h4=>h.2 w μ vs U X (h3.trans hu.len.symm) fun j L=>VR.up U (nP.refl st) (hu.get j (by rw[<-hu.len];exact L) L) (h4 j (by rw[<-hu.len];exact L)) (mw hsc j L)⟩
theorem Pure.up{r:D}(h:Pure P gl f args' r)(hu:∀st,bq st st args args')(u:args'.all D.M7=true\/∀n,D.eI n args'):Pure P gl f args r:=fun st=>(h st).up (hu st) (u.elim (fun u=>rU fun _ _=>Rg (fc.1 u _ (bt _)) _) (fun h=>h _))
theorem i4c(hs:J0 w μ st)(n b:Nat):
 J0 w (upd μ st.length none) (st++[some (.arr 0 n b [])])/\Step w μ st w (upd μ st.length none) (st++[some (.arr 0 n b [])]):=by
 have look:∀o ob,(st++[some (Ob.arr 0 n b [])])[o]? =some (some ob)->(o<st.length/\st[o]? =some (some ob))\/(o=st.length/\ob= .arr 0 n b []):=by grind
 have step:Step w μ st w (upd μ st.length none) (st++[some (.arr 0 n b [])]):=by
  refine⟨ae _,rfl,rfl,⟨rfl,Dr.le (ae _)⟩,fun _ _ _=>rfl,fun blk hw=>?_,by simp,fun o ob hl h=>?_⟩
  ·have⟨o,ob,base,h,hm⟩:=hw;rcases look o ob h with⟨hl,h⟩|⟨e,_⟩
   ·rw[jT μ _ _ M]at hm;exact .inl ⟨o,ob,base,h,hm⟩
   ·subst e;rw[aq]at hm;cases hm
  ·rw[cy hl]at h;refine⟨ob,h,?_⟩;rw[jT μ _ _ M];exact eF.refl _ _ _
 refine⟨⟨fun o ob h=>?_,fun o1 o2 bY kL blk b1 b2 U X m1 m2=>?_⟩,step⟩
 ·rcases look o ob h with⟨hl,h⟩|⟨e,e2⟩
  ·rw[jT μ _ _ M];exact(hs.obj o ob h).step step (fun _ _ _=>rfl)
  ·subst e;subst e2;exact(⟨by simp[top],fun e he=>(by cases he),.inl ⟨aq _ _ _,rfl⟩⟩:bk w _ _ _ n b [])
 ·rcases look o1 bY U with⟨l1,U⟩|⟨e,_⟩
  ·rcases look o2 kL X with⟨l2,X⟩|⟨e,_⟩
   ·rw[jT μ _ _ M]at m1 m2;exact hs.inj _ _ _ _ _ _ _ U X m1 m2
   ·subst e;rw[aq]at m2;cases m2
  ·subst e;rw[aq]at m1;cases m1
theorem S9(n b:Nat)(h:F4 P gl N n0 keep c BE fr (st++[some (.arr 0 n b [])])):F4 P gl N n0 keep c BE fr st:=
 fun w0 μ0 st0 H6 a w ⟨_,K⟩=>h w0 μ0 st0 H6 a w (let ⟨k1,k2⟩:=i4c K.bU n b;⟨_,k1,K.glob.step k2,K.fr.step k2,K.size,K.defers,K.step.trans k2⟩)
theorem JJ{s l:St}{d d':D}{R:D->St->Prop}(hsc:Q8 s.length s)(hu:Up (s++l) s d d')(hd:D.sc s.length d')(h:R d' s):fin s.length R d (s++l):=
 ⟨s,d',ae _,uU hsc,hu,hd,h⟩
end
theorem je{s t:St}{k:Nat}:(s++t)[s.length+k]? =t[k]? :=by grind
theorem uV{s:St}{k:Nat}:look s (s.length+k)=none:=by unfold look;rw[rc M];rfl
attribute [go_sem] JH
section
variable {P:Program} {gl:Gl} {N n0:Nat} {keep:List Nat} {BE:AQ} {fr:Fr} {st:St}
theorem i4d{w:World}{t e:TypeId}(hu:P.underlying t=some (.slice e))(a:Option Addr)(l c:Nat)(ox oy:Operand):
 (do eqGuard .eql t ox oy (.slice a l c) (.slice none 0 0);binOp .eql t (.slice a l c) (.slice none 0 0):Sem Value).run P w= .ok (.bool a.isNone) w:=by
 have U:(eqGuard .eql t ox oy (.slice a l c) (.slice none 0 0)).run P w= .ok () w:=by unfold eqGuard;simp
 have h2':∀d,(Op.equalIn (d+1) t (.slice a l c) (.slice none 0 0)).run P w= .ok a.isNone w:=fun d=>by cases a<;>simp[Op.equalIn,run_underlying hu]
 have X:(Op.equalIn 10000 t (.slice a l c) (.slice none 0 0)).run P w= .ok a.isNone w:=h2' 9999
 simp only[Sem.run_bind,U,Result.andThen_ok,binOp,Op.equal,Op.maxDepth,X]
 rfl
theorem d1G{id:Nat}{x a b:Nat}{t:TypeId}{Rh rK Ez:TypeId}{p1 p2:String}{e1 e2:Array Edge}{f:Bool}{n bb:Nat}{es:List (List D)}
 (A:fr.get x= .sl f n bb es) (S:∃e,(w8 P t).k= .slice e) (ha:a<N) (H:b<N)
 (h:∀c:Bool,(c=true->es=[])->BE .normal (Fr.only keep ((fr.put a (.sl f n bb es)).put b (.bool c))) st):
 F4 P gl N n0 keep (.region id #[⟨some a,.move (.tmp x),Rh,p1,e1,none⟩,⟨some b,.binOp .eql t (.tmp a) (.const (.slice none 0 0)) Ez,rK,p2,e2,none⟩] false) BE fr st:=by
 intro w0 μ0 st0 hl act w ⟨μ,K⟩
 have⟨e,S⟩:=S
 have hu:=iy S
 refine wp_region ?_
 have hr:ol 2=[0,1]:=rfl
 show wpOps P _ _ (ol 2) act w
 rw[hr,wpOps_cons]
 have⟨nx,v,w',μ',U,X,h3⟩:=d0W (P:=P) (q:=0) (o:=⟨some a,.move (.tmp x),Rh,p1,e1,none⟩) K (by simp only[G2,K5,ev,A,PS]) ha (fun h=>by cases h)
 have hd:(G2 P gl true (.move (.tmp x)) fr (look st) 0).d= .sl f n bb es:=by simp only[G2,F2,ev,A,strip]
 have hst:(G2 P gl true (.move (.tmp x)) fr (look st) 0).app 0 st=st:=rfl
 simp only[hst,hd]at h3
 have second:wpOps P #[⟨some a,.move (.tmp x),Rh,p1,e1,none⟩,⟨some b,.binOp .eql t (.tmp a) (.const (.slice none 0 0)) Ez,rK,p2,e2,none⟩] (cq gl N w0 μ0 st0 BE) [1] (act.put (some a) v) w':=by
  rw[wpOps_cons];have Ri:=h3.fr a;simp only[Fr.U3,Fr.Eh,if_pos]at Ri;have Q:∃ad l c,(act.put (some a) v).tmps.getD a undef= .slice ad l c/\(ad=none->es=[]):=by
   generalize (act.put (some a) v).tmps.getD a undef=C' at Ri;cases Ri with
   |tr h=>cases h with
    |sl _ _ _ _ ad len cap cv _ _ _ _ _ _ ha' _=>grind
  have⟨ad,l,c,hv1,hv2⟩:=Q;have hrun:=i4d (w:=w') hu ad l c (.tmp a) (.const (.slice none 0 0));have hex:(execOp (act.put (some a) v).eval ⟨some b,.binOp .eql t (.tmp a) (.const (.slice none 0 0)) Ez,rK,p2,e2,none⟩).run P w'= .ok (.value (.bool ad.isNone)) w':=by
   have e1:(act.put (some a) v).eval (.tmp a)= .slice ad l c:=hv1;have:execOp (act.put (some a) v).eval ⟨some b,.binOp .eql t (.tmp a) (.const (.slice none 0 0)) Ez,rK,p2,e2,none⟩=
    (do pure (.value (<-(do eqGuard .eql t (.tmp a) (.const (.slice none 0 0)) ((act.put (some a) v).eval (.tmp a)) (.slice none 0 0);binOp .eql t ((act.put (some a) v).eval (.tmp a)) (.slice none 0 0):Sem Value)))):=rfl
   rw[this,e1,Sem.run_bind,hrun];rfl
  have Ba:bp gl N w0 μ0 st0 ((fr.put a (.sl f n bb es)).U3 (some b) (.bool ad.isNone)) st ((act.put (some a) v).put (some b) (.bool ad.isNone)) w' μ':=
   ⟨h3.bU,h3.glob,h3.fr.put (dz _ _ _ _) (by rw[h3.size];exact H),by simp[nl];exact K.size,by simpa[nl]using h3.defers,h3.step⟩
  simp only[wpOp,xy,xn,q7,pm,if_true];left;unfold uA;rw[hex];exact⟨_,_,h ad.isNone (fun e=>hv2 (by simpa using e)),μ',Ba.bU,Ba.glob,Ba.fr.only keep,Ba.size,Ba.defers,Ba.step⟩
 simp only[wpOp,xy,q7,pm,if_true]
 left
 unfold uA
 rw[U]
 rcases X with rfl|⟨rfl,rfl⟩<;>exact second
end
def wr(k:IntKind)(n:Int):Int:=k.wrap n
def get{α:Type}[Inhabited α](l:List α)(k:Nat):α:=l.getD k default
def w6{α:Type}(p:Prop)[Decidable p](x:Option α):Option α:=if p then x else none
def B9{α β:Type}(a:α)(f:α->Option β):Option β:=f a
def gd{α:Type}(G:Bool)(x:Option α)(d:α):Option α:=bif G then x else some d
inductive C1(ρ σ τ:Type) where
 |B7 (s:σ)
 |brk (t:τ)
 |ret (x:ρ)
inductive Ex(ρ τ:Type) where
 |B7 (t:τ)
 |ret (x:ρ)
def B3{ρ τ:Type}(x:Option (Ex ρ τ))(k:τ->Option ρ):Option ρ:=
 match x with
 |none=>none
 |some (.B7 t)=>k t
 |some (.ret r)=>some r
def D9{ρ σ τ:Type}(body:σ->Option (C1 ρ σ τ)):Nat->σ->Option (Ex ρ τ)
 |0,_=>none
 |n+1,s=>match body s with
  |none=>none
  |some (.B7 s')=>D9 body n s'
  |some (.brk t)=>some (.B7 t)
  |some (.ret x)=>some (.ret x)
def mJ{ρ σ:Type}(body:Nat->σ->Option (C1 ρ σ σ)):Nat->Nat->σ->Option (Ex ρ σ)
 |0,_,s=>some (.B7 s)
 |m+1,k,s=>match body k s with
  |none=>none
  |some (.B7 s')=>mJ body m (k+1) s'
  |some (.brk s')=>some (.B7 s')
  |some (.ret x)=>some (.ret x)
def K6{ρ σ:Type}(body:Nat->σ->Option (C1 ρ σ σ))(n:Nat)(s:σ):Option (Ex ρ σ):=mJ body n 0 s
section
variable {α β ρ σ τ:Type}
theorem oT[Decidable p]{x:Option α}{e:α}(h:w6 p x=some e):p/\x=some e:=by
 unfold w6 at h;split at h
 ·rename_i hp;exact⟨hp,h⟩
 ·cases h
theorem sk[Decidable p]{x:Option α}(hp:p):w6 p x=x:=if_pos hp
theorem E1{a:α}{f:α->Option β}{e:β}(h:B9 a f=some e):∃y,y=a/\f y=some e:=⟨a,rfl,h⟩
theorem D0{x:Option α}{f:α->Option β}{e:β}(h:x.bind f=some e):∃v,x=some v/\f v=some e:=Option.bind_eq_some_iff.1 h
theorem d1H{c:Bool}{a b:Option α}{e:α}(h:(bif c then a else b)=some e)(K:c=true):a=some e:=by subst K;exact h
theorem d1I{c:Bool}{a b:Option α}{e:α}(h:(bif c then a else b)=some e)(K:c=false):b=some e:=by subst K;exact h
theorem cg{G:Bool}{x:Option α}{d v:α}(h:gd G x d=some v)(hG:G=true):x=some v:=by subst hG;exact h
theorem i4e{G:Bool}{x:Option α}{d v:α}(h:gd G x d=some v)(hG:G=false):v=d:=by subst hG;cases h;rfl
end
def rows{α:Type}(E:α->List D)(l:List α):List (List D):=l.map E
class cr{α:Type}(E:α->List D)(n:outParam Nat):Prop where
 len:∀x,(E x).length=n
 one:∀x,(E x).all D.one=true
 M7:∀x,(E x).all D.M7=true
def aY(x:Int):List D:=[.int .i64 x]
def d1J(x:Int):List D:=[.int .u64 x]
def d1K(x:Int):List D:=[.int .i32 x]
def u8c(x:Int):List D:=[.int .u8 x]
def cu(x:Bool):List D:=[.bool x]
def B2(x:J):List D:=[.str x]
def slc{α:Type}(n b:Nat)(E:α->List D)(x:List α):List D:=[.sl false n b (rows E x)]
instance:cr aY 1:=⟨fun _=>rfl,fun _=>rfl,fun _=>rfl⟩
instance:cr d1J 1:=⟨fun _=>rfl,fun _=>rfl,fun _=>rfl⟩
instance:cr d1K 1:=⟨fun _=>rfl,fun _=>rfl,fun _=>rfl⟩
instance:cr u8c 1:=⟨fun _=>rfl,fun _=>rfl,fun _=>rfl⟩
instance:cr cu 1:=⟨fun _=>rfl,fun _=>rfl,fun _=>rfl⟩
instance:cr B2 1:=⟨fun _=>rfl,fun _=>rfl,fun _=>rfl⟩
instance{α:Type}{n b:Nat}{E:α->List D}:cr (slc n b E) 1:=⟨fun _=>rfl,fun _=>rfl,fun _=>rfl⟩
section
variable {α:Type} {E:α->List D} {n:Nat}
theorem av(l:List α):(rows E l).length=l.length:=by simp[rows]
theorem i4f(x:α)(l:List α):rows E (x::l)=E x::rows E l:=rfl
theorem Rj(l m:List α):rows E l++rows E m=rows E (l++m):=by simp[rows]
theorem i4g(l:List α)(k:Nat):(rows E l).take k=rows E (l.take k):=by simp[rows,List.map_take]
theorem p6S(l:List α)(k:Nat):(rows E l).drop k=rows E (l.drop k):=by simp[rows,List.map_drop]
theorem d1M(l:List α)(k:Nat)(x:α):(rows E l).set k (E x)=rows E (l.set k x):=by simp[rows]
theorem d1N(m:Nat)(x:α):be m (E x)=rows E (be m x):=by simp[rows]
theorem p6T(l:List α):l.take l.length=l:=List.take_length
theorem kZ[Inhabited α](l:List α)(k:Nat):(rows E l).getD k (E default)=E (get l k):=by simp only[rows,ac,get,List.getElem?_map];cases l[k]? <;>rfl
theorem sq[Inhabited α]{l:List α}{k:Nat}{d:List D}(h:k<l.length):(rows E l).getD k d=E (get l k):=by simp[rows,get,h]
theorem br[h:cr E n](l:List α):qF (rows E l):=by intro e he;obtain⟨s,_,rfl⟩:=bj.1 he;exact h.M7 s
theorem p6U[h:cr E n](l:List α)(m:Nat):(∀e∈rows E l,D.eI m e)=True:=eq_true (qF.sc (br l) m)
theorem p6V(x:Int):aY x=[.int .i64 x]:=rfl
theorem p6W(x:Int):d1J x=[.int .u64 x]:=rfl
theorem p6X(x:Int):d1K x=[.int .i32 x]:=rfl
theorem p6Y(x:Int):u8c x=[.int .u8 x]:=rfl
theorem p6Z(x:Bool):cu x=[.bool x]:=rfl
theorem p7a(x:J):B2 x=[.str x]:=rfl
theorem p7b{a b:Nat}(x:List α):slc a b E x=[.sl false a b (rows E x)]:=rfl
theorem i4h(l:List Int)(k:Nat):(rows aY l).getD k [.int .i64 0]=[.int .i64 (get l k)]:=kZ (E:=aY) l k
theorem p7c(l:List Bool)(k:Nat):(rows cu l).getD k [.bool false]=[.bool (get l k)]:=kZ (E:=cu) l k
theorem p7d(l:List J)(k:Nat):(rows B2 l).getD k [.str []]=[.str (get l k)]:=kZ (E:=B2) l k
theorem p7e{a b:Nat}(l:List (List α))(k:Nat):(rows (slc a b E) l).getD k [.sl false a b []]=[.sl false a b (rows E (get l k))]:=kZ (E:=slc a b E) l k
end
def L5{κ α:Type}(E:α->List D)(m:List (κ×α)):List (κ×List D):=m.map fun p=>(p.1,E p.2)
theorem p7f{E:α->List D}(m:List (κ×α)):(L5 E m).length=m.length:=by simp[L5]
theorem p7g[DecidableEq κ]{E:α->List D}(k:κ)(m:List (κ×α)):assoc k (L5 E m)=(assoc k m).map E:=by
 induction m with
 |nil=>rfl
 |cons p m ih=>
  have⟨a,v⟩:=p;simp only[L5,bv,assoc]at ih⊢;split
  ·rfl
  ·exact ih
theorem qG{κ α:Type}[DecidableEq κ]{E:α->List D}(k:κ)(v:α)(m:List (κ×α)):I4 k (E v) (L5 E m)=L5 E (I4 k v m):=by
 induction m with
 |nil=>rfl
 |cons p m ih=>
  have⟨a,C'⟩:=p;simp only[L5,bv,I4]at ih⊢;split
  ·rfl
  ·grind
theorem p7h{a b:Nat}{z dd:List D}{o:Option Int}:jV ⟨a,b,z,dd,some (.int .i64 0),.int .i64⟩ (o.map aY)= .int .i64 (o.getD default):=by cases o<;>rfl
theorem p7i{a b:Nat}{z dd:List D}{o:Option J}:jV ⟨a,b,z,dd,some (.str []),.str⟩ (o.map B2)= .str (o.getD default):=by cases o<;>rfl
theorem p7j{E:α->List D}{n:Nat}[h:cr E n](l:List (κ×α))(m:Nat):(∀(a:κ)(b:List D),(a,b)∈L5 E l->D.eI m b)=True:=by refine eq_true fun a b H=>?_;have⟨⟨x,y⟩,U,X⟩:=bj.1 H;cases X;exact rU fun j L=>Rg (fc.1 (h.M7 y) _ (bt _)) m
theorem JK{st:St}{d:D}(h:d=d'):Up st De d d':=h▸ .same _
section
variable {P:Program} {gl:Gl} {N n0:Nat} {keep:List Nat} {BE:AQ} {fr:Fr} {st:St}
theorem d1O(h:F4 P gl N n0 keep c BE fr st):F4 P gl N n0 keep (.scope c) BE fr st:=
 fun w0 μ0 st0 hl a w K=>wp_scope_straight (wp_mono (h w0 μ0 st0 hl a w K) fun e a' w' hq=>by cases e<;>exact hq)
theorem d1P{l:Nat}(h:BE .normal fr st):F4 P gl N n0 keep (.label l) BE fr st:=
 fun _ _ _ _ _ _ K=>wp_label ⟨fr,st,h,K⟩
end
def Bb{α:Type}(E:α->List D)(l:List α):List D:=(rows E l).flatten
theorem yw[Inhabited α]{E:α->List D}{l:List α}{n:Nat}(hn:∀a,(E a).length=n)(S:k<l.length):rowAt (Bb E l) k n=E (get l k):=by
 induction l generalizing k with
 |nil=>cases S
 |cons a l ih=>
  have e:Bb E (a::l)=E a++Bb E l:=by simp[Bb,rows]
  rw[e];cases k with
  |zero=>simp only[rowAt,Nat.zero_mul,List.drop_zero];rw[<-hn a,List.take_left];rfl
  |succ k=>
   have X:rowAt (E a++Bb E l) (k+1) n=rowAt (Bb E l) k n:=by simp only[rowAt];rw[show(k+1)*n=(E a).length+k*n by rw[hn a,Nat.succ_mul,Nat.add_comm], <-List.drop_drop,List.drop_left]
   rw[X];exact ih (by simpa using S)
theorem p7k(l:List α)(k:Nat):(l.drop k).take (l.length-k)=l.drop k:=nn (by rw[iv];exact ae _)
theorem p7l{st:St}(a b:Nat):st.length+a+b=st.length+(a+b):=Nat.add_assoc _ _ _
theorem p7m{G:Bool}:L1 G True=True:=by simp[L1]
theorem p7n{G:Bool}{q:Prop}:L1 G (p/\q)=(L1 G p/\L1 G q):=by unfold L1;exact propext ⟨fun h=>⟨fun e=>(h e).1,fun e=>(h e).2⟩,fun h e=>⟨h.1 e,h.2 e⟩⟩
instance{G:Bool}{p:Prop}[Decidable p]:Decidable (L1 G p):=by unfold L1;exact inferInstance
instance{k:IntKind}{n:Int}:Decidable (rL k n):=by unfold rL;exact inferInstance
theorem p7o(k:IntKind)(n:Int):arith k n=⟨.int k (wr k n),True,[],none,none⟩:=rfl
theorem p7p(k:IntKind)(n:Int):k.wrap n=wr k n:=rfl
theorem F9{n:Int}(U: -9223372036854775808<=n)(X:n<=9223372036854775807):wr .i64 n=n:=by unfold wr;exact Py (k:=.i64) ⟨U,X⟩
theorem Bc{n:Nat}(S:k<n)(h:n<=9223372036854775807):wr .i64 ((k:Int)+1)=((k+1:Nat):Int):=by rw[F9 M M];omega
section
variable {P:Program} {gl:Gl} {N n0:Nat} {keep:List Nat} {BE:AQ} {fr:Fr} {st:St} {c x:Code} {id:Nat}
inductive O6(n0:Nat)(B':Fr)(De:St):Fr->St->Prop
 |nil:O6 n0 B' De B' De
 |cons {F' fr:Fr} {T' st:St} (h:Bk n0 F' T' fr st) (F:O6 n0 B' De F' T'):O6 n0 B' De fr st
theorem O6.one(h:Bk n0 B' De fr st):O6 n0 B' De fr st:=.cons h .nil
theorem O6.trans{F':Fr}{T':St}(h:O6 n0 F' T' fr st)(X:O6 n0 B' De F' T'):O6 n0 B' De fr st:=by
 induction h with
 |nil=>exact X
 |cons h _ ih=>exact .cons h ih
theorem qH(H:O6 n0 B' De fr st)(h:F4 P gl N n0 keep c BE B' De):F4 P gl N n0 keep c BE fr st:=by
 induction H with
 |nil=>exact h
 |cons H _ ih=>exact i3Z H ih
theorem uW{s l l':St}(hsc:Q8 s.length s)(hu:gn (s++l) (s++l') l l')(hl:mH (s++l').length l')(hf:gj (s++l) (s++l') fr B')(hs:Fr.sc (s++l').length B'):
 O6 s.length B' (s++l') fr (s++l):=.one ⟨by simp,sj hsc hu hl,hf,hs⟩
theorem d1Q{s l:St}(hsc:Q8 s.length s)(hf:gj (s++l) s fr B')(hs:Fr.sc s.length B'):O6 s.length B' s fr (s++l):=.one ⟨ae _,uU hsc,hf,hs⟩
theorem i4i{s:St}(hsc:Q8 s.length s)(hf:gj s s fr B')(hs:Fr.sc s.length B'):O6 s.length B' s fr s:=.one ⟨ae _,JI hsc,hf,hs⟩
theorem Rk{s t:St}:(s++t)[s.length]? =t[0]? :=je (k:=0)
theorem d1R{s:St}:look s s.length=none:=uV (k:=0)
theorem JL{s t:St}(h:t.length<=k):look (s++t) (s.length+k)=none:=by unfold look;rw[rc (by simp;omega)];rfl
theorem EC{s:St}{d:D}(hsc:Q8 s.length s)(hu:Up s s d d')(hd:D.sc s.length d')(h:R d' s):fin s.length R d s:=
 ⟨s,d',ae _,JI hsc,hu,hd,h⟩
def Bd(P:Program)(B:List ResultVar)(n0:Nat)(R:D->St->Prop):AQ
 | .exit _,_,_=>False
 | _,fr,st=>∃B' De,O6 n0 B' De fr st/\Jt P B' De B/\fin n0 R (rsD P B' De B) De
theorem Bf(h:JH P B n0 R .ret fr st):Bd P B n0 R .ret fr st:=⟨fr,st,.nil,h.1,h.2⟩
theorem d1S(h:JH P B n0 R .ret fr st):Bd P B n0 R .normal fr st:=⟨fr,st,.nil,h.1,h.2⟩
theorem JM(H:O6 n0 B' De fr st)(h:Bd P B n0 R .normal B' De):Bd P B n0 R .normal fr st:=by have⟨F',T',U,X⟩:=h;exact⟨F',T',H.trans U,X⟩
theorem uK.bks{w0:World}{μ0:Mu}{a:Act}(H6:st0.length=n0)(H:O6 n0 B' De fr st)(h:uK gl N w0 μ0 st0 fr st a w):uK gl N w0 μ0 st0 B' De a w:=by
 induction H with
 |nil=>exact h
 |cons H _ ih=>
  have⟨μ,K⟩:=h;exact ih ⟨μ,K.bU.wk H.wk,Ek K.glob (fun _ h=>H.wk.kill.own h),
   fun t=>VR.up K.bU H.wk.kill (H.up.get t) (K.fr t) (Fr.Qr _ H.sc t),K.size,K.defers,Step.wk (by rw[H6];exact H.len) H.wk K.step⟩
theorem Rl{f:FuncId}{fn:Func}{c:Code}{args:List D}{R:D->St->Prop}{B:List ResultVar}(keep:List Nat)(hf:P.funcs[f]? =some fn)(H:fn.body=some c)(hN:fn.ntmps=N)(hr:fn.results.toList=B)
 (hname:(fn.name != "runtime.NumGoroutine")=true) (hlen:Nat.ble args.length N=true)
 (h:Q8 st.length st->F4 P gl N st.length keep c (Bd P B st.length R) (uM 0 args) st):Spec P gl f args st R:=by
 refine i4a keep hf H hN hr hname hlen fun hsc=>?_
 intro w0 μ0 st0 hl a w K
 refine wp_mono (h hsc w0 μ0 st0 hl a w K) fun e a' w' hq=>?_
 cases e with
 |normal=>have⟨fr',st',⟨B',De,U,X,h3⟩,h4⟩:=hq;exact⟨B',De,⟨X,h3⟩,h4.bks hl U⟩
 |ret=>have⟨fr',st',⟨B',De,U,X,h3⟩,h4⟩:=hq;exact⟨B',De,⟨X,h3⟩,h4.bks hl U⟩
 |exit id=>have⟨fr',st',U,X⟩:=hq;exact U.elim
 |goto=>exact hq.elim
 |panic=>exact hq.elim
 |outgrown=>exact hq.elim
theorem V4(yo:σ->Option ρ)(e:ρ)(B':Γ->σ->Fr)(De:Γ->σ->St)(S:∀γ s fr st,yo s=some e->O6 n0 (B' γ s) (De γ s) fr st->BE .normal fr st)
 (A:(∀γ s fr st,yo s=some e->O6 n0 (B' γ s) (De γ s) fr st->BE .normal fr st)->F4 P gl N n0 keep x BE fr st):F4 P gl N n0 keep x BE fr st:=A S
def Bg{Γ ρ σ:Type}(n0 id:Nat)(B':Γ->Nat->σ->Fr)(De:Γ->Nat->σ->St)(Fb:Γ->σ->Fr)(Tb:Γ->σ->St)(BE:AQ)(k:Nat):C1 ρ σ σ->AQ
 | .B7 s=>fun ex fr st=>ex= .normal/\∃γ,O6 n0 (B' γ (k+1) s) (De γ (k+1) s) fr st
 | .brk s=>fun ex fr st=>ex= .exit id/\∃γ,O6 n0 (Fb γ s) (Tb γ s) fr st
 | .ret _=>fun ex fr st=>ex≠ .normal/\AQ.block id BE ex fr st
theorem arg_{body:Nat->σ->Option (C1 ρ σ σ)}{n:Nat}{Y:σ}{kk:σ->Option ρ}{e:ρ}(B':Γ->Nat->σ->Fr)(De:Γ->Nat->σ->St)(Fb:Γ->σ->Fr)(Tb:Γ->σ->St)(γ0:Γ)
 (h:B3 (K6 body n Y) kk=some e)
 (h0:O6 n0 (B' γ0 0 Y) (De γ0 0 Y) fr st)
 (hs:∀γ k s b,k<n->body k s=some b->(∀x,b= .ret x->x=e)->F4 P gl N n0 keep c (Bg n0 id B' De Fb Tb BE k b) (B' γ k s) (De γ k s))
 (he:∀γ s,F4 P gl N n0 keep c (fun ex fr st=>ex= .exit id/\∃γ',O6 n0 (Fb γ' s) (Tb γ' s) fr st) (B' γ n s) (De γ n s))
 (S:∀γ s fr st,kk s=some e->O6 n0 (Fb γ s) (Tb γ s) fr st->BE .normal fr st):
 F4 P gl N n0 keep (.block id (.loop c)) BE fr st:=by
 refine rV (qH h0 ?_)
 unfold K6 at h
 have key:∀m k s γ,k+m=n->B3 (mJ body m k s) kk=some e->F4 P gl N n0 keep (.loop c) (AQ.block id BE) (B' γ k s) (De γ k s):=by
  intro m;induction m with
  |zero=>
   intro k s γ hk' U;have:k=n:=by omega
   subst this;refine xY (yc (he γ s) fun ex fr st hq=>?_);obtain⟨rfl,γ',H⟩:=hq;show AQ.block id BE (.exit id) fr st;simp only[AQ.block,if_true];exact S γ' s fr st U H
  |succ m ih=>
   intro k s γ hk' h;simp only[mJ]at h;cases H:body k s with
   |none=>rw[H]at h;cases h
   |some b=>
    rw[H]at h;refine xY (yc (hs γ k s b M H ?_) fun ex fr st hq=>?_)
    ·intro x A;subst A;cases h;rfl
    ·cases b with
     |B7 s'=>obtain⟨rfl,γ',hb'⟩:=hq;exact qH hb' (ih (k+1) s' γ' M h)
     |brk s'=>obtain⟨rfl,γ',hb'⟩:=hq;show AQ.block id BE (.exit id) fr st;simp only[AQ.block,if_true];exact S γ' s' fr st h hb'
     |ret x=>
      have⟨U,X⟩:=hq;cases ex with
      |normal=>exact absurd rfl U
      | _=>exact X
 exact key n 0 Y γ0 M h
def ED{Γ Δ ρ σ τ:Type}(n0 id:Nat)(B':Γ->σ->Fr)(De:Γ->σ->St)(Fb:Δ->τ->Fr)(Tb:Δ->τ->St)(BE:AQ):C1 ρ σ τ->AQ
 | .B7 s=>fun ex fr st=>ex= .normal/\∃γ,O6 n0 (B' γ s) (De γ s) fr st
 | .brk s=>fun ex fr st=>ex= .exit id/\∃γ,O6 n0 (Fb γ s) (Tb γ s) fr st
 | .ret _=>fun ex fr st=>ex≠ .normal/\AQ.block id BE ex fr st
theorem d1U{Δ τ:Type}{body:σ->Option (C1 ρ σ τ)}{n:Nat}{Y:σ}{kk:τ->Option ρ}{e:ρ}(B':Γ->σ->Fr)(De:Γ->σ->St)(Fb:Δ->τ->Fr)(Tb:Δ->τ->St)(γ0:Γ)
 (h:B3 (D9 body n Y) kk=some e)
 (h0:O6 n0 (B' γ0 Y) (De γ0 Y) fr st)
 (hs:∀γ s b,body s=some b->(∀x,b= .ret x->x=e)->F4 P gl N n0 keep c (ED n0 id B' De Fb Tb BE b) (B' γ s) (De γ s))
 (S:∀γ s fr st,kk s=some e->O6 n0 (Fb γ s) (Tb γ s) fr st->BE .normal fr st):
 F4 P gl N n0 keep (.block id (.loop c)) BE fr st:=by
 refine rV (qH h0 ?_)
 have key:∀m s γ,B3 (D9 body m s) kk=some e->F4 P gl N n0 keep (.loop c) (AQ.block id BE) (B' γ s) (De γ s):=by
  intro m;induction m with
  |zero=>intro s γ h;cases h
  |succ m ih=>
   intro s γ h;simp only[D9]at h;cases H:body s with
   |none=>rw[H]at h;cases h
   |some b=>
    rw[H]at h;refine xY (yc (hs γ s b H ?_) fun ex fr st hq=>?_)
    ·intro x A;subst A;cases h;rfl
    ·cases b with
     |B7 s'=>obtain⟨rfl,γ',hb'⟩:=hq;exact qH hb' (ih s' γ' h)
     |brk s'=>obtain⟨rfl,γ',hb'⟩:=hq;show AQ.block id BE (.exit id) fr st;simp only[AQ.block,if_true];exact S γ' s' fr st h hb'
     |ret x=>
      have⟨U,X⟩:=hq;cases ex with
      |normal=>exact absurd rfl U
      | _=>exact X
 exact key n Y γ0 h
section
variable {Γ Δ ρ σ τ:Type} {B':Γ->σ->Fr} {De:Γ->σ->St} {Fb:Δ->τ->Fr} {Tb:Δ->τ->St} {Fk:Γ->Nat->σ->Fr} {Tk:Γ->Nat->σ->St} {Fc:Γ->σ->Fr} {Tc:Γ->σ->St} {k:Nat} {ex:Jm}
theorem L6{s:σ}(γ:Γ)(h:O6 n0 (Fk γ (k+1) s) (Tk γ (k+1) s) fr st):Bg (ρ:=ρ) n0 id Fk Tk Fc Tc BE k (.B7 s) .normal fr st:=⟨rfl,γ,h⟩
theorem d1V{s:σ}(γ:Γ)(h:O6 n0 (Fc γ s) (Tc γ s) fr st):Bg (ρ:=ρ) n0 id Fk Tk Fc Tc BE k (.brk s) (.exit id) fr st:=⟨rfl,γ,h⟩
theorem aM{x:ρ}(h:AQ.block id BE .ret fr st):Bg n0 id Fk Tk Fc Tc BE k (.ret x) .ret fr st:=⟨Jm.noConfusion,h⟩
theorem I7{s:σ}(γ:Γ)(h:O6 n0 (B' γ s) (De γ s) fr st):ED (ρ:=ρ) n0 id B' De Fb Tb BE (.B7 s) .normal fr st:=⟨rfl,γ,h⟩
theorem K7{s:τ}(γ:Δ)(h:O6 n0 (Fb γ s) (Tb γ s) fr st):ED (ρ:=ρ) n0 id B' De Fb Tb BE (.brk s) (.exit id) fr st:=⟨rfl,γ,h⟩
theorem W0{x:ρ}(h:AQ.block id BE .ret fr st):ED n0 id B' De Fb Tb BE (.ret x) .ret fr st:=⟨Jm.noConfusion,h⟩
end
end
attribute [simp] p7j mH Ob.sc D.sc D.eI Fr.sc p6U
attribute [go_sem] or_true Int.cast_ofNat_Int p6V p6W p6X p6Y p6Z p7a p7b Int.reduceEq Int.reduceNe Nat.zero_le true_or List.length_replicate Option.mem_def Option.map_some Option.map_none false_implies forall_eq' Option.isSome_none Option.some.injEq p7l Int.le_refl decide_true decide_false p7f p7g p7h p7i i4g p6S p7k p7p IntKind.bits Option.isSome_map List.drop_zero Int.toNat_zero Int.reduceToNat Int.reduceNeg Int.reduceLT Int.reduceLE Nat.reducePow p7o p7m p7n Option.isSome_some av p6T i4h p7c p7d p7e Int.toNat_natCast Nat.zero_add Nat.sub_zero Nat.le_refl Int.natCast_nonneg Int.ofNat_lt reduceCtorEq Nat.reduceAdd Nat.reduceEqDiff Nat.reduceLT Nat.reduceLeDiff Nat.reduceMul Nat.reduceSub Nat.reduceBEq Nat.reduceBNe reduceIte
def C2(st:St):List (Nat×Ob)->St
 | []=>st
 |(o,x)::m=>(C2 st m).set o (some x)
def qI:List (Nat×Ob)->Nat->Option Ob->Option Ob
 | [],_,d=>d
 |(a,x)::m,o,d=>if o=a then some x else qI m o d
def qJ:List (Nat×Ob)->Nat->Ob->List (Nat×Ob)
 | [],o,x=>[(o,x)]
 |(a,y)::m,o,x=>if o=a then(a,x)::m else(a,y)::qJ m o x
theorem su(st:St):∀m:List (Nat×Ob),(C2 st m).length=st.length
 | []=>rfl
 |(o,x)::m=>by simp[C2,su st m]
theorem JN{st l:St}{o:Nat}(ho:o<st.length):∀m:List (Nat×Ob),look (C2 st m++l) o=qI m o (look st o)
 | []=>by simp only[C2,qI];unfold look;rw[cy ho]
 |(a,x)::m=>by
  have ih:=JN (l:=l) ho m;have hl:=su st m;simp only[C2,qI];unfold look at ih⊢;rw[cy (by simp[hl];exact ho)];rw[cy (by rw[hl];exact ho)]at ih;rw[pt];by_cases e:o=a
  ·grind
  ·grind
theorem d1W{st:St}{o:Nat}(ho:o<st.length)(m:List (Nat×Ob)):look (C2 st m) o=qI m o (look st o):=by have:=JN (l:=[]) ho m;rwa[gf]at this
theorem aN{st l:St}{m:List (Nat×Ob)}{k:Nat}:look (C2 st m++l) (st.length+k)=look l k:=by rw[<-su st m];exact P5
theorem Rm{st l:St}{m:List (Nat×Ob)}:look (C2 st m++l) st.length=look l 0:=aN (k:=0)
theorem JO{st l:St}{o:Nat}{x:Ob}(ho:o<st.length):∀m:List (Nat×Ob),(C2 st m++l).set o (some x)=C2 st (qJ m o x)++l
 | []=>by simp only[qJ,C2];rw[pc _ _ ho]
 |(a,y)::m=>by
  have ih:=JO (l:=l) (x:=x) ho m;have hl:=su st m;simp only[C2,qJ];rw[pc _ _ (by simp[hl];exact ho)];rw[pc _ _ (by rw[hl];exact ho)]at ih;have ih':=List.append_cancel_right ih;split
  ·rename_i e;subst e;simp[C2,List.set_set]
  ·rename_i e;simp only[C2];rw[List.set_comm _ _ (fun h=>e h.symm),ih']
theorem d1X{st:St}{o:Nat}(ho:o<st.length)(m:List (Nat×Ob)):(C2 st m).set o (some x)=C2 st (qJ m o x):=by have:=JO (l:=[]) (x:=x) ho m;rwa[gf,gf]at this
theorem i4j{st l:St}{m:List (Nat×Ob)}{k:Nat}{x:Option Ob}:(C2 st m++l).set (st.length+k) x=C2 st m++l.set k x:=by rw[<-su st m];exact i3x
theorem p7q{st l:St}{m:List (Nat×Ob)}{x:Option Ob}:(C2 st m++l).set st.length x=C2 st m++l.set 0 x:=i4j (k:=0)
theorem lq{st l:St}{m:List (Nat×Ob)}{k:Nat}:(C2 st m++l)[st.length+k]? =l[k]? :=by rw[<-su st m];exact je
theorem d1Y{st l:St}{m:List (Nat×Ob)}:(C2 st m++l)[st.length]? =l[0]? :=lq (k:=0)
theorem lu{st:St}:∀ {m:List (Nat×Ob)},(∀p∈m,look st p.1=some p.2)->C2 st m=st
 | [],_=>rfl
 |(o,x)::m,h=>by
  simp only[C2];rw[lu (fun p hp=>h p (List.mem_cons_of_mem _ hp))];have:=V7 (h (o,x) (List.mem_cons_self ..));apply A4;intro i;rw[pt];split
  ·grind
  ·rfl
theorem E2{st:St}{o:Nat}(h:look st o=some x):o<st.length:=(c7.1 (V7 h)).1
def oU(n:Nat):List (Nat×Ob)->Prop
 | []=>True
 |(_,x)::m=>x.sc n/\oU n m
theorem uX{st:St}(h:Q8 st.length st):∀ {m:List (Nat×Ob)},oU st.length m->Q8 (C2 st m).length (C2 st m)
 | [],_=>h
 |(o,x)::m,hm=>by
  have ih:=uX h hm.2;intro o' ob e;simp only[C2]at e⊢;rw[List.length_set];rw[pt]at e;split at e
  ·split at e
   ·cases e;rw[su];exact hm.1
   ·cases e
  ·exact ih o' ob e
section
variable {P:Program} {gl:Gl} {N n0:Nat} {keep:List Nat} {BE:AQ} {fr:Fr} {st:St} {c:Code}
theorem sv{s s':St}(e:s'=s)(h:F4 P gl N n0 keep c BE fr s'):F4 P gl N n0 keep c BE fr s:=e▸h
theorem EF{s l l':St}(hn:n0<=s.length)(hsc:Q8 s.length s)(hu:gn (s++l) (s++l') l l')(hl:mH (s++l').length l')(hf:gj (s++l) (s++l') fr B')(hs:Fr.sc (s++l').length B'):
 O6 n0 B' (s++l') fr (s++l):=.one ⟨by simp;omega,sj hsc hu hl,hf,hs⟩
theorem d1Z{s l:St}(hn:n0<=s.length)(hsc:Q8 s.length s)(hf:gj (s++l) s fr B')(hs:Fr.sc s.length B'):O6 n0 B' s fr (s++l):=.one ⟨hn,uU hsc,hf,hs⟩
theorem i4k{s:St}(hn:n0<=s.length)(hsc:Q8 s.length s)(hf:gj s s fr B')(hs:Fr.sc s.length B'):O6 n0 B' s fr s:=.one ⟨hn,JI hsc,hf,hs⟩
theorem i4l{s l:St}{d:D}(hn:n0<=s.length)(hsc:Q8 s.length s)(hu:Up (s++l) s d d')(hd:D.sc s.length d')(h:R d' s):fin n0 R d (s++l):=
 ⟨s,d',hn,uU hsc,hu,hd,h⟩
theorem i4m{s:St}{d:D}(hn:n0<=s.length)(hsc:Q8 s.length s)(hu:Up s s d d')(hd:D.sc s.length d')(h:R d' s):fin n0 R d s:=
 ⟨s,d',hn,JI hsc,hu,hd,h⟩
mutual
def D.flat:D->Bool
 | .bool _=>true
 | .int _ _=>true
 | .str _=>true
 | .agg cs=>D.Bh cs
 | .E8 cs=>D.Bh cs
 | _=>false
def D.Bh:List D->Bool
 | []=>true
 |d::l=>d.flat&&D.Bh l
end
theorem Rn:∀ {l:List D},D.Bh l=true->∀j (h:j<l.length),(l[j]).flat=true
 |d::l,h,0,_=>by simp only[D.Bh,ie]at h;exact h.1
 |d::l,h,j+1,L=>by simp only[D.Bh,ie]at h;exact Rn (l:=l) h.2 j (by simpa using L)
theorem VR.flat{w':World}{μ':Mu}{s s':St}{d:D}(h:VR w μ s v d)(hf:d.flat=true):VR w' μ' s' v d:=by
 induction h with
 |any=>cases hf
 |tr h=>
  cases h with
  |bool b=>exact .tr (.bool b)
  |int k n=>exact .tr (.int k n)
  |str x=>exact .tr (.str x)
  | _=>cases hf
 |agg vs cs hs K ih=>exact .agg vs cs hs fun j L=>ih j L (Rn hf j L)
 |E8 vs cs hs K ih=>exact .E8 vs cs hs fun j L=>ih j L (Rn hf j L)
 |fn=>cases hf
 |ref=>cases hf
 |ptr=>cases hf
 |mp=>cases hf
 |it=>cases hf
 |cond=>cases hf
def dead(st:St):St:=be st.length none
theorem EG{st:St}{o:Nat}:¬(dead st)[o]? =some (some ob):=by unfold dead;rw[List.getElem?_replicate];split<;>simp
theorem EH{st:St}{o:Nat}:look (dead st) o=none:=by
 cases h:look (dead st) o with
 |none=>rfl
 |some x=>exact absurd (V7 h) EG
theorem d2a{st:St}{blk:Nat}:¬own μ (dead st) blk:=fun⟨_,_,_,h,_⟩=>EG h
theorem i4n{st:St}:nP st (dead st):=⟨by simp[dead],fun _ _ h=>absurd h EG⟩
theorem Pure.borrow{r:D}(h:Pure P gl f args' r)(hu:bq st (dead st) args args')(hsc:D.eI (dead st).length args')(hr:r.flat=true)(hR:R r st):Spec P gl f args st R:=by
 refine⟨(h st).1,fun w μ vs hs hg hsz yu=>?_⟩;have hs0:J0 w μ (dead st):=⟨fun o ob e=>absurd e EG,fun o _ _ _ _ _ _ e=>absurd e EG⟩;have yx:Glob gl w μ (dead st):=Ek hg (fun blk H=>absurd H d2a);have uY:∀j (L:j<args'.length),VR w μ (dead st) (vs.getD j undef) (args'[j]):=fun j L=>by
  have hj':j<args.length:=by rw[<-hu.len];exact L
  exact VR.up hs i4n (hu.get j hj' L) (yu j hj') (mw hsc j L)
 refine((h (dead st)).2 w μ vs hs0 yx (by rw[hsz,hu.len]) uY).mono fun e w' ⟨v,d,st',μ',he,⟨hd,hst⟩,hs',hstep,Q⟩=>?_;subst hd;subst hst;have hblk:∀blk,blk<w.heap.size->w'.heap[blk]? =w.heap[blk]? :=fun blk H=>hstep.M7 blk H d2a;have hlt:∀ {blk:Nat},(w.heap[blk]?).isSome=true->blk<w.heap.size:=fun {blk} e=>by grind
 have step:Step w μ st w' μ st:={
  size:=hstep.size,os:=hstep.os,output:=hstep.output,tape:=hstep.tape
  M7:=fun blk H _=>hblk blk H
  own:=fun blk H=>.inl H
  len:=ae _
  keep:=fun o ob ho e=>⟨ob,e,by
   cases ob with
   |arr g n b es=>exact⟨ae _,fun _=>⟨rfl,rfl,rfl,rfl,fun blk base c ty _ hh=>⟨c,by rw[hblk blk (hlt (by rw[hh];rfl))];exact hh,rfl⟩⟩⟩
   |mps=>exact⟨rfl,rfl⟩
   |T9=>exact⟨rfl,rfl,rfl⟩
   |V0=>exact rfl
   |resv=>exact trivial⟩ }
 refine⟨v,d,st,μ,he,hR,⟨fun o ob e=>?_,hs.inj⟩,step,Q.flat hr⟩;have ak:=hs.obj o ob e;refine ak.step step fun blk base em=>?_;cases ob with
 |arr g n b es=>
  have⟨_,_,h3⟩:=(ak:bk w μ st (μ o) n b es);rcases h3 with⟨h3,_⟩|⟨bS,base',c,ty,em',hh,_⟩
  ·rw[em]at h3;cases h3
  ·grind
 |mps ag es=>have⟨bS,ents,clock,_,em',hh,_⟩:=(ak:aW _ ag w μ _ (μ o) es).loc;rw[em]at em';cases em';exact hblk _ (hlt (by rw[hh];rfl))
 |T9 ag k es=>have⟨bS,ents,clock,_,em',hh,_⟩:=(ak:aW _ ag w μ _ (μ o) es).loc;rw[em]at em';cases em';exact hblk _ (hlt (by rw[hh];rfl))
 |V0 s p=>have⟨bS,em',hh⟩:=ak;rw[em]at em';cases em';exact hblk _ (hlt (by rw[hh];rfl))
 |resv=>have:μ o=none:=ak;rw[em]at this;cases this
end
section
variable {P:Program} {gl:Gl} {st:St}
theorem Pure.freeze{r:D}(h:Pure P gl f args' r)(hw:mG st De)(hl:st.length<=De.length)(hu:bq st De args args')(hsc:D.eI De.length args')(hR:R r De):Spec P gl f args st R:=by
 refine⟨(h De).1,fun w μ vs hs hg hsz yu=>?_⟩;have uY:∀j (L:j<args'.length),VR w μ De (vs.getD j undef) (args'[j]):=fun j L=>by
  have hj':j<args.length:=by rw[<-hu.len];exact L
  exact VR.up hs hw.kill (hu.get j hj' L) (yu j hj') (mw hsc j L)
 refine((h De).2 w μ vs (hs.wk hw) (Ek hg (fun _ h=>hw.kill.own h)) (by rw[hsz,hu.len]) uY).mono fun e w' ⟨v,d,st',μ',he,⟨hd,hst⟩,hs',hstep,Q⟩=>?_;subst hd;subst hst;exact⟨v,d,st',μ',he,hR,hs',(Step.wk hl hw (Step.refl w μ st)).trans hstep,Q⟩
end
attribute [simp] oU su
attribute [go_sem] qI qJ aN Rm i4j p7q su
theorem d2b{st:St}{m:List (Nat×Ob)}{k:Nat}:look (C2 st m) (st.length+k)=none:=by rw[<-su st m];exact uV
theorem i4o{st:St}{m:List (Nat×Ob)}:look (C2 st m) st.length=none:=d2b (k:=0)
theorem qK{st t:St}{m:List (Nat×Ob)}(h:t.length<=k):look (C2 st m++t) (st.length+k)=none:=by rw[<-su st m];exact JL h
attribute [go_sem] p5c p5d
section
variable {P:Program} {gl:Gl} {N b:Nat} {fr:Fr} {st:St} {dst:Option Nat} {f:FuncId} {args:List D} {r:D} {lg:Log} {tr G:Bool} {kk:Log->Fr->St->Prop} {k:Fr->St->Prop}
theorem i4p(rd:List Nat){ups:List (Nat×Ob)}(h:∀st2,(∀o∈rd,look st2 o=look st o)->Spec P gl f args st2 fun d st'=>d=r/\st'=puts st2 ups)(hu:∀p∈ups,p.1∈rd)
 (hrd:∀o∈rd,o<b/\∃ob,look st o=some ob/\ob≠ .resv) (F:tr=false->rd=[]) (S:kk (iA tr lg ⟨r,True,rd,none,none⟩ ups) (fr.U3 dst r) (puts st ups)):
 yq P gl b tr dst lg fr st kk f args:=
 ⟨r,rd,ups,h,hu,fun o ho=>⟨.inl (hrd o ho).1,(hrd o ho).2⟩,F,S⟩
theorem i4q{ups:List (Nat×Ob)}(h:G=true->Spec P gl f args st fun d st'=>d=r/\st'=puts st ups)(hf:G=false->puts st ups=st)(S:k (fr.U3 dst (.cond G r)) (puts st ups)):
 AG P gl G dst fr st k f args:=⟨r,ups,h,hf,S⟩
end
section
variable {P:Program} {gl:Gl} {N:Nat} {w0:World} {μ0:Mu} {st0:St}
variable {n0:Nat} {keep:List Nat} {Rc:AQ} {fr:Fr} {st:St}
end
