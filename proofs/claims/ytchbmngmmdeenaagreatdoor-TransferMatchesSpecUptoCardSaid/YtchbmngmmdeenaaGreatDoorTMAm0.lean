import Derived.WalkKit
import Derived.KernelRfl
import Derived.MapKept
import Derived.Lib.ConvBytes
import Derived.Laws.AppendOwn
import Derived.Laws.BytesArg
open Array renaming getElem?_push->r6,getElem_toList->rv,getD_eq_getD_getElem?->ca,getElem?_eq_getElem->dv,foldl_toList->yy,range->nt,getElem?_modify->gw
open Bool renaming or_eq_true->rl,false_eq_true->ib,and_eq_true->ie,not_eq_true'->l5
open ByteArray renaming size->tm,getElem_eq_getElem_data->Lt,ext->As,data_extract->Ly
open Go.Builtin renaming len_->l4,cap_->CI,max_->CL,min_->CR
open Go.ByteArray renaming getElem?_lt'->KK
open Go.Instr renaming loadAt->xi,sureAddr->ms,storeAt->DO,box->ID,alloc->GT,fieldAt->we,field->Ha,indexAt->pp,index->xz,sliceBound->A2,sliceBounds->An,sliceAt->ma,slice->pk,fill->sb,buildSlice->np,makeSlice->un,sameNow->lp,findNow->pr,lookup->pd,sameBits->CE,mapUpdate->mf,extract->mb
open Go.IntKind renaming i64->xj,min->EE,max->xl,wrap->CC,signed->ut,bits->wi
open Go.Lib renaming bytesWorld->pj,bytesWorld_size->AC
open Go.MapKept renaming run_getObj_map->jp
open Go.Op renaming bytesLess->l9,intArith->ve,intCmp->sd,stringOp->pb,equalIn->qi,eqFields->r7,equal->ue,maxDepth->pM
open Go.Program renaming fieldsOf->sr
open Go.Result renaming andThen_ok->dm
open Go.Sem renaming run_bind->eQ,run_ite->yz
open Go.Value renaming cells->ye,oneCell'->Cs,int->l6,string->so
open Go.World renaming cell?->l7,alloc->ri,freeze->ss,drew->vj,alloc_eq->rp,drew_eq->r8
open List renaming getElem?_eq_some_iff->c7,getElem?_set_ne->k7,replicate->be,length_take->db,range->ol,getElem_mem->bt,getD->I1,length_drop->iv,all_eq_true->fc,getElem?_eq_getElem->b7,getElem_set->ua,getElem_map->ub,getElem_cons_zero->kb,mem_map_of_mem->sf,getElem_take->k8,getElem_drop->io,mem_of_mem_drop->yf,mem_of_mem_take->ov,length_pos_iff->km,foldl_cons->wa,zipIdx_cons->By,eq_of_mem_replicate->wx,getElem?_set_self->gm,nodup_nil->lh,map_cons->bv,nodup_cons->ia,mem_cons->ce,mem_map->bj,eq_nil_of_length_eq_zero->jb,getD_eq_getElem?_getD->ac
open Nat renaming le_trans->js,lt_or_ge->il,le_refl->ae,lt_of_lt_of_le->gr,le_antisymm->DD,zero_add->dq,mul_le_mul_right->du,add_mul->fk,add_zero->ky,not_lt_zero->co,zero_le->li,add_assoc->da,add_comm->n5,mul_eq_zero->Eg,mul_one->IF
open Ne renaming symm->pw
open Option renaming none->ti,getD_some->nf,map_some->kx
open Option.some renaming inj->dj,injEq->I2
namespace Go.Am
open Go
variable {ag:Bool} {b blk c f g n o off q sz:Nat} {m:Option (Nat×Nat)} {P:Program} {p:Prop} {t:TypeId} {v:Value} {w w':World}
theorem M(h:p:=by omega):p:=h
theorem B5(h:p:=by simp):p:=h
theorem D5(h:p:=by decide):p:=h
abbrev J:=List UInt8
def bs(l:J):ByteArray:=⟨l.toArray⟩
inductive D where
 |any
 |bool (b:Bool)
 |int (k:IntKind) (n:Int)
 |str (s:J)
 |Z6
 |A9
 |Q7
 |S8
 |sl (full:Bool) (n b:Nat) (es:List (List D))
 |agg (cs:List D)
 |E8 (cs:List D)
 |fn (f:Nat) (first cap:List D)
 |bR (cs:List D)
 |ref (full:Bool) (o g off len:Nat)
 |ptr (o g i c:Nat)
 |mp (o:Nat)
 |it (o:Nat)
 |cond (g:Bool) (d:D)
 deriving Inhabited
def D.live:D->Bool
 | .cond g _=>g
 | _=>true
inductive Ob where
 |arr (g n b:Nat) (es:List (List D))
 |mps (ag:Bool) (es:List (J×List D))
 |T9 (ag:Bool) (k:IntKind) (es:List (Int×List D))
 |V0 (s:J) (pos:Nat)
 |resv
 deriving Inhabited
abbrev St:=List (Option Ob)
def puts(st:St):List (Nat×Ob)->St
 | []=>st
 |(o,x)::m=>(puts st m).set o (some x)
theorem p5c{st:St}:puts st []=st:=rfl
theorem p5d{st:St}{x:Ob}{m:List (Nat×Ob)}:puts st ((o,x)::m)=(puts st m).set o (some x):=rfl
abbrev Mu:=Nat->Option (Nat×Nat)
def top:Nat:=140737488355328
def own(μ:Mu)(st:St)(blk:Nat):Prop:=∃o ob base,st[o]? =some (some ob)/\μ o=some (blk,base)
inductive TR(w:World)(own:Nat->Prop):Value->D->Prop
 |any (v:Value) (h:v.oneCell'=true):TR w own v .any
 |bool (b:Bool):TR w own (.bool b) (.bool b)
 |int (k:IntKind) (n:Int):TR w own (.int k n) (.int k n)
 |str (s:J):TR w own (.string (bs s)) (.str s)
 |Z6:TR w own (.pointer none) .Z6
 |A9:TR w own (.slice none 0 0) .A9
 |Q7:TR w own .nilFunc .Q7
 |S8:TR w own (.map none) .S8
 |sl (full:Bool) (n b:Nat) (es:List (List D)) (a:Option Addr) (len cap:Nat) (cv:Nat->Nat->Value)
  (hlen:len=es.length) (hcap:len<=cap) (fY:full=true->cap=len) (H:es.length*b<=top) (hb1:1<=b)
  (hn:∀e∈es,e.length=n)
  (ha:es=[]\/∃blk off,a=some ⟨blk,off,none⟩/\blk<w.heap.size/\¬own blk/\
   ∀i j,i<es.length->j<n->w.cell? ⟨blk,off+(i*n+j),none⟩=some (cv i j))
  (K:∀i j (u:i<es.length) (L:j<(es[i]).length),TR w own (cv i j) ((es[i])[j])):
  TR w own (.slice a len cap) (.sl full n b es)
 |bR (cs:List D) (blk off:Nat) (cv:Nat->Value) (hblk:blk<w.heap.size) (hown:¬own blk)
  (ha:∀j,j<cs.length->w.cell? ⟨blk,off+j,none⟩=some (cv j))
  (K:∀j (L:j<cs.length),TR w own (cv j) (cs[j])):TR w own (.pointer (some ⟨blk,off,none⟩)) (.bR cs)
def Ag(w:World)(m:Option (Nat×Nat))(n:Nat)(es:List (List D))(full:Bool)(off len:Nat)(v:Value):Prop:=
 ∃a cap,v= .slice a len cap/\len<=cap/\off+len<=es.length/\(full=true->cap=len)/\
  (cap=0\/∃blk base,m=some (blk,base)/\a=some ⟨blk,base+off*n,none⟩/\
   ∃c ty,w.heap[blk]? =some (.cells c ty (0,0))/\base+(off+cap)*n<=c.size)
inductive VR(w:World)(μ:Mu)(st:St):Value->D->Prop
 |any (v:Value):VR w μ st v .any
 |tr {v:Value} {d:D} (h:TR w (own μ st) v d):VR w μ st v d
 |agg (vs:Array Value) (cs:List D) (hs:vs.size=cs.length) (K:∀j (h:j<cs.length),VR w μ st (vs.getD j undef) (cs[j])):
  VR w μ st (.agg vs) (.agg cs)
 |E8 (vs:Array Value) (cs:List D) (hs:∀j (h:j<cs.length),(cs[j]).live=true->j<vs.size) (K:∀j (h:j<cs.length),VR w μ st (vs.getD j undef) (cs[j])):
  VR w μ st (.tuple vs) (.E8 cs)
 |fn (f:Nat) (vf vc:Array Value) (first cap:List D) (hf:vf.size=first.length) (K:vc.size=cap.length)
  (Ah:∀j (h:j<first.length),VR w μ st (vf.getD j undef) (first[j])) (T4:∀j (h:j<cap.length),VR w μ st (vc.getD j undef) (cap[j])):
  VR w μ st (.func (.func f) vf vc) (.fn f first cap)
 |ref (v:Value) (full:Bool) (o g off len:Nat) (Q:∃a l c,v= .slice a l c) (ho:o<st.length) (hr:st[o]? ≠some (some .resv)) (hg:∀g' n b es,st[o]? =some (some (.arr g' n b es))->g<=g')
  (h:∀n b es,st[o]? =some (some (.arr g n b es))->Ag w (μ o) n es full off len v):VR w μ st v (.ref full o g off len)
 |ptr (v:Value) (o g i c:Nat) (Q:∃a,v= .pointer (some a)) (ho:o<st.length) (hr:st[o]? ≠some (some .resv)) (hg:∀g' n b es,st[o]? =some (some (.arr g' n b es))->g<=g')
  (h:∀n b es,st[o]? =some (some (.arr g n b es))->∃blk base,μ o=some (blk,base)/\v= .pointer (some ⟨blk,base+(i*n+c),none⟩)):
  VR w μ st v (.ptr o g i c)
 |mp (v:Value) (o:Nat) (Q:∃r,v= .map (some r)) (ho:o<st.length) (hr:st[o]? ≠some (some .resv)) (U:∀ag es,st[o]? =some (some (.mps ag es))->∃blk,μ o=some (blk,0)/\v= .map (some blk))
  (X:∀ag k es,st[o]? =some (some (.T9 ag k es))->∃blk,μ o=some (blk,0)/\v= .map (some blk)):
  VR w μ st v (.mp o)
 |it (v:Value) (o:Nat) (Q:∃a,v= .pointer (some a)) (ho:o<st.length) (hr:st[o]? ≠some (some .resv)) (h:∀s p,st[o]? =some (some (.V0 s p))->∃blk,μ o=some (blk,0)/\v= .pointer (some ⟨blk,0,none⟩)):
  VR w μ st v (.it o)
 |cond (v:Value) (g:Bool) (d:D) (h:g=true->VR w μ st v d) (h0:g=false->v=undef):VR w μ st v (.cond g d)
structure bk(w:World)(μ:Mu)(st:St)(m:Option (Nat×Nat))(n b:Nat)(es:List (List D)):Prop where
 Pc:es.length*b<=top
 hn:∀e∈es,e.length=n
 loc:(m=none/\es=[])\/∃blk base c ty,m=some (blk,base)/\w.heap[blk]? =some (.cells c ty (0,0))/\base+es.length*n<=c.size/\
  ∀i j (u:i<es.length) (L:j<(es[i]).length),∃v,c[base+(i*n+j)]? =some v/\VR w μ st v ((es[i])[j])/\v.oneCell'=true
def nE(ag:Bool)(w:World)(μ:Mu)(st:St)(v:Value)(cs:List D):Prop:=
 if ag then VR w μ st v (.agg cs)else ∃d,cs=[d]/\VR w μ st v d
structure DP{yo xx:Type}(ents:Array MapEntry)(clock:Nat)(es es':List (yo×xx)):Prop where
 perm:es'.Perm es
 nd:(es.map (·.1)).Nodup
 Ai:clock=ents.size
 born:∀(i:Nat)(e:MapEntry),ents[i]? =some e->e.born=i
structure aW{yo:Type}(key:yo->Value)(ag:Bool)(w:World)(μ:Mu)(st:St)(m:Option (Nat×Nat))(es:List (yo×List D)):Prop where
 loc:∃blk ents clock,∃es':List (yo×List D),m=some (blk,0)/\w.heap[blk]? =some (.map ents clock)/\ents.size=es'.length/\
  (∀i (u:i<es'.length),∃e,ents[i]? =some e/\e.key=key (es'[i]).1/\nE ag w μ st e.val (es'[i]).2)/\DP ents clock es es'
def uf(w:World)(μ:Mu)(st:St)(m:Option (Nat×Nat)):Ob->Prop
 | .arr _ n b es=>bk w μ st m n b es
 | .mps ag es=>aW (fun k=>.string (bs k)) ag w μ st m es
 | .T9 ag k es=>aW (fun n=>.int k n) ag w μ st m es
 | .V0 s p=>∃blk,m=some (blk,0)/\w.heap[blk]? =some (.stringIter (bs s) p)
 | .resv=>m=none
structure J0(w:World)(μ:Mu)(st:St):Prop where
 obj:∀o ob,st[o]? =some (some ob)->uf w μ st (μ o) ob
 inj:∀o o' ob ob' blk b b',st[o]? =some (some ob)->st[o']? =some (some ob')->μ o=some (blk,b)->μ o'=some (blk,b')->o=o'
def eF(w w':World)(m m':Option (Nat×Nat)):Ob->Ob->Prop
 | .arr g n b es,.arr g' n' b' es'=>g<=g'/\(g=g'->n'=n/\b'=b/\es'.length=es.length/\m'=m/\
   ∀blk base c ty,m=some (blk,base)->w.heap[blk]? =some (.cells c ty (0,0))->∃c',w'.heap[blk]? =some (.cells c' ty (0,0))/\c'.size=c.size)
 | .mps ag _,.mps xH _=>ag=xH/\m'=m
 | .T9 ag k _,.T9 xH k' _=>ag=xH/\k=k'/\m'=m
 | .V0 _ _,.V0 _ _=>m'=m
 | .resv,_=>True
 | _,_=>False
def Dr(w w':World):Prop:=w.drawn<=w'.drawn
theorem Dr.le(h:w.drawn<=w'.drawn):Dr w w':=by first|exact h|trivial
theorem Dr.trans{a b c:World}(h:Dr a b)(k:Dr b c):Dr a c:=by first|exact js h k|trivial
structure Step(w:World)(μ:Mu)(st:St)(w':World)(μ':Mu)(st':St):Prop where
 size:w.heap.size<=w'.heap.size
 os:w'.os=w.os
 output:w'.output=w.output
 tape:w'.tape=w.tape/\Dr w w'
 M7:∀blk,blk<w.heap.size->¬own μ st blk->w'.heap[blk]? =w.heap[blk]?
 own:∀blk,own μ' st' blk->own μ st blk\/w.heap.size<=blk
 len:st.length<=st'.length
 keep:∀o ob',o<st.length->st'[o]? =some (some ob')->∃ob,st[o]? =some (some ob)/\eF w w' (μ o) (μ' o) ob ob'
theorem TR.mono{own Zx:Nat->Prop}{d:D}(h:TR w own v d)
 (S:∀blk,blk<w.heap.size->¬own blk->w'.heap[blk]? =w.heap[blk]? /\¬Zx blk) (hs:w.heap.size<=w'.heap.size):TR w' Zx v d:=by
 induction h with
 |any v h=>exact .any v h
 |bool b=>exact .bool b
 |int k n=>exact .int k n
 |str s=>exact .str s
 |Z6=>exact .Z6
 |A9=>exact .A9
 |Q7=>exact .Q7
 |S8=>exact .S8
 |sl full n b es a len cap cv hlen hcap fY H hb1 hn ha K ih=>
  refine .sl full n b es a len cap cv hlen hcap fY H hb1 hn ?_ ih;rcases ha with ha|⟨blk,off,ea,hblk,hown,hcell⟩
  ·exact .inl ha
  ·have⟨e1,e2⟩:=S blk hblk hown;refine .inr ⟨blk,off,ea,by omega,e2,fun i j u L=>?_⟩;have:=hcell i j u L;simpa only[l7, e1]using this
 |bR cs blk off cv hblk hown ha K ih=>have⟨e1,e2⟩:=S blk hblk hown;exact .bR cs blk off cv M e2 (fun j L=>by simpa only[l7, e1]using ha j L) ih
theorem Aj{μ:Mu}{st:St}(hs:J0 w μ st)(h:own μ st blk):blk<w.heap.size:=by
 have⟨o,ob,base,ho,hm⟩:=h;have:=hs.obj o ob ho;cases ob with
 |arr g n b es=>
  have X:bk w μ st (μ o) n b es:=this;rcases X.loc with⟨e,_⟩|⟨bS,base',c,ty,e,hh,_⟩
  ·rw[hm]at e;cases e
  ·grind
 |mps ag es=>
  have X:aW _ ag w μ st (μ o) es:=this;have⟨bS,ents,clock,_,e,hh,_⟩:=X.loc;rw[hm]at e;cases e;rcases il blk w.heap.size with h'|h'
  ·exact h'
  ·grind
 |T9 ag k es=>
  have X:aW _ ag w μ st (μ o) es:=this;have⟨bS,ents,clock,_,e,hh,_⟩:=X.loc;rw[hm]at e;cases e;rcases il blk w.heap.size with h'|h'
  ·exact h'
  ·grind
 |V0 s p=>
  obtain⟨bS,e,hh⟩:∃blk,μ o=some (blk,0)/\w.heap[blk]? =some (.stringIter (bs s) p):=this;rw[hm]at e;cases e;rcases il blk w.heap.size with h'|h'
  ·exact h'
  ·grind
 |resv=>have e:μ o=none:=this;rw[hm]at e;cases e
theorem eF.refl(w:World)(m:Option (Nat×Nat))(ob:Ob):eF w w m m ob ob:=by
 cases ob with
 |arr g n b es=>exact⟨ae _,fun _=>⟨rfl,rfl,rfl,rfl,fun blk base c ty _ hh=>⟨c,hh,rfl⟩⟩⟩
 |mps=>exact⟨rfl,rfl⟩
 |T9=>exact⟨rfl,rfl,rfl⟩
 |V0=>rfl
 |resv=>trivial
theorem eF.trans{w'':World}{m' m'':Option (Nat×Nat)}{a b c:Ob}(U:eF w w' m m' a b)(X:eF w' w'' m' m'' b c):eF w w'' m m'' a c:=by
 cases a with
 |resv=>cases c<;>trivial
 |mps=>cases b<;>cases c<;>simp_all [eF]
 |T9=>cases b<;>cases c<;>simp_all [eF]
 |V0=>cases b<;>cases c<;>simp_all [eF]
 |arr g n b1 es=>
  cases b with
  |resv=>exact U.elim
  |mps=>exact U.elim
  |T9=>exact U.elim
  |V0=>exact U.elim
  |arr g' n' b' es'=>
   cases c with
   |resv=>exact X.elim
   |mps=>exact X.elim
   |T9=>exact X.elim
   |V0=>exact X.elim
   |arr g'' n'' b'' p5f=>
    have⟨l1,k1⟩:=U;have⟨l2,k2⟩:=X;refine⟨js l1 l2,fun e=>?_⟩;have e1:g=g':=by omega
    have e2:g'=g'':=by omega
    have⟨I,a2,a3,a4,a5⟩:=k1 e1;have⟨b1,b2,b3,b4,b5⟩:=k2 e2;refine⟨b1.trans I,b2.trans a2,b3.trans a3,b4.trans a4,fun blk base c ty hm hh=>?_⟩;have⟨c',hc',hs'⟩:=a5 blk base c ty hm hh;have⟨c'',hc'',i1D⟩:=b5 blk base c' ty (a4.trans hm) hc';exact⟨c'',hc'',i1D.trans hs'⟩
theorem Step.refl(w:World)(μ:Mu)(st:St):Step w μ st w μ st:=
 ⟨ae _,rfl,rfl,⟨rfl,Dr.le (ae _)⟩,fun _ _ _=>rfl,fun _ h=>.inl h,ae _,fun _ ob' _ h=>⟨ob',h,eF.refl _ _ _⟩⟩
theorem Step.trans{w'':World}{μ μ' Zy:Mu}{st st' oE:St}(U:Step w μ st w' μ' st')(X:Step w' μ' st' w'' Zy oE):Step w μ st w'' Zy oE where
 size:=js U.size X.size
 os:=X.os.trans U.os
 output:=X.output.trans U.output
 tape:=⟨X.tape.1.trans U.tape.1,U.tape.2.trans X.tape.2⟩
 M7:=fun blk H hn=>(X.M7 blk (gr H U.size) (fun ho=>by
  rcases U.own blk ho with h|h
  ·exact hn h
  ·omega)).trans (U.M7 blk H hn)
 own:=fun blk ho=>by
  rcases X.own blk ho with h|h
  ·exact U.own blk h
  ·exact .inr (js U.size h)
 len:=js U.len X.len
 keep:=fun o i1E ho h=>by have⟨ob',h',s'⟩:=X.keep o i1E (gr ho U.len) h;have⟨ob,h0,Y⟩:=U.keep o ob' ho h';exact⟨ob,h0,Y.trans s'⟩
theorem TR.step{μ μ':Mu}{st st':St}{d:D}(h:TR w (own μ st) v d)(s:Step w μ st w' μ' st'):TR w' (own μ' st') v d:=
 h.mono (fun blk H hn=>⟨s.M7 blk H hn,fun ho=>by
  rcases s.own blk ho with h|h
  ·exact hn h
  ·omega⟩) s.size
theorem Ag.step{m':Option (Nat×Nat)}{es es':List (List D)}{full:Bool}{len:Nat}{n' b':Nat}
 (h:Ag w m n es full off len v) (k:eF w w' m m' (.arr g n b es) (.arr g n' b' es')):Ag w' m' n' es' full off len v:=by
 have⟨_,k⟩:=k
 obtain⟨rfl,rfl,k3,rfl,k5⟩:=k rfl
 have⟨a,cap,e1,e2,e3,ef,e4⟩:=h
 refine⟨a,cap,e1,e2,by omega,ef,?_⟩
 rcases e4 with e4|⟨blk,base,em,ea,c,ty,hh,hs⟩
 ·exact .inl e4
 ·have⟨c',hc',hs'⟩:=k5 blk base c ty em hh;exact .inr ⟨blk,base,em,ea,c',ty,hc',by omega⟩
theorem Iz{μ μ':Mu}{st st':St}(s:Step w μ st w' μ' st')(ho:o<st.length)
 (hr:st[o]? ≠some (some .resv)):st'[o]? ≠some (some .resv):=fun e=>by
 have⟨ob,h,k⟩:=s.keep o .resv ho e
 cases ob with
 |resv=>exact hr h
 |arr=>exact k.elim
 |mps=>exact k.elim
 |T9=>exact k.elim
 |V0=>exact k.elim
theorem VR.step{μ μ':Mu}{st st':St}{d:D}(h:VR w μ st v d)(s:Step w μ st w' μ' st'):VR w' μ' st' v d:=by
 induction h with
 |any v=>exact .any v
 |tr h=>exact .tr (h.step s)
 |agg vs cs hs K ih=>exact .agg vs cs hs ih
 |E8 vs cs hs K ih=>exact .E8 vs cs hs ih
 |fn f vf vc first cap hf K Ah T4 ih1 ih2=>exact .fn f vf vc first cap hf K ih1 ih2
 |ref v full o g off len Q ho hr hg h=>
  have back:∀g' n b es,st'[o]? =some (some (.arr g' n b es))->∃g0 n0 b0 fZ,st[o]? =some (some (.arr g0 n0 b0 fZ))/\eF w w' (μ o) (μ' o) (.arr g0 n0 b0 fZ) (.arr g' n b es):=by
   intro g' n b es e;have⟨ob,h0,k⟩:=s.keep o _ ho e;cases ob with
   |arr g0 n0 b0 fZ=>grind
   |mps=>exact k.elim
   |T9=>exact k.elim
   |V0=>exact k.elim
   |resv=>exact absurd h0 hr
  refine .ref v full o g off len Q (gr ho s.len) (Iz s ho hr) (fun g' n b es e=>?_) (fun n b es e=>?_)
  ·have⟨g0,n0,b0,fZ,h0,k⟩:=back g' n b es e;exact js (hg g0 n0 b0 fZ h0) k.1
  ·have⟨g0,n0,b0,fZ,h0,k⟩:=back g n b es e;have e1:g0=g:=DD k.1 (hg g0 n0 b0 fZ h0);subst e1;exact(h n0 b0 fZ h0).step k
 |ptr v o g i c Q ho hr hg h=>
  have back:∀g' n b es,st'[o]? =some (some (.arr g' n b es))->∃g0 n0 b0 fZ,st[o]? =some (some (.arr g0 n0 b0 fZ))/\eF w w' (μ o) (μ' o) (.arr g0 n0 b0 fZ) (.arr g' n b es):=by
   intro g' n b es e;have⟨ob,h0,k⟩:=s.keep o _ ho e;cases ob with
   |arr g0 n0 b0 fZ=>grind
   |mps=>exact k.elim
   |T9=>exact k.elim
   |V0=>exact k.elim
   |resv=>exact absurd h0 hr
  refine .ptr v o g i c Q (gr ho s.len) (Iz s ho hr) (fun g' n b es e=>?_) (fun n b es e=>?_)
  ·have⟨g0,n0,b0,fZ,h0,k⟩:=back g' n b es e;exact js (hg g0 n0 b0 fZ h0) k.1
  ·have⟨g0,n0,b0,fZ,h0,k⟩:=back g n b es e;have e1:g0=g:=DD k.1 (hg g0 n0 b0 fZ h0);subst e1;have⟨_,k⟩:=k;obtain⟨rfl,rfl,k3,k4,k5⟩:=k rfl;have⟨blk,base,em,ev⟩:=h _ _ _ h0;exact⟨blk,base,k4.trans em,ev⟩
 |mp v o Q ho hr U X=>
  refine .mp v o Q (gr ho s.len) (Iz s ho hr) (fun ag es e=>?_) (fun ag kk es e=>?_)
  ·have⟨ob,h0,k⟩:=s.keep o _ ho e;cases ob with
   |arr=>exact k.elim
   |mps Pf fZ=>have⟨blk,em,ev⟩:=U Pf fZ h0;exact⟨blk,(show μ' o=μ o from k.2).trans em,ev⟩
   |T9=>exact k.elim
   |V0=>exact k.elim
   |resv=>exact absurd h0 hr
  ·have⟨ob,h0,k⟩:=s.keep o _ ho e;cases ob with
   |arr=>exact k.elim
   |T9 Pf k0 fZ=>have⟨blk,em,ev⟩:=X Pf k0 fZ h0;exact⟨blk,(show μ' o=μ o from k.2.2).trans em,ev⟩
   |mps=>exact k.elim
   |V0=>exact k.elim
   |resv=>exact absurd h0 hr
 |it v o Q ho hr h=>
  refine .it v o Q (gr ho s.len) (Iz s ho hr) (fun Y p e=>?_);have⟨ob,h0,k⟩:=s.keep o _ ho e;cases ob with
  |arr=>exact k.elim
  |mps=>exact k.elim
  |T9=>exact k.elim
  |V0 s1 p1=>have⟨blk,em,ev⟩:=h s1 p1 h0;exact⟨blk,(show μ' o=μ o from k).trans em,ev⟩
  |resv=>exact absurd h0 hr
 |cond v g d h h0 ih=>exact .cond v g d ih h0
theorem nE.step{μ μ':Mu}{st st':St}{cs:List D}(h:nE ag w μ st v cs)(s:Step w μ st w' μ' st'):nE ag w' μ' st' v cs:=by
 cases ag with
 |true=>exact VR.step h s
 |false=>have⟨d,e,h⟩:=h;exact⟨d,e,h.step s⟩
theorem uf.step{μ μ':Mu}{st st':St}{ob:Ob}(h:uf w μ st m ob)(s:Step w μ st w' μ' st')
 (H:∀blk base,m=some (blk,base)->w'.heap[blk]? =w.heap[blk]?):uf w' μ' st' m ob:=by
 cases ob with
 |arr g n b es=>
  have⟨U,X,h3⟩:=(h:bk w μ st m n b es);refine(⟨U,X,?_⟩:bk w' μ' st' m n b es);rcases h3 with h3|⟨blk,base,c,ty,em,hh,hsz,K⟩
  ·exact .inl h3
  ·refine .inr ⟨blk,base,c,ty,em,(H blk base em).trans hh,hsz,fun i j u L=>?_⟩;have⟨v,e,Q,U⟩:=K i j u L;exact⟨v,e,Q.step s,U⟩
 |mps ag es=>have⟨blk,ents,clock,ez,em,hh,hsz,K,A⟩:=(h:aW _ ag w μ st m es).loc;refine(⟨⟨blk,ents,clock,ez,em,(H blk 0 em).trans hh,hsz,fun i u=>?_,A⟩⟩:aW _ ag w' μ' st' m es);have⟨e,e1,e2,e3⟩:=K i u;exact⟨e,e1,e2,e3.step s⟩
 |T9 ag k es=>have⟨blk,ents,clock,ez,em,hh,hsz,K,A⟩:=(h:aW _ ag w μ st m es).loc;refine(⟨⟨blk,ents,clock,ez,em,(H blk 0 em).trans hh,hsz,fun i u=>?_,A⟩⟩:aW _ ag w' μ' st' m es);have⟨e,e1,e2,e3⟩:=K i u;exact⟨e,e1,e2,e3.step s⟩
 |V0 t p=>have⟨blk,em,hh⟩:=h;exact⟨blk,em,(H blk 0 em).trans hh⟩
 |resv=>exact h
theorem i1F{μ μ':Mu}{st:St}{x:Option Ob}(hμ:∀o',o'≠o->μ' o'=μ o')(h:own μ' (st.set o x) blk):
 (∃o' ob base,o'≠o/\st[o']? =some (some ob)/\μ o'=some (blk,base))\/(∃ob base,x=some ob/\μ' o=some (blk,base)):=by
 have⟨o',ob,base,ho,hm⟩:=h
 by_cases e:o'=o
 ·grind
 ·grind
theorem jS{w w':World}{μ μ':Mu}{st:St}{o:Nat}{ob ob':Ob}(hs:J0 w μ st)(ho:st[o]? =some (some ob))
 (hμ:∀o',o'≠o->μ' o'=μ o')
 (aJ:∀blk,blk<w.heap.size->(∀base,μ o≠some (blk,base))->w'.heap[blk]? =w.heap[blk]?)
 (hsize:w.heap.size<=w'.heap.size) (hos:w'.os=w.os) (hout:w'.output=w.output) (i1G:w'.tape=w.tape/\Dr w w')
 (hblk:∀blk base,μ' o=some (blk,base)->(∃b0,μ o=some (blk,b0))\/w.heap.size<=blk)
 (hstep:eF w w' (μ o) (μ' o) ob ob')
 (ak:Step w μ st w' μ' (st.set o (some ob'))->uf w' μ' (st.set o (some ob')) (μ' o) ob'):
 J0 w' μ' (st.set o (some ob'))/\Step w μ st w' μ' (st.set o (some ob')):=by
 have hlt:o<st.length:=(c7.1 ho).1
 have other:∀o' bY blk base,o'≠o->st[o']? =some (some bY)->μ o'=some (blk,base)->w'.heap[blk]? =w.heap[blk]? :=by intro o' bY blk base hne U hm;refine aJ blk (Aj hs ⟨o',bY,base,U,hm⟩) (fun b0 h0=>hne ?_);exact hs.inj o' o bY ob blk base b0 U ho hm h0
 have step:Step w μ st w' μ' (st.set o (some ob')):=by
  refine⟨hsize,hos,hout,i1G,fun blk H hn=>aJ blk H (fun base e=>hn ⟨o,ob,base,ho,e⟩),fun blk hw=>?_,by simp,fun o' bY hl U=>?_⟩
  ·rcases i1F hμ hw with⟨o',bY,base,hne,U,hm⟩|⟨bY,base,_,hm⟩
   ·exact .inl ⟨o',bY,base,U,hm⟩
   ·rcases hblk blk base hm with⟨b0,h0⟩|h
    ·exact .inl ⟨o,ob,b0,ho,h0⟩
    ·exact .inr h
  ·by_cases e:o'=o
   ·grind
   ·rw[k7 (pw e)]at U;refine⟨bY,U,?_⟩;rw[hμ o' e];cases bY with
    |arr g n b es=>exact⟨ae _,fun _=>⟨rfl,rfl,rfl,rfl,fun blk base c ty hm hh=>⟨c,(other o' _ blk base e U hm).trans hh,rfl⟩⟩⟩
    |mps=>exact⟨rfl,rfl⟩
    |T9=>exact⟨rfl,rfl,rfl⟩
    |V0=>rfl
    |resv=>trivial
 refine⟨⟨fun o' bY U=>?_,fun o1 o2 bY kL blk b1 b2 U X m1 m2=>?_⟩,step⟩
 ·by_cases e:o'=o
  ·grind
  ·rw[k7 (pw e)]at U;rw[hμ o' e];exact(hs.obj o' bY U).step step (fun blk base hm=>other o' bY blk base e U hm)
 ·by_cases e1:o1=o
  ·by_cases e2:o2=o
   ·rw[e1,e2]
   ·subst e1;rw[k7 (pw e2)]at X;rw[hμ o2 e2]at m2;rcases hblk blk b1 m1 with⟨b0,h0⟩|h
    ·exact hs.inj _ _ ob kL blk b0 b2 ho X h0 m2
    ·exact absurd (Aj hs ⟨o2,kL,b2,X,m2⟩) M
  ·rw[k7 (pw e1)]at U;rw[hμ o1 e1]at m1;by_cases e2:o2=o
   ·subst e2;rcases hblk blk b2 m2 with⟨b0,h0⟩|h
    ·exact hs.inj _ _ bY ob blk b1 b0 U ho m1 h0
    ·exact absurd (Aj hs ⟨o1,bY,b1,U,m1⟩) M
   ·rw[k7 (pw e2)]at X;rw[hμ o2 e2]at m2;exact hs.inj _ _ bY kL blk b1 b2 U X m1 m2
def upd(μ:Mu)(o:Nat)(m:Option (Nat×Nat)):Mu:=fun o'=>if o'=o then m else μ o'
theorem aq(μ:Mu)(o:Nat)(m:Option (Nat×Nat)):upd μ o m o=m:=by simp[upd]
theorem jT(μ:Mu)(o:Nat)(m:Option (Nat×Nat)){o':Nat}(h:o'≠o):upd μ o m o'=μ o':=by simp[upd,h]
theorem IB{μ:Mu}{st:St}(hs:J0 w μ st):
 J0 w (upd μ st.length none) (st++[some .resv])/\Step w μ st w (upd μ st.length none) (st++[some .resv]):=by
 have look:∀o ob,(st++[some Ob.resv])[o]? =some (some ob)->(o<st.length/\st[o]? =some (some ob))\/(o=st.length/\ob= .resv):=by grind
 have step:Step w μ st w (upd μ st.length none) (st++[some .resv]):=by
  refine⟨ae _,rfl,rfl,⟨rfl,Dr.le (ae _)⟩,fun _ _ _=>rfl,fun blk hw=>?_,by simp,fun o ob hl h=>?_⟩
  ·have⟨o,ob,base,h,hm⟩:=hw;rcases look o ob h with⟨hl,h⟩|⟨e,_⟩
   ·rw[jT μ _ _ M]at hm;exact .inl ⟨o,ob,base,h,hm⟩
   ·subst e;rw[aq]at hm;cases hm
  ·rw[List.getElem?_append_left hl]at h;refine⟨ob,h,?_⟩;rw[jT μ _ _ M];exact eF.refl _ _ _
 refine⟨⟨fun o ob h=>?_,fun o1 o2 bY kL blk b1 b2 U X m1 m2=>?_⟩,step⟩
 ·rcases look o ob h with⟨hl,h⟩|⟨e,e2⟩
  ·rw[jT μ _ _ M];exact(hs.obj o ob h).step step (fun _ _ _=>rfl)
  ·subst e;subst e2;exact aq _ _ _
 ·rcases look o1 bY U with⟨l1,U⟩|⟨e,_⟩
  ·rcases look o2 kL X with⟨l2,X⟩|⟨e,_⟩
   ·rw[jT μ _ _ M]at m1 m2;exact hs.inj _ _ _ _ _ _ _ U X m1 m2
   ·subst e;rw[aq]at m2;cases m2
  ·subst e;rw[aq]at m1;cases m1
theorem IC{w:World}{o:Obj}{blk:Nat}(h:blk<w.heap.size):(w.alloc o).heap[blk]? =w.heap[blk]? :=by simp only[ri,r6];rw[if_neg M]
theorem heap_alloc_new(w:World)(o:Obj):(w.alloc o).heap[w.heap.size]? =some o:=by show(w.heap.push o)[w.heap.size]? =some o;simp
theorem rF{w:World}{μ:Mu}{st:St}{q:Nat}{x:Obj}{ob:Ob}(hs:J0 w μ st)(hq:st[q]? =some (some .resv))
 (ak:Step w μ st (w.alloc x) (upd μ q (some (w.heap.size,0))) (st.set q (some ob))->
  uf (w.alloc x) (upd μ q (some (w.heap.size,0))) (st.set q (some ob)) (some (w.heap.size,0)) ob):
 J0 (w.alloc x) (upd μ q (some (w.heap.size,0))) (st.set q (some ob))/\Step w μ st (w.alloc x) (upd μ q (some (w.heap.size,0))) (st.set q (some ob)):=by
 refine jS hs hq (fun o' h=>jT _ _ _ h) (fun blk H _=>IC H) B5 rfl rfl ⟨rfl,Dr.le (ae _)⟩ (fun blk base e=>?_) trivial (fun s=>by rw[aq];exact ak s)
 rw[aq]at e;cases e;exact .inr (ae _)
theorem Ak{μ:Mu}{st:St}{es:List (List D)}{cells:Array Value}{ty:TypeId}
 (DQ:∀i j (u:i<es.length) (L:j<(es[i]).length),∃v,cells[i*n+j]? =some v/\VR w μ st v ((es[i])[j])/\v.oneCell'=true)
 (hsz:es.length*n<=cells.size) (hn:∀e∈es,e.length=n) (H:es.length*b<=top)
 (s:Step w μ st (w.alloc (.cells cells ty)) (upd μ q (some (w.heap.size,0))) (st.set q (some (.arr g n b es)))):
 uf (w.alloc (.cells cells ty)) (upd μ q (some (w.heap.size,0))) (st.set q (some (.arr g n b es))) (some (w.heap.size,0)) (.arr g n b es):=by
 refine(⟨H,hn,.inr ⟨w.heap.size,0,cells,ty,rfl,heap_alloc_new _ _,by omega,fun i j u L=>?_⟩⟩:bk _ _ _ _ _ _ _)
 have⟨v,e,Q,U⟩:=DQ i j u L
 exact⟨v,by rw[dq];exact e,Q.step s,U⟩
inductive TK where
 |none
 |slice (e:Nat)
 |str
 |struct (fs:List (Nat×Nat×Bool))
 |arr (len e:Nat)
 |map (k e:Nat)
 |ptr (e:Nat)
 |int (k:IntKind)
 |bool
 |other
structure TI where
 size:Nat
 bytes:Nat
 zero:List D
 ug:List D
 zv:Option D
 k:TK
def TK.agg:TK->Bool
 | .struct _| .arr _ _=>true
 | _=>false
def qm:Value->D
 | .bool b=>.bool b
 | .int k n=>.int k n
 | .string s=>.str s.data.toList
 | .pointer none=>.Z6
 | .slice a l c=>if a=none/\l=0/\c=0 then .A9 else .any
 | .nilFunc=>.Q7
 | .map none=>.S8
 | .func (.func f) a c=>if a.size=0/\c.size=0 then .fn f [] []else .any
 | _=>.any
def IE:Value->D
 | .agg cs=>.agg (cs.toList.map qm)
 |v=>qm v
def kM:Option TypeDesc->Bool
 |some (.struct _)|some (.array _ _)=>true
 | _=>false
def uh(P:Program)(t:TypeId):Nat:=
 match P.info? t,P.underlying t with
 |some i,some _=>i.size
 | _,_=>0
def kindOf(P:Program):Option TypeDesc->TK
 |some (.slice e)=>.slice e
 |some .string=>.str
 |some (.struct fs)=>.struct (fs.toList.map fun f=>(f.offset,uh P f.type,kM (P.underlying f.type)))
 |some (.array n e)=>.arr n e
 |some (.map k e)=>.map k e
 |some (.pointer e)=>.ptr e
 |some (.int k)=>.int k
 |some .bool=>.bool
 |some _=>.other
 |ti=>.none
def fby(P:Program)(t:TypeId):Nat:=
 match P.info? t with
 |some i=>i.bytes
 |ti=>0
def Pg(P:Program):Nat->TypeId->List D
 |0,_=>[]
 |n+1,t=>match P.underlying t with
  |some (.slice e)=>[.sl false (uh P e) (fby P e) []]
  |some (.struct fs)=>(fs.toList.map fun f=>Pg P n f.type).flatten
  |some (.array m e)=>(be (if m<=64 then m else 0) (Pg P n e)).flatten
  | _=>match P.info? t with
   |some i=>(i.zero.map fun v=>v.cells.toList.map qm).getD []
   |ti=>[]
def w8(P:Program)(t:TypeId):TI:=
 match P.info? t with
 |some i=>{ size:=i.size,bytes:=i.bytes,zero:=(i.zero.map fun v=>v.cells.toList.map qm).getD [],ug:=Pg P 12 t,zv:=i.zero.map IE,k:=kindOf P (P.underlying t) }
 |ti=>{ size:=0,bytes:=0,zero:=[],ug:=[],zv:=none,k:=.none }
abbrev Fr:=List (Nat×D)
def Fr.get:Fr->Nat->D
 | [],_=>.any
 |(k,d)::r,t=>if k=t then d else Fr.get r t
def Fr.put:Fr->Nat->D->Fr
 | [],t,d=>[(t,d)]
 |(k,e)::r,t,d=>if k=t then(k,d)::r else(k,e)::Fr.put r t d
def Fr.U3(fr:Fr):Option Nat->D->Fr
 |none,_=>fr
 |some t,d=>fr.put t d
def Fr.only(keep:List Nat):Fr->Fr
 | []=>[]
 |(k,d)::r=>if keep.contains k then(k,d)::Fr.only keep r else Fr.only keep r
structure Gl where
 tab:Nat->Option (List D)
 M7:TypeId->Bool
 whole:Nat->Option (Array Value):=fun _=>none
 Zz:Nat->Bool:=fun _=>false
instance:CoeFun Gl (fun _=>Nat->Option (List D)):=⟨Gl.tab⟩
def ev(G:Gl)(fr:Fr):Operand->D
 | .tmp t=>fr.get t
 | .const v=>IE v
 | .global g=>match G g with
  |some cs=>.bR cs
  |none=>.any
 | .func f=>.fn f [] []
structure LR where
 d:D
 ok:Prop
 rd:List Nat:=[]
 up:Option (Nat×Ob):=none
 new:Option Ob:=none
def LR.bad:LR:={ d:=.any,ok:=False }
def oF(agg:Bool)(cs:List D):D:=if agg then .agg cs else cs.headD .any
def D.one:D->Bool
 | .any| .agg _| .E8 _| .cond _ _=>false
 | _=>true
abbrev Look:=Nat->Option Ob
def look(st:St):Look:=fun o=>(st[o]?).join
def rG(i:TI)(lk:Look):D->LR
 | .ptr o g k c=>match lk o with
  |some (.arr g' n _ es)=>{ d:=oF i.k.agg (((es.getD k []).drop c).take i.size),ok:=g'=g/\k<es.length/\c+i.size<=n/\(i.k.agg=false->i.size=1),rd:=[o] }
  | _=>.bad
 | .bR cs=>{ d:=oF i.k.agg (cs.take i.size),ok:=i.size<=cs.length/\(i.k.agg=false->i.size=1) }
 | _=>.bad
def cellsOf(i:TI)(x:D):List D:=if i.k.agg then(match x with| .agg cs=>cs| _=>[])else [x]
def oG(i:TI)(x:D):Prop:=
 if i.k.agg then(match x with| .agg cs=>cs.length=i.size/\cs.all D.one=true| _=>False)else(x.one=true/\i.size=1)
def splice(cs:List D)(c:Nat)(new:List D):List D:=cs.take c++new++cs.drop (c+new.length)
def rH(i:TI)(lk:Look)(x:D):D->LR
 | .ptr o g k c=>match lk o with
  |some (.arr g' n b es)=>{ d:=.any,ok:=g'=g/\k<es.length/\c+i.size<=n/\oG i x,rd:=[o],up:=some (o,.arr g' n b (es.set k (splice (es.getD k []) c (cellsOf i x)))) }
  | _=>.bad
 | _=>.bad
def IG(i:TI)(q:Nat)(x:D):LR:=
 { d:=.ptr q 0 0 0,ok:=oG i x,new:=some (.arr 0 i.size 0 [cellsOf i x]) }
def DR(i:TI)(q:Nat):LR:=
 { d:=.ptr q 0 0 0,ok:=i.zero.length=i.size/\i.size≠0/\i.zero.all D.one=true,new:=some (.arr 0 i.size 0 [i.zero]) }
def rI(i:TI)(f:Nat):D->LR
 | .ptr o g k c=>match i.k with
  | .struct fs=>match fs[f]? with
   |some (off,sz,_)=>{ d:=.ptr o g k (c+off),ok:=sz≠0 }
   |none=>.bad
  | _=>.bad
 | .bR cs=>match i.k with
  | .struct fs=>match fs[f]? with
   |some (off,sz,_)=>{ d:=.bR (cs.drop off),ok:=sz≠0/\off<cs.length }
   |none=>.bad
  | _=>.bad
 | _=>.bad
def uj(i:TI)(f:Nat):D->LR
 | .agg cs=>match i.k with
  | .struct fs=>match fs[f]? with
   |some (off,sz,ag)=>{ d:=oF ag ((cs.drop off).take sz),ok:=off+sz<=cs.length/\sz≠0/\(ag=false->sz=1) }
   |none=>.bad
  | _=>.bad
 | _=>.bad
def rowAt(cs:List D)(k n:Nat):List D:=(cs.drop (k*n)).take n
theorem p5g(a:D)(cs:List D)(k n:Nat):rowAt (a::cs) k n=((a::cs).drop (k*n)).take n:=rfl
def jU(i:TI)(e:TI)(lk:Look)(x:D):D->LR
 | .int _ m=>match i.k,x with
  | .slice _,.sl _ n _ es=>{ d:=.bR (es.getD m.toNat e.ug),ok:=0<=m/\m<es.length/\n=e.size/\e.size≠0 }
  | .slice _,.ref _ o g off len=>match lk o with
   |some (.arr g' n _ es)=>{ d:=.ptr o g (off+m.toNat) 0,ok:=0<=m/\m<len/\g'=g/\n=e.size/\off+len<=es.length/\e.size≠0,rd:=[o] }
   | _=>.bad
  | .arr len _,.ptr o g k c=>{ d:=.ptr o g k (c+m.toNat*e.size),ok:=0<=m/\m<len/\2<=len/\e.size≠0 }
  | .arr len _,.bR cs=>{ d:=.bR (rowAt cs m.toNat e.size),ok:=0<=m/\m<len/\2<=len/\e.size≠0 }
  | _,_=>.bad
 | _=>.bad
def P0(s:J)(i:Int):Int:=((s.getD i.toNat 0).toNat:Int)
def lZ(i:TI)(e:TI)(x:D):D->LR
 | .int _ m=>match i.k,x with
  | .str,.str s=>{ d:=.int .u8 (P0 s m),ok:=0<=m/\m<s.length }
  | .arr len _,.agg cs=>{ d:=oF e.k.agg ((cs.drop (m.toNat*e.size)).take e.size),ok:=0<=m/\m<len/\m.toNat*e.size+e.size<=cs.length/\e.k≠ .none/\(e.k.agg=false->e.size=1) }
  | _,_=>.bad
 | _=>.bad
def ZA(cs:List D):List (Nat×List D)->List D
 | []=>cs
 |(off,new)::r=>ZA (splice cs off new) r
theorem V7{st:St}{ob:Ob}(h:look st o=some ob):st[o]? =some (some ob):=by
 unfold look at h;cases e:st[o]? with
 |none=>rw[e]at h;cases h
 |some x=>grind
theorem me(b o j:Nat):(⟨b,o,none⟩:Addr).add j=⟨b,o+j,none⟩:=by unfold Addr.add;split<;>simp_all
theorem II{P:Program}{t:TypeId}(h:(w8 P t).k≠ .none):∃inf C',P.info? t=some inf/\P.underlying t=some C'/\
 (w8 P t).size=inf.size/\(w8 P t).bytes=inf.bytes/\(w8 P t).k=kindOf P (some C')/\(w8 P t).zero=(inf.zero.map fun v=>v.cells.toList.map qm).getD []:=by
 unfold w8 at*
 cases u:P.info? t with
 |none=>grind
 |some inf=>
  rw[u]at h;cases hu:P.underlying t with
  |none=>rw[hu]at h;exact absurd rfl h
  |some C'=>grind
theorem ZB(P:Program)(C':TypeDesc):(kindOf P (some C')).agg=kM (some C'):=by cases C'<;>rfl
theorem eG{inf:TypeInfo}(h:P.info? t=some inf)(w:World):(sizeOf t).run P w= .ok inf.size w:=by simp[sizeOf,typeInfo,h]
theorem um{C':TypeDesc}(h:P.underlying t=some C')(w:World):(isAgg t).run P w= .ok (kM (some C')) w:=by cases C'<;>simp[isAgg,run_underlying h,kM]
def Reads(w:World)(μ:Mu)(st:St)(a:Addr)(cs:List D):Prop:=∀j (h:j<cs.length),∃v,w.cell? (a.add j)=some v/\VR w μ st v (cs[j])
theorem Reads.take{μ:Mu}{st:St}{a:Addr}{cs:List D}(h:Reads w μ st a cs)(n:Nat):Reads w μ st a (cs.take n):=fun j L=>by simp only[db]at L;have⟨v,e,Q⟩:=h j M;exact⟨v,e,by simpa using Q⟩
theorem ZC{P:Program}{t:TypeId}{w:World}{μ:Mu}{st:St}{a:Addr}{cs:List D}(hr:Reads w μ st a cs)
 (hsz:(w8 P t).size=cs.length) (S:(w8 P t).k≠ .none) (U:(w8 P t).k.agg=false->(w8 P t).size=1):
 ∃v,(loadVar t a).run P w= .ok v w/\VR w μ st v (oF (w8 P t).k.agg cs):=by
 have⟨inf,C',u,hu,es,_,ek,_⟩:=II S
 have ea:(w8 P t).k.agg=kM (some C'):=by rw[ek,ZB]
 rw[ea]at U⊢
 have Al:=um hu w
 cases hA:kM (some C')with
 |false=>
  have hl:cs.length=1:=by rw[<-hsz];exact U hA
  have⟨v,e,Q⟩:=hr 0 M;have e0:a.add 0=a:=by simp[Addr.add]
  rw[e0]at e;refine⟨v,?_,?_⟩
  ·simp[loadVar,Al,hA,e]
  ·obtain⟨c,rfl⟩:=List.length_eq_one_iff.1 hl;exact Q
 |true=>
  have hf:∀j,∃v,j<cs.length->w.cell? (a.add j)=some v/\∀h:j<cs.length,VR w μ st v (cs[j]):=fun j=>by
   by_cases L:j<cs.length
   ·have⟨v,e,Q⟩:=hr j L;exact⟨v,fun _=>⟨e,fun _=>Q⟩⟩
   ·exact⟨undef,fun h=>absurd h L⟩
  have⟨f,hf⟩:=Classical.axiomOfChoice hf;have hl:=run_loadCells (P:=P) w a cs.length f (fun j L=>(hf j L).1);refine⟨.agg ((ol cs.length).map f).toArray,?_,?_⟩
  ·simp[loadVar,Al,hA,eG u, <-es,hsz,hl]
  ·refine .agg _ _ B5 (fun j L=>?_);have:=(hf j L).2 L;simpa[L]using this
theorem ZD{μ:Mu}{st:St}{k:Nat}{es:List (List D)}(hs:J0 w μ st)(Q:VR w μ st v (.ptr o g k c))
 (hl:look st o=some (.arr g n b es)) (S:k<es.length):
 ∃blk base cells ty,v= .pointer (some ⟨blk,base+(k*n+c),none⟩)/\μ o=some (blk,base)/\w.heap[blk]? =some (.cells cells ty (0,0))/\
  base+es.length*n<=cells.size/\(es[k]).length=n/\∀j (L:j<(es[k]).length),∃C',cells[base+(k*n+j)]? =some C'/\VR w μ st C' ((es[k])[j])/\C'.oneCell'=true:=by
 have ho:=V7 hl
 have⟨H,hn,xI⟩:=(hs.obj o _ ho:bk w μ st (μ o) n b es)
 cases Q with
 |tr h=>cases h
 |ptr _ _ _ _ _ _ _ _ _ h=>
  have⟨blk,base,em,ev⟩:=h n b es ho;rcases xI with⟨e,_⟩|⟨bS,base',cells,ty,em',hh,hsz,K⟩
  ·rw[em]at e;cases e
  ·rw[em]at em';cases em';exact⟨blk,base,cells,ty,ev,em,hh,hsz,hn _ (bt S),fun j L=>K k j S L⟩
theorem getD_eq{es:List (List D)}{k:Nat}(h:k<es.length):es.getD k []=es[k]:=by simp[I1,h]
theorem i1I{μ:Mu}{st:St}{k:Nat}{es:List (List D)}(hs:J0 w μ st)(Q:VR w μ st v (.ptr o g k c))
 (hl:look st o=some (.arr g n b es)) (S:k<es.length):∃a,v= .pointer (some a)/\Reads w μ st a ((es.getD k []).drop c):=by
 have⟨blk,base,cells,ty,ev,em,hh,hsz,hlen,K⟩:=ZD hs Q hl S
 refine⟨_,ev,fun j L=>?_⟩
 rw[getD_eq S]at L
 simp only[iv]at L
 have⟨C',eu,hu,_⟩:=K (c+j) M
 refine⟨C',?_,?_⟩
 ·rw[me];simp only[l7, hh];rw[show base+(k*n+c)+j=base+(k*n+(c+j))by omega];simpa using eu
 ·grind
theorem ZE{μ:Mu}{st:St}{cs:List D}(Q:VR w μ st v (.bR cs)):∃a,v= .pointer (some a)/\Reads w μ st a cs:=by
 cases Q with
 |tr h=>
  cases h with
  |bR _ blk off cv hblk hown ha K=>refine⟨_,rfl,fun j L=>⟨cv j,?_,.tr (K j L)⟩⟩;rw[me];exact ha j L
theorem ZF{P:Program}{t:TypeId}{w:World}{μ:Mu}{st:St}{va:Value}{a:D}(hs:J0 w μ st)(Q:VR w μ st va a)
 (hok:(rG (w8 P t) (look st) a).ok) (ZG:(w8 P t).k≠ .none):
 ∃v,(xi t va).run P w= .ok v w/\VR w μ st v (rG (w8 P t) (look st) a).d:=by
 cases a with
 |ptr o g k c=>
  simp only[rG]at*
  cases hl:look st o with
  |none=>rw[hl]at hok;exact hok.elim
  |some ob=>
   rw[hl]at hok;cases ob with
   |arr g' n b es=>
    obtain⟨rfl,S,kN,U⟩:=hok;have⟨ad,e,hr⟩:=i1I hs Q hl S;subst e;have hlen:(es[k]).length=n:=by have ho:=V7 hl;exact(hs.obj o _ ho:bk w μ st (μ o) n b es).hn _ (bt S)
    have:=ZC (P:=P) (t:=t) (hr.take (w8 P t).size) (by simp only[getD_eq S,db,iv,hlen];omega) ZG U;have⟨v,e1,e2⟩:=this;exact⟨v,by simpa[xi,ms]using e1,e2⟩
   |mps=>exact hok.elim
   |T9=>exact hok.elim
   |V0=>exact hok.elim
   |resv=>exact hok.elim
 |bR cs=>have⟨hle,U⟩:=hok;have⟨ad,e,hr⟩:=ZE Q;subst e;have⟨v,e1,e2⟩:=ZC (P:=P) (t:=t) (hr.take (w8 P t).size) (by simp only[db];omega) ZG U;exact⟨v,by simpa[xi,ms]using e1,e2⟩
 | _=>exact hok.elim
theorem one_cell{μ:Mu}{st:St}{d:D}(h:VR w μ st v d)(U:d.one=true):v.oneCell'=true:=by
 cases h with
 |any=>simp[D.one]at U
 |tr h=>cases h<;>first|rfl|(simp[D.one]at U)
 |agg=>simp[D.one]at U
 |E8=>simp[D.one]at U
 |fn=>rfl
 |ref _ _ _ _ _ _ Q=>obtain⟨a,l,c,rfl⟩:=Q;rfl
 |ptr _ _ _ _ _ Q=>obtain⟨a,rfl⟩:=Q;rfl
 |mp _ _ Q=>obtain⟨a,rfl⟩:=Q;rfl
 |it _ _ Q=>obtain⟨a,rfl⟩:=Q;rfl
 |cond=>simp[D.one]at U
theorem Ph{μ:Mu}{st:St}{i:TI}{x:D}(h:VR w μ st v x)(hok:oG i x):
 v.cells.size=i.size/\(cellsOf i x).length=i.size/\(∀j (L:j<(cellsOf i x).length),∃C',v.cells[j]? =some C'/\VR w μ st C' ((cellsOf i x)[j])/\C'.oneCell'=true):=by
 unfold oG at hok
 unfold cellsOf
 split at hok
 ·rename_i Al;cases x with
  |agg cs=>
   have⟨hl,hall⟩:=hok;simp only[Al,if_true];cases h with
   |tr h=>cases h
   |agg vs _ hsz K=>
    refine⟨by simpa[ye,hsz]using hl,hl,fun j L=>?_⟩;have Q:=K j L;have uo:j<vs.size:=by omega
    refine⟨vs[j],by simp[ye,uo],by simpa[uo]using Q,one_cell (by simpa[uo]using Q) ?_⟩;exact fc.1 hall _ (bt L)
  | _=>exact hok.elim
 ·rename_i Al;have⟨U,hsz⟩:=hok;have uq:=one_cell h U;have hcs:v.cells= #[v]:=by cases v<;>first|rfl|(simp[Cs]at uq)
  simp only[Al];refine⟨by rw[hcs,hsz];rfl,by simp[hsz],fun j L=>?_⟩;simp at L;subst L;exact⟨v,by rw[hcs];rfl,by simpa using h,uq⟩
theorem nF{P:Program}{t:TypeId}(h:(w8 P t).size≠0):∃inf,P.info? t=some inf/\(w8 P t).size=inf.size:=by
 unfold w8 at*
 cases u:P.info? t with
 |none=>grind
 |some inf=>exact⟨inf,rfl,rfl⟩
theorem ZH{i j k:Nat}(L:j<n)(hne:i≠k):i*n+j<k*n\/k*n+n<=i*n+j:=by
 rcases Nat.lt_or_gt_of_ne hne with h|h
 ·left;have:(i+1)*n<=k*n:=du n h;rw[fk]at this;omega
 ·right;have:(k+1)*n<=i*n:=du n h;rw[fk]at this;omega
theorem Pj{α:Type}(cur vs:List α)(p q:Nat)(hp:p+vs.length<=cur.length):
 (cur.take p++vs++cur.drop (p+vs.length))[q]? =if p<=q/\q<p+vs.length then vs[q-p]? else cur[q]? :=by
 rw[List.append_assoc,List.getElem?_append]
 simp only[db]
 have hm:min p cur.length=p:=by omega
 rw[hm]
 by_cases U:q<p
 ·grind
 ·grind
theorem DS{cs new:List D}(h:c+new.length<=cs.length):(splice cs c new).length=cs.length:=by unfold splice;simp;omega
theorem ZI{cs new:List D}{c:Nat}(h:c+new.length<=cs.length)(j:Nat):
 (splice cs c new)[j]? =if c<=j/\j<c+new.length then new[j-c]? else cs[j]? :=by
 unfold splice;exact Pj cs new c j h
theorem i1J{P:Program}{t:TypeId}{w:World}{μ:Mu}{st:St}{va vx:Value}{a x:D}{r:LR}(hs:J0 w μ st)(Q:VR w μ st va a)(A:VR w μ st vx x)
 (hr:r=rH (w8 P t) (look st) x a) (hok:r.ok) (S:(w8 P t).k≠ .none):
 ∃w' o ob,(DO t va vx).run P w= .ok () w'/\r.up=some (o,ob)/\J0 w' μ (st.set o (some ob))/\Step w μ st w' μ (st.set o (some ob)):=by
 subst hr
 cases a with
 |ptr o g k c=>
  simp only[rH]at*
  cases hl:look st o with
  |none=>rw[hl]at hok;exact hok.elim
  |some ob=>
   rw[hl]at hok;cases ob with
   |arr g' n b es=>
    obtain⟨rfl,hkl,kN,i1K⟩:=hok;have⟨blk,base,cells,ty,ev,em,hh,hsz,hlen,K⟩:=ZD hs Q hl hkl;subst ev;have ho:=V7 hl;have⟨H,hn,xI⟩:=(hs.obj o _ ho:bk w μ st (μ o) n b es);have⟨c1,c2,c3⟩:=Ph A i1K;have⟨inf,C',u,hu,esz,_⟩:=II S;have aX:vx.cells.toList.length=(w8 P t).size:=by simpa using c1
    have hkn:k*n+n<=es.length*n:=by have:(k+1)*n<=es.length*n:=du n hkl;rw[fk]at this;omega
    have uq:∀v∈vx.cells.toList,v.oneCell'=true:=fun v Q=>by
     have⟨j,L,e⟩:=List.getElem_of_mem Q;have⟨C',eu,_,hu⟩:=c3 j (by simp at L;omega);have:vx.cells[j]? =some v:=by rw[<-e];simp at L;simp[L]
     rw[this]at eu;cases eu;exact hu
    have hrun:=run_storeCells_at (P:=P) blk (base+(k*n+c)) ty vx.cells.toList 0 cells w hh (by rw[aX];omega) uq;have ZJ:=getD_eq hkl;have DT:(splice es[k] c (cellsOf (w8 P t) x)).length=n:=by rw[DS (by rw[hlen,c2];exact kN),hlen]
    let qo:Array Value:=(cells.toList.take (base+(k*n+c)+0)++vx.cells.toList++cells.toList.drop (base+(k*n+c)+0+vx.cells.toList.length)).toArray;have hsize':qo.size=cells.size:=by simp[qo];omega
    have rJ:(w.setRow blk qo).heap[blk]? =some (.cells qo ty (0,0)):=setRow_heap w blk cells qo ty (0,0) hh;have hget:∀q,qo[q]? =if base+(k*n+c)<=q/\q<base+(k*n+c)+(w8 P t).size then vx.cells[q-(base+(k*n+c))]? else cells[q]? :=fun q=>by have:=Pj cells.toList vx.cells.toList (base+(k*n+c)) q (by rw[aX];simp;omega);simp only[qo,List.getElem?_toArray,ky];rw[this,aX];simp
    refine⟨w.setRow blk qo,o,_,?_,rfl,?_⟩
    ·simp only[DO,ms,storeVar,eQ,Sem.run_pure,dm,eG u];rw[<-esz,if_neg (by rw[c1];simp)];exact hrun
    ·refine jS hs ho (fun _ _=>rfl) (fun bS hb' hne=>?_) ?_ rfl rfl ⟨rfl,Dr.le (ae _)⟩ (fun bS base' e=>.inl ⟨base',e⟩) ?_ (fun s=>?_)
     ·exact setRow_other w _ _ _ (fun e=>hne base (by rw[e];exact em))
     ·rw[setRow_size];exact ae _
     ·refine⟨ae _,fun _=>⟨rfl,rfl,by simp,rfl,fun bS base' c' ty' e' h'=>?_⟩⟩;rw[em]at e';cases e';rw[hh]at h';cases h';exact⟨qo,rJ,hsize'⟩
     ·change bk _ _ _ _ _ _ _;refine⟨by simpa using H,fun e he=>?_,.inr ⟨blk,base,qo,ty,em,rJ,by rw[hsize'];simpa using hsz,fun i j hi' hj'=>?_⟩⟩
      ·grind
      ·have dx:i<es.length:=by simpa using hi'
       by_cases hik:i=k
       ·subst hik;simp only[List.getElem_set_self,ZJ]at hj'⊢;rw[DT]at hj';rw[ZJ]at s;rw[hget];have mg:=ZI (cs:=es[i]) (new:=cellsOf (w8 P t) x) (c:=c) (by rw[hlen,c2];exact kN) j;by_cases hin:c<=j/\j<c+(w8 P t).size
        ·rw[if_pos M];have⟨C',eu,hu,hu1⟩:=c3 (j-c) M;refine⟨C',by rw[<-eu];congr 1;omega,?_,hu1⟩;rw[if_pos M,b7 (by rw[DT];exact hj'),b7 M]at mg;rw[dj mg];exact hu.step s
        ·rw[if_neg M];have⟨C',eu,hu,hu1⟩:=K j M;refine⟨C',eu,?_,hu1⟩;rw[if_neg M,b7 (by rw[DT];exact hj'),b7 M]at mg;rw[dj mg];exact hu.step s
       ·have ga:(es.set k (splice (es.getD k []) c (cellsOf (w8 P t) x)))[i]=es[i]:=by simp[pw hik]
        simp only[ga]at hj'⊢;rcases xI with⟨e,_⟩|⟨DU,i1M,p5h,rK,oH,oI,_,hc2⟩
        ·rw[em]at e;cases e
        ·rw[em]at oH;cases oH;rw[hh]at oI;cases oI;have⟨C',eu,hu,hu1⟩:=hc2 i j dx hj';have hji:j<n:=by rw[<-hn _ (bt dx)];exact hj'
         have:=ZH hji hik;refine⟨C',?_,hu.step s,hu1⟩;rw[hget,if_neg M];exact eu
   |mps=>exact hok.elim
   |T9=>exact hok.elim
   |V0=>exact hok.elim
   |resv=>exact hok.elim
 | _=>exact hok.elim
theorem DV(w:World)(μ:Mu)(st:St)(v:Value):VR w μ st v (qm v):=by
 cases v with
 |bool b=>exact .tr (.bool b)
 |int k n=>exact .tr (.int k n)
 |string s=>exact .tr (show TR w _ (.string (bs s.data.toList)) _ from .str _)
 |pointer a=>cases a with
  |none=>exact .tr .Z6
  |some a=>exact .any _
 |slice a l c=>
  simp only[qm];split
  ·rename_i h;obtain⟨rfl,rfl,rfl⟩:=h;exact .tr .A9
  ·exact .any _
 |nilFunc=>exact .tr .Q7
 |map a=>cases a with
  |none=>exact .tr .S8
  |some a=>exact .any _
 |func f a c=>
  cases f with
  |func f=>
   simp only[qm];split
   ·rename_i h;exact .fn f a c [] [] h.1 h.2 (fun j h=>absurd h (co _)) (fun j h=>absurd h (co _))
   ·exact .any _
  | _=>exact .any _
 | _=>exact .any _
theorem ZK(w:World)(μ:Mu)(st:St)(v:Value):VR w μ st v (IE v):=by
 unfold IE;split
 ·rename_i cs;refine .agg _ _ B5 (fun j L=>?_);simp at L;simp only[ub];have:cs.getD j undef=cs.toList[j]'(by simpa using L):=by simp[L]
  rw[this];exact DV _ _ _ _
 ·exact DV _ _ _ _
theorem i1N{P:Program}{t:TypeId}{w:World}{μ:Mu}{st:St}{vx:Value}{x:D}{q:Nat}(hs:J0 w μ st)(A:VR w μ st vx x)
 (hok:(IG (w8 P t) q x).ok) (hq:st[q]? =some (some .resv)):
 ∃v w' μ' ob,(ID t vx).run P w= .ok v w'/\(IG (w8 P t) q x).new=some ob/\J0 w' μ' (st.set q (some ob))/\Step w μ st w' μ' (st.set q (some ob))/\
  VR w' μ' (st.set q (some ob)) v (IG (w8 P t) q x).d:=by
 have⟨c1,c2,c3⟩:=Ph A hok
 have hlt:q<st.length:=(c7.1 hq).1
 have h:=rF (x:=.cells vx.cells t) (ob:=.arr 0 (w8 P t).size 0 [cellsOf (w8 P t) x]) hs hq (fun s=>Ak (fun i j u L=>by simp at u;subst u;have⟨C',eu,hu,hu1⟩:=c3 j (by simpa using L);exact⟨C',by simpa using eu,by simpa using hu,hu1⟩) (by simp[c1]) (by simp[c2]) (by simp[top]) s)
 refine⟨.pointer (some ⟨w.heap.size,0,none⟩),_,_,_,?_,rfl,h.1,h.2,?_⟩
 ·simp[ID,newVar,newRow]
 ·refine .ptr _ q 0 0 0 ⟨_,rfl⟩ (by simpa using hlt) (by simp[hlt]) (fun g' n b es e=>li _) (fun n b es e=>?_);exact⟨w.heap.size,0,by rw[aq],by simp⟩
theorem ZL{inf:TypeInfo}{z:Value}(hz:inf.zero=some z)(u:P.info? t=some inf):(w8 P t).zero=z.cells.toList.map qm:=by simp[w8,u,hz]
theorem i1O{P:Program}{t:TypeId}{w:World}{μ:Mu}{st:St}{q:Nat}(hs:J0 w μ st)(hok:(DR (w8 P t) q).ok)(hq:st[q]? =some (some .resv)):
 ∃v w' μ' ob,(GT t true (.tuple #[])).run P w= .ok v w'/\(DR (w8 P t) q).new=some ob/\J0 w' μ' (st.set q (some ob))/\Step w μ st w' μ' (st.set q (some ob))/\
  VR w' μ' (st.set q (some ob)) v (DR (w8 P t) q).d:=by
 have⟨U,X,h3⟩:=hok
 have⟨inf,u,hsz⟩:=nF X
 have hlt:q<st.length:=(c7.1 hq).1
 cases hz:inf.zero with
 |none=>exfalso;apply X;rw[<-U];simp[w8,u,hz]
 |some z=>
  have ez:=ZL hz u;have hzl:z.cells.size=(w8 P t).size:=by rw[<-U,ez];simp
  have h:=rF (x:=.cells z.cells t) (ob:=.arr 0 (w8 P t).size 0 [(w8 P t).zero]) hs hq (fun s=>Ak (fun i j u L=>by simp at u;subst u;simp[ez]at L;refine⟨z.cells[j],by simp[L],?_⟩;simp only[ez,kb,ub,rv];refine⟨DV _ _ _ _,one_cell (DV w μ st _) ?_⟩;rw[ez]at h3;exact fc.1 h3 _ (sf B5)) (by simp[hzl]) (by simp[U]) (by simp[top]) s)
  refine⟨.pointer (some ⟨w.heap.size,0,none⟩),_,_,_,?_,rfl,h.1,h.2,?_⟩
  ·simp[GT,newVar,newRow,zeroValue,typeInfo,u,hz]
  ·refine .ptr _ q 0 0 0 ⟨_,rfl⟩ (by simpa using hlt) (by simp[hlt]) (fun g' n b es e=>li _) (fun n b es e=>?_);exact⟨w.heap.size,0,by rw[aq],by simp⟩
def rL(k:IntKind)(n:Int):Prop:=k.min<=n/\n<=k.max
def D7:Option D->Nat->Nat
 |some (.int _ m),_=>m.toNat
 | _,n=>n
def jz:Option D->Prop
 |none=>True
 |some (.int _ m)=>0<=m
 | _=>False
def oJ(i:TI)(e:Nat)(lk:Look)(x:D)(lo u mx:Option D):LR:=
 match x with
 | .str s=>{ d:=.str ((s.drop (D7 lo 0)).take (D7 u s.length-D7 lo 0)),ok:=i.k= .str/\jz lo/\jz u/\mx=none/\D7 lo 0<=D7 u s.length/\D7 u s.length<=s.length }
 | .sl full n b es=>{ d:=.sl (match mx with|none=>full&&D7 u es.length==es.length|some _=>D7 mx 0==D7 u es.length) n b ((es.drop (D7 lo 0)).take (D7 u es.length-D7 lo 0)),ok:=(∃t,i.k= .slice t)/\n=e/\e≠0/\jz lo/\jz u/\jz mx/\(mx.isSome=true->u.isSome=true)/\D7 lo 0<=D7 u es.length/\D7 u es.length<=D7 mx es.length/\D7 mx es.length<=es.length }
 | .ref full o g off len=>match lk o with
  |some (.arr g' n _ _)=>{ d:=.ref (match mx with|none=>full&&D7 u len==len|some _=>D7 mx 0==D7 u len) o g (off+D7 lo 0) (D7 u len-D7 lo 0),ok:=(∃t,i.k= .slice t)/\g'=g/\n=e/\e≠0/\jz lo/\jz u/\jz mx/\(mx.isSome=true->u.isSome=true)/\D7 lo 0<=D7 u len/\D7 u len<=D7 mx len/\D7 mx len<=len,rd:=[o] }
  | _=>.bad
 | .A9=>{ d:=.A9,ok:=(∃t,i.k= .slice t)/\e≠0/\jz lo/\jz u/\jz mx/\(mx.isSome=true->u.isSome=true)/\D7 lo 0=0/\D7 u 0=0/\D7 mx 0=0 }
 | _=>.bad
def DW(ag:Bool)(x:D):List D:=if ag then(match x with| .agg cs=>cs| _=>[])else [x]
def IJ(ag:Bool)(sz:Nat)(x:D):Prop:=if ag then(match x with| .agg cs=>cs.length=sz| _=>False)else(x.one=true/\sz=1)
def IK(fs:List (Nat×Nat×Bool))(cs:List D):List (Nat×D)->List D
 | []=>cs
 |(f,x)::r=>match fs[f]? with
  |some (off,_,ag)=>IK fs (splice cs off (DW ag x)) r
  |none=>cs
def IL(fs:List (Nat×Nat×Bool))(size:Nat):List (Nat×D)->Prop
 | []=>True
 |(f,x)::r=>match fs[f]? with
  |some (off,sz,ag)=>IJ ag sz x/\off+sz<=size/\IL fs size r
  |none=>False
def ur(i:TI)(e:TI)(parts:List (Nat×D)):LR:=
 match i.k with
 | .struct fs=>{ d:=.agg (IK fs i.zero parts),ok:=i.zero.length=i.size/\i.size≠0/\fs.all (fun f=>f.2.1 != 0)=true/\IL fs i.size parts }
 | .arr _ _=>{ d:=.agg (ZA i.zero (parts.map fun p=>(p.1*e.size,DW e.k.agg p.2))),ok:=i.zero.length=i.size/\i.size≠0/\(∀p∈parts,IJ e.k.agg e.size p.2/\p.1*e.size+e.size<=i.size)/\e.k≠ .none }
 | _=>.bad
def rM(es:List (List D)):List (Nat×List D)->List (List D)
 | []=>es
 |(i,cs)::r=>rM (es.set i cs) r
def IQ(i:TI)(e:TI)(len:Nat)(parts:List (Nat×D))(q:Nat):LR:=
 { d:=.ref true q 0 0 len,ok:=(∃t,i.k= .slice t)/\e.zero.length=e.size/\e.size≠0/\e.zero.all D.one=true/\(∀p∈parts,oG e p.2/\p.1<len)/\len*e.size<=2^24/\len*e.bytes<=top,new:=some (.arr 0 e.size e.bytes (rM (be len e.zero) (parts.map fun p=>(p.1,cellsOf e p.2)))) }
def nG(i:TI)(e:TI)(l c:D)(q:Nat):LR:=
 match l,c with
 | .int .i64 l,.int .i64 c=>{ d:=.ref (decide (c=l)) q 0 0 l.toNat,ok:=(∃t,i.k= .slice t)/\0<=l/\l<=c/\c.toNat*e.bytes<=top/\c.toNat<=top/\e.zero.length=e.size/\e.size≠0/\e.zero.all D.one=true,new:=some (.arr 0 e.size e.bytes (be l.toNat e.zero)) }
 | _,_=>.bad
def oK(i:TI)(k:TI)(ag:Bool)(q:Nat):LR:=
 match i.k,k.k with
 | .map _ _,.str=>{ d:=.mp q,ok:=True,new:=some (.mps ag []) }
 | .map _ _,.int kk=>{ d:=.mp q,ok:=True,new:=some (.T9 ag kk []) }
 | _,_=>.bad
def assoc{yo xx:Type}[DecidableEq yo](k:yo):List (yo×xx)->Option xx
 | []=>none
 |(a,v)::r=>if k=a then some v else assoc k r
def I4{yo xx:Type}[DecidableEq yo](k:yo)(v:xx):List (yo×xx)->List (yo×xx)
 | []=>[(k,v)]
 |(a,C')::r=>if k=a then(k,v)::r else(a,C')::I4 k v r
def Ao(d c:D):D:=match c with
 | .A9=>(match d with| .sl f n b []=>if 1<=b then .sl f n b []else .A9| _=>.A9)
 |c=>c
def nz:List D->List D->List D
 | [],cs=>cs
 | _::_,[]=>[]
 |d::ds,c::cs=>Ao d c::nz ds cs
def jV(vi:TI)(r:Option (List D)):D:=match r with
 |some cs=>oF vi.k.agg cs
 |none=>match vi.zv with
  |some (.agg cs)=>.agg (nz vi.ug cs)
  |some .A9=>Ao (vi.ug.headD .any) .A9
  |some z=>z
  |none=>.any
def xJ(vi:TI)(DX:Bool)(r:Option (List D)):D:=
 if DX then .E8 [jV vi r,.bool r.isSome]else jV vi r
def nH(i ki vi:TI)(lk:Look)(DX:Bool)(key:D):D->LR
 | .mp o=>match lk o,key with
  |some (.mps ag es),.str k=>{ d:=xJ vi DX (assoc k es),ok:=(∃a b,i.k= .map a b)/\ki.k= .str/\ag=vi.k.agg/\vi.zv.isSome=true,rd:=[o] }
  |some (.T9 ag kk es),.int qp k=>{ d:=xJ vi DX (assoc k es),ok:=(∃a b,i.k= .map a b)/\ki.k= .int kk/\qp=kk/\ag=vi.k.agg/\vi.zv.isSome=true,rd:=[o] }
  | _,_=>.bad
 | .S8=>match key with
  | .str _=>{ d:=xJ vi DX none,ok:=(∃a b,i.k= .map a b)/\ki.k= .str/\vi.zv.isSome=true }
  | _=>.bad
 | _=>.bad
def nI(i ki vi:TI)(lk:Look)(key x:D):D->LR
 | .mp o=>match lk o,key with
  |some (.mps ag es),.str k=>{ d:=.any,ok:=(∃a b,i.k= .map a b)/\ki.k= .str/\ag=vi.k.agg/\oG vi x,rd:=[o],up:=some (o,.mps ag (I4 k (nz vi.ug (cellsOf vi x)) es)) }
  |some (.T9 ag kk es),.int qp k=>{ d:=.any,ok:=(∃a b,i.k= .map a b)/\ki.k= .int kk/\qp=kk/\ag=vi.k.agg/\oG vi x,rd:=[o],up:=some (o,.T9 ag kk (I4 k (nz vi.ug (cellsOf vi x)) es)) }
  | _,_=>.bad
 | _=>.bad
def arith(k:IntKind)(n:Int):LR:={ d:=.int k (k.wrap n),ok:=True }
def xK(op:BinOp)(k:IntKind)(x y:Int):Int:=
 let a:=BitVec.ofInt k.bits x
 let b:=BitVec.ofInt k.bits y
 match op with
 | .and=>k.wrap (a&&&b).toNat
 | .or=>k.wrap (a|||b).toNat
 | .xor=>k.wrap (a ^^^ b).toNat
 | _=>k.wrap (a&&& ~~~b).toNat
def kO(b:Bool):LR:={ d:=.bool b,ok:=True }
def iX(P:Program)(t:TypeId):Nat:=
 match P.underlying t with
 |some (.int _)=>1
 |some .string=>2
 |some .bool=>3
 | _=>0
def D2(P:Program):Nat->List Field->Nat->Option (List Nat)
 |0,_,_=>none
 | _+1,[],_=>some []
 |n+1,f::fs,k0=>if f.offset==k0&&f.name != "_" then
  (if iX P f.type != 0 then(match D2 P n fs (k0+1)with|some r=>some (iX P f.type::r)|none=>none)
  else match P.underlying f.type with
   |some (.struct g)=>match D2 P n g.toList 0 with
    |some ks=>match P.info? f.type with
     |some inf=>if !P.stoodInHeld f.type&&inf.size==ks.length then(match D2 P n fs (k0+ks.length)with|some r=>some (ks++r)|none=>none)else none
     |none=>none
    |none=>none
   | _=>none)
  else none
def bF(P:Program)(t:TypeId):Option (List Nat):=
 match P.underlying t with
 |some (.struct fields)=>if !P.stoodInHeld t&& !P.eqGuardType P.depth t&&fields.toList.zipIdx.all (fun(f,j)=>f.offset==j&&f.name != "_")then some (fields.toList.map fun f=>iX P f.type)
  else if !P.stoodInHeld t&& !P.eqGuardType P.depth t then D2 P 40 fields.toList 0 else none
 | _=>none
def uw:Nat->D->D->Option Bool
 |1,.int k a,.int k' b=>if k=k' then some (decide (a=b))else none
 |2,.str a,.str b=>some (decide (a=b))
 |3,.bool a,.bool b=>some (decide (a=b))
 | _,_,_=>none
def bn:List Nat->List D->List D->Option Bool
 | [],[],[]=>some true
 |k::ks,a::x,b::y=>match uw k a b,bn ks x y with
  |some p,some q=>some (p&&q)
  | _,_=>none
 | _,_,_=>none
def O1(a b:J):J:=a++b
def P8(a b:J):Prop:=a.length+b.length<=9223372036854775807
instance{a b:J}:Decidable (P8 a b):=by unfold P8;exact inferInstance
def cD(op:BinOp)(x y:D):LR:=
 match x,y with
 | .int k a,.int k' b=>
  match op with
  | .shl=>{ d:=.int k (k.wrap (a*2^(min b.toNat k.bits))),ok:=0<=b }
  | .shr=>{ d:=.int k (a.fdiv (2^(min b.toNat k.bits))),ok:=0<=b }
  | _=>if k=k' then
   match op with
   | .add=>arith k (a+b)
   | .sub=>arith k (a-b)
   | .mul=>arith k (a*b)
   | .quo=>{ d:=.int k (a.tdiv b),ok:=b≠0/\rL k (a.tdiv b) }
   | .rem=>{ d:=.int k (a.tmod b),ok:=b≠0 }
   | .eql=>kO (decide (a=b))
   | .neq=>kO (!decide (a=b))
   | .lss=>kO (decide (a<b))
   | .leq=>kO (decide (a<=b))
   | .gtr=>kO (decide (b<a))
   | .geq=>kO (decide (b<=a))
   |op=>{ d:=.int k (xK op k a b),ok:=True }
   else .bad
 | .str a,.str b=>match op with
  | .add=>{ d:=.str (O1 a b),ok:=P8 a b }
  | .eql=>kO (decide (a=b))
  | .neq=>kO (!decide (a=b))
  | .lss=>kO (l9 a b)
  | .gtr=>kO (!(l9 a b||decide (a=b)))
  | .leq=>kO (l9 a b||decide (a=b))
  | .geq=>kO (!l9 a b)
  | _=>.bad
 | _,_=>.bad
def gQ(i:TI)(flat:Option (List Nat))(neg:Bool)(x y:D):LR:=
 match x,y with
 | .bool a,.bool b=>{ d:=.bool (if neg then !decide (a=b)else decide (a=b)),ok:=i.k= .bool }
 | .agg a,.agg b=>match flat with
  |some ks=>match bn ks a b with
   |some r=>{ d:=.bool (if neg then !r else r),ok:=True }
   |none=>.bad
  |none=>.bad
 | .A9,.A9=>{ d:=.bool (!neg),ok:=∃t,i.k= .slice t }
 | .sl _ _ _ (_::_),.A9=>{ d:=.bool neg,ok:=∃t,i.k= .slice t }
 | _,_=>.bad
def ux(op:UnOp)(x:D):LR:=
 match op,x with
 | .not,.bool b=>kO (!b)
 | .neg,.int k n=>arith k (0-n)
 | _,_=>.bad
def IU(n:Int):J:=(Utf8.encode n).data.toList
def xL(a:J):List (List D):=a.map fun c=>[.int .u8 (c.toNat:Int)]
def strOf(es:List (List D)):J:=es.map fun r=>match r with| [.int _ n]=>UInt8.ofNat n.toNat| _=>0
def Pk:List D->Bool
 | [.int .u8 _]=>true
 | _=>false
def qt(s t e:TI)(x:D):LR:=
 match x,s.k,t.k with
 | .sl _ n _ es,.slice _,.str=>{ d:=.str (strOf es),ok:=e.k= .int .u8/\n=1/\es.all Pk=true/\(es=[])=False }
 | .str a,.str,.slice _=>{ d:=.sl false 1 1 (xL a),ok:=e.k= .int .u8/\a.length<=top }
 | .int _ n,.int _,.int k=>{ d:=.int k (k.wrap n),ok:=True }
 | .str a,.str,.str=>{ d:=.str a,ok:=True }
 | .int _ n,.int _,.str=>{ d:=.str (IU n),ok:=True }
 | _,_,_=>.bad
def qu(x:D):LR:=
 match x with
 | .ptr _ _ _ _=>{ d:=x,ok:=True }
 | .bR _=>{ d:=x,ok:=True }
 | _=>.bad
def uy(ix:Nat):D->LR
 | .E8 cs=>match cs[ix]? with
  |some (.cond g d)=>{ d:=d,ok:=g=true }
  |some d=>{ d:=d,ok:=True }
  |none=>.bad
 | _=>.bad
def oL(lk:Look)(e:TI):D->Option (List (List D))
 | .sl _ n _ es=>if n=e.size then some es else none
 | .A9=>some []
 | .ref _ o g off len=>match lk o with
  |some (.arr g' n _ es)=>if g'=g/\n=e.size/\off+len<=es.length then some ((es.drop off).take len)else none
  | _=>none
 | .str s=>some (s.map fun c=>[.int .u8 (c.toNat:Int)])
 | _=>none
def uz:D->List Nat
 | .ref _ o _ _ _=>[o]
 | _=>[]
def xOk(e:TI)(xk:TK):D->Prop
 | .str _=>xk= .str/\e.size=1
 | _=>∃t,xk= .slice t
def DY(i e:TI)(xk:TK)(x:D)(n:Nat):Prop:=
 (∃t,i.k= .slice t)/\e.zero.length=e.size/\e.size≠0/\e.zero.all D.one=true/\n*e.bytes<=top/\n<=top/\xOk e xk x
def cS(i:TI)(e:TI)(xk:TK)(lk:Look)(src x:D)(q:Nat):LR:=
 match oL lk e x with
 |none=>.bad
 |some news=>
  match src with
  | .A9=>{ d:=.ref false q 0 0 news.length,ok:=DY i e xk x news.length,rd:=uz x,new:=some (.arr 0 e.size e.bytes news) }
  | .sl true n _ es=>{ d:=.ref false q 0 0 (es.length+news.length),ok:=DY i e xk x (es.length+news.length)/\n=e.size/\(es=[]\/news≠ []),rd:=uz x,new:=some (.arr 0 e.size e.bytes (es++news)) }
  | .ref true o g off len=>match lk o with
   |some (.arr g' n _ es)=>{ d:=.ref false q 0 0 (len+news.length),ok:=DY i e xk x (len+news.length)/\g'=g/\n=e.size/\off+len<=es.length/\(len=0\/news≠ []),rd:=o::uz x,new:=some (.arr 0 e.size e.bytes ((es.drop off).take len++news)) }
   | _=>.bad
  | .ref false o g off len=>match lk o with
   |some (.arr g' n b es)=>{ d:=.ref false o (g+1) 0 (len+news.length),ok:=DY i e xk x (len+news.length)/\g'=g/\n=e.size/\b=e.bytes/\off+len<=es.length,rd:=o::uz x,up:=some (o,.arr (g+1) n b ((es.drop off).take len++news)) }
   | _=>.bad
  | _=>.bad
def qv(i:TI)(lk:Look):D->LR
 | .str s=>{ d:=.int .i64 s.length,ok:=i.k= .str }
 | .A9=>{ d:=.int .i64 0,ok:=∃t,i.k= .slice t }
 | .sl _ _ _ es=>{ d:=.int .i64 es.length,ok:=∃t,i.k= .slice t }
 | .ref _ o g _ len=>match lk o with
  |some (.arr g' _ _ _)=>{ d:=.int .i64 len,ok:=(∃t,i.k= .slice t)/\g'=g,rd:=[o] }
  | _=>.bad
 | .S8=>{ d:=.int .i64 0,ok:=∃a b,i.k= .map a b }
 | .mp o=>match lk o with
  |some (.mps _ es)=>{ d:=.int .i64 es.length,ok:=∃a b,i.k= .map a b,rd:=[o] }
  |some (.T9 _ _ es)=>{ d:=.int .i64 es.length,ok:=∃a b,i.k= .map a b,rd:=[o] }
  | _=>.bad
 | _=>.bad
def xM(i:TI):D->LR
 | .A9=>{ d:=.int .i64 0,ok:=∃t,i.k= .slice t }
 | _=>.bad
def uD(x y:D):LR:=
 match x,y with
 | .int k a,.int _ b=>{ d:=.int k (max a b),ok:=True }
 | _,_=>.bad
def uE(x y:D):LR:=
 match x,y with
 | .int k a,.int _ b=>{ d:=.int k (min a b),ok:=True }
 | _,_=>.bad
theorem xO{k:TK}(h:(w8 P t).k=k)(S:k≠ .none):∃inf C',P.info? t=some inf/\P.underlying t=some C'/\kindOf P (some C')=k/\
 (w8 P t).size=inf.size/\(w8 P t).bytes=inf.bytes/\(w8 P t).zero=(inf.zero.map fun v=>v.cells.toList.map qm).getD []:=by
 have⟨inf,C',U,X,h3,h4,h5,h6⟩:=II (P:=P) (t:=t) (by rw[h];exact S)
 exact⟨inf,C',U,X,h5▸h,h3,h4,h6⟩
theorem Pm{fs:List (Nat×Nat×Bool)}(h:(w8 P t).k= .struct fs):∃fields,P.underlying t=some (.struct fields)/\
 fs=fields.toList.map fun f=>(f.offset,uh P f.type,kM (P.underlying f.type)):=by
 have⟨inf,C',_,hu,S,_⟩:=xO h B5
 cases C'<;>simp only[kindOf]at S<;>first|(cases S;done)|skip
 rename_i fields
 exact⟨fields,hu,(TK.struct.inj S).symm⟩
theorem iy{e:Nat}(h:(w8 P t).k= .slice e):P.underlying t=some (.slice e):=by have⟨inf,C',_,hu,S,_⟩:=xO h B5;cases C'<;>simp only[kindOf]at S<;>first|(cases S;exact hu)|(cases S;done)
theorem ZM{e:Nat}(h:(w8 P t).k= .arr n e):P.underlying t=some (.array n e):=by have⟨inf,C',_,hu,S,_⟩:=xO h B5;cases C'<;>simp only[kindOf]at S<;>first|(cases S;exact hu)|(cases S;done)
theorem kP(h:(w8 P t).k= .str):P.underlying t=some .string:=by have⟨inf,C',_,hu,S,_⟩:=xO h B5;cases C'<;>simp only[kindOf]at S<;>first|exact hu|(cases S;done)
theorem xP{k:IntKind}(h:(w8 P t).k= .int k):P.underlying t=some (.int k):=by have⟨inf,C',_,hu,S,_⟩:=xO h B5;cases C'<;>simp only[kindOf]at S<;>first|(cases S;exact hu)|(cases S;done)
theorem DZ{k e:Nat}(h:(w8 P t).k= .map k e):P.underlying t=some (.map k e):=by have⟨inf,C',_,hu,S,_⟩:=xO h B5;cases C'<;>simp only[kindOf]at S<;>first|(cases S;exact hu)|(cases S;done)
theorem i1Q(h:(w8 P t).k= .bool):P.underlying t=some .bool:=by have⟨inf,C',_,hu,S,_⟩:=xO h B5;cases C'<;>simp only[kindOf]at S<;>first|exact hu|(cases S;done)
theorem Pn{fields:Array Field}
 (h:(fields.toList.map fun f=>(f.offset,uh P f.type,kM (P.underlying f.type)))[f]? =some (off,sz,ag)):
 ∃oN,fields[f]? =some oN/\oN.offset=off/\uh P oN.type=sz/\kM (P.underlying oN.type)=ag:=by
 rw[List.getElem?_map]at h
 cases hf:fields[f]? with
 |none=>grind
 |some oN=>grind
theorem Po(h:uh P t=sz)(h0:sz≠0):∃inf C',P.info? t=some inf/\P.underlying t=some C'/\inf.size=sz:=by
 unfold uh at h;cases u:P.info? t with
 |none=>grind
 |some inf=>grind
theorem dy{μ:Mu}{st:St}{k:IntKind}{n:Int}(h:VR w μ st v (.int k n)):v= .int k n:=by cases h with|tr h=>cases h;rfl
theorem jA{μ:Mu}{st:St}{s:J}(h:VR w μ st v (.str s)):v= .string (bs s):=by cases h with|tr h=>cases h;rfl
theorem oO{μ:Mu}{st:St}{b:Bool}(h:VR w μ st v (.bool b)):v= .bool b:=by cases h with|tr h=>cases h;rfl
theorem qw{μ:Mu}{st:St}(h:VR w μ st v .A9):v= .slice none 0 0:=by cases h with|tr h=>cases h;rfl
theorem Ea{μ:Mu}{st:St}{cs:List D}(h:VR w μ st v (.agg cs)):∃vs,v= .agg vs/\vs.size=cs.length/\∀j (h:j<cs.length),VR w μ st (vs.getD j undef) (cs[j]):=by
 cases h with
 |tr h=>cases h
 |agg vs _ hs K=>exact⟨vs,rfl,hs,K⟩
theorem cE(w:World)(μ:Mu)(st:St)(k:IntKind)(n:Int):VR w μ st (.int k n) (.int k n):=.tr (.int k n)
theorem dz(w:World)(μ:Mu)(st:St)(b:Bool):VR w μ st (.bool b) (.bool b):=.tr (.bool b)
theorem xQ(w:World)(μ:Mu)(st:St)(s:J):VR w μ st (.string (bs s)) (.str s):=.tr (.str s)
theorem i1R{P:Program}{t:TypeId}{w:World}{μ:Mu}{st:St}{va:Value}{a:D}{f:Nat}(Q:VR w μ st va a)
 (hok:(rI (w8 P t) f a).ok):∃v,(we t va f).run P w= .ok v w/\VR w μ st v (rI (w8 P t) f a).d:=by
 have go:∀fs off sz ag ad,(w8 P t).k= .struct fs->fs[f]? =some (off,sz,ag)->sz≠0->
  (we t (.pointer (some ad)) f).run P w= .ok (.pointer (some (ad.add off))) w:=by
  intro fs off sz ag ad S hf h0
  obtain⟨fields,hu,rfl⟩:=Pm S
  have⟨oN,e1,e2,e3,e4⟩:=Pn hf
  have⟨inf,C',u,_,hsz⟩:=Po e3 h0
  have hn:inf.size≠0:=by rw[hsz];exact h0
  simp[we,run_underlying hu,e1,ms,fieldPlace,eG u,hn,e2]
 cases a with
 |ptr o g k c=>
  simp only[rI]at*
  split at hok
  ·rename_i fs S;split at hok
   ·rename_i off sz ag hf;cases Q with
    |tr h=>cases h
    |ptr _ _ _ _ _ rN ho hr hg h=>obtain⟨ad,rfl⟩:=rN;refine⟨_,go fs off sz ag ad S hf hok,.ptr _ o g k (c+off) ⟨_,rfl⟩ ho hr hg (fun n b es e=>?_)⟩;have⟨blk,base,em,ev⟩:=h n b es e;refine⟨blk,base,em,?_⟩;cases ev;rw[me];congr 3;omega
   ·exact hok.elim
  ·exact hok.elim
 |bR cs=>
  simp only[rI]at*
  split at hok
  ·rename_i fs S;split at hok
   ·rename_i off sz ag hf;have⟨h0,hlt⟩:=hok;cases Q with
    |tr h=>
     cases h with
     |bR _ blk i1S cv hblk hown ha K=>
      refine⟨_,go fs off sz ag _ S hf h0,?_⟩;rw[me];refine .tr (.bR _ blk (i1S+off) (fun j=>cv (off+j)) hblk hown (fun j L=>?_) (fun j L=>?_))
      ·grind
      ·grind
   ·exact hok.elim
  ·exact hok.elim
 | _=>exact hok.elim
theorem ZN{P:Program}{t:TypeId}{w:World}{μ:Mu}{st:St}{vs:Array Value}{cs:List D}{off sz:Nat}{ag:Bool}(hsz:vs.size=cs.length)
 (K:∀j (h:j<cs.length),VR w μ st (vs.getD j undef) (cs[j])) (hle:off+sz<=cs.length) (U:ag=false->sz=1)
 {C':TypeDesc} (hu:P.underlying t=some C') (M8:kM (some C')=ag) (hs:ag=true->∃inf,P.info? t=some inf/\inf.size=sz):
 ∃v,(part t vs off).run P w= .ok v w/\VR w μ st v (oF ag ((cs.drop off).take sz)):=by
 have hr:=um hu w
 cases ag with
 |false=>
  have:=U rfl;subst this;have hlt:off<vs.size:=by omega
  refine⟨vs[off],by simp[part,hr,M8,hlt],?_⟩;have:=K off M;simp only[ca, dv hlt,nf]at this;have e:(cs.drop off).take 1=[cs[off]'(by omega)]:=by rw[List.drop_eq_getElem_cons M];rfl
  rw[e];exact this
 |true=>
  have⟨inf,u,hsz'⟩:=hs rfl;refine⟨.agg (vs.extract off (off+sz)),by simp[part,hr,M8,eG u,hsz'],?_⟩;simp only[oF,if_true];refine .agg _ _ (by simp;omega) (fun j L=>?_);simp at L;have:=K (off+j) M;have hlt:off+j<vs.size:=by omega
  simp only[ca, dv hlt,nf]at this;simp only[k8,io,ca];rw[dv (by simp;omega)];simpa using this
theorem i1T{P:Program}{t:TypeId}{w:World}{μ:Mu}{st:St}{va:Value}{a:D}{f:Nat}(Q:VR w μ st va a)
 (hok:(uj (w8 P t) f a).ok):∃v,(Ha t va f).run P w= .ok v w/\VR w μ st v (uj (w8 P t) f a).d:=by
 cases a with
 |agg cs=>
  simp only[uj]at*
  split at hok
  ·rename_i fs S;split at hok
   ·rename_i off sz ag hf;have⟨hle,h0,U⟩:=hok;obtain⟨fields,hu,rfl⟩:=Pm S;have⟨oN,e1,e2,e3,e4⟩:=Pn hf;have⟨inf,C',u,jW,Pp⟩:=Po e3 h0;obtain⟨vs,rfl,hsz,K⟩:=Ea Q;rw[jW]at e4;have⟨v,X,h3⟩:=ZN (P:=P) (t:=oN.type) (off:=off) (sz:=sz) (ag:=ag) hsz K hle U jW e4 (fun _=>⟨inf,u,Pp⟩);exact⟨v,by simpa[Ha,run_underlying hu,e1,asAgg,e2]using X,h3⟩
   ·exact hok.elim
  ·exact hok.elim
 | _=>exact hok.elim
theorem rO(P:Program)(w:World)(k:IntKind)(n:Int):(asIntOf (.int k n)).run P w= .ok (k,n) w:=rfl
theorem toNat_lt{m:Int}(h0:0<=m)(h:m<n):m.toNat<n:=by omega
theorem i1U{P:Program}{t el:TypeId}{w:World}{μ:Mu}{st:St}{vx vi:Value}{x ix:D}(_:J0 w μ st)(A:VR w μ st vx x)(u:VR w μ st vi ix)
 (hel:(w8 P t).k= .slice el\/∃n,(w8 P t).k= .arr n el)
 (hok:(jU (w8 P t) (w8 P el) (look st) x ix).ok):
 ∃v,(pp t vx vi).run P w= .ok v w/\VR w μ st v (jU (w8 P t) (w8 P el) (look st) x ix).d:=by
 cases ix with
 |int k m=>
  have:=dy u;subst this;rcases hel with hel|⟨N,hel⟩
  ·have hu:=iy hel;cases x with
   |sl full n b es=>
    simp only[jU,hel]at*
    obtain⟨h0,hlt,rfl,he⟩:=hok;have⟨inf,fj,hsz⟩:=nF he;cases A with
    |tr h=>
     cases h with
     |sl _ _ _ _ a len cap cv hlen hcap fY H hb1 hn ha K=>
      rcases ha with ha|⟨blk,off,ea,hblk,hown,hcell⟩
      ·subst ha;simp at hlt;omega
      ·subst ea;have hlt':m<(len:Int):=by rw[hlen];exact hlt
       have hmn:=toNat_lt h0 hlt;refine⟨.pointer (some ((⟨blk,off,none⟩:Addr).add (m.toNat*inf.size))),?_,?_⟩
       ·simp[pp,rO,run_underlying hu,h0,hlt',eG fj]
       ·rw[me, <-hsz,show es.getD m.toNat (w8 P el).ug=es[m.toNat]by simp[hmn]];refine .tr (.bR _ blk _ (cv m.toNat) hblk hown (fun j L=>?_) (fun j L=>K m.toNat j hmn L));rw[da];exact hcell m.toNat j hmn (by rw[<-hn _ (bt hmn)];exact L)
   |ref full o g off len=>
    simp only[jU,hel]at*
    cases hl:look st o with
    |none=>rw[hl]at hok;exact hok.elim
    |some ob=>
     rw[hl]at hok;cases ob with
     |arr g' n b es=>
      obtain⟨h0,hlt,rfl,rfl,hle,he⟩:=hok;have⟨inf,fj,hsz⟩:=nF he;have ho:=V7 hl;cases A with
      |tr h=>cases h
      |ref _ _ _ _ _ _ rN U7 hr hg h=>
       have⟨a,cap,ev,U,X,h3,h4⟩:=h _ _ _ ho;subst ev;rcases h4 with h4|⟨blk,base,em,ea,c,ty,hh,i1V⟩
       ·omega
       ·subst ea;have hlt':m<(len:Int):=hlt;refine⟨.pointer (some ((⟨blk,base+off*(w8 P el).size,none⟩:Addr).add (m.toNat*inf.size))),?_,?_⟩
        ·simp[pp,rO,run_underlying hu,h0,hlt',eG fj]
        ·rw[me, <-hsz];refine .ptr _ o g' (off+m.toNat) 0 ⟨_,rfl⟩ U7 hr hg (fun n b es' e=>?_);rw[ho]at e;cases e;refine⟨blk,base,em,?_⟩;rw[fk];congr 3;omega
     |mps=>exact hok.elim
     |T9=>exact hok.elim
     |V0=>exact hok.elim
     |resv=>exact hok.elim
   | _=>simp only[jU,hel]at hok;exact hok.elim
  ·have hu:=ZM hel;cases x with
   |ptr o g kk c=>
    simp only[jU,hel]at*
    have⟨h0,hlt,X,he⟩:=hok;have⟨inf,fj,hsz⟩:=nF he;cases A with
    |tr h=>cases h
    |ptr _ _ _ _ _ rN ho hr hg h=>
     obtain⟨ad,rfl⟩:=rN;refine⟨.pointer (some (ad.add (m.toNat*inf.size))),?_,?_⟩
     ·simp[pp,rO,run_underlying hu,h0,hlt,eG fj,ms]
     ·refine .ptr _ o g kk _ ⟨_,rfl⟩ ho hr hg (fun n b es e=>?_);have⟨blk,base,em,ev⟩:=h n b es e;cases ev;refine⟨blk,base,em,?_⟩;rw[me,hsz];congr 3;omega
   |bR cs=>
    simp only[jU,hel]at*
    have⟨h0,hlt,X,he⟩:=hok;have⟨inf,fj,hsz⟩:=nF he;cases A with
    |tr h=>
     cases h with
     |bR _ blk off cv hblk hown ha K=>
      refine⟨.pointer (some ((⟨blk,off,none⟩:Addr).add (m.toNat*inf.size))),?_,?_⟩
      ·simp[pp,rO,run_underlying hu,h0,hlt,eG fj,ms]
      ·rw[me, <-hsz];refine .tr (.bR _ blk _ (fun j=>cv (m.toNat*(w8 P el).size+j)) hblk hown (fun j L=>?_) (fun j L=>?_))
       ·simp[rowAt]at L;rw[da];exact ha _ M
       ·simp[rowAt]at L;simp only[rowAt,k8,io];exact K _ M
   | _=>simp only[jU,hel]at hok;exact hok.elim
 | _=>exact hok.elim
theorem i1W{P:Program}{t el:TypeId}{w:World}{μ:Mu}{st:St}{vx vi:Value}{x ix:D}(A:VR w μ st vx x)(u:VR w μ st vi ix)
 (hel:(w8 P t).k= .str\/∃n,(w8 P t).k= .arr n el)
 (hok:(lZ (w8 P t) (w8 P el) x ix).ok):
 ∃v,(xz t vx vi).run P w= .ok v w/\VR w μ st v (lZ (w8 P t) (w8 P el) x ix).d:=by
 cases ix with
 |int k m=>
  have:=dy u;subst this;rcases hel with hel|⟨N,hel⟩
  ·have hu:=kP hel;cases x with
   |str s=>
    simp only[lZ,hel]at*
    have⟨h0,hlt⟩:=hok;have:=jA A;subst this;have hmn:=toNat_lt h0 hlt;refine⟨.int .u8 ((s[m.toNat]).toNat:Int),?_,?_⟩
    ·have e:(bs s)[m.toNat]? =some (s[m.toNat]):=by rw[KK _ _ (by simpa[bs,tm]using hmn)];simp[bs,Lt]
     simp[xz,rO,run_underlying hu,h0,e]
    ·have:s.getD m.toNat 0=s[m.toNat]:=by simp[I1,hmn]
     unfold P0;rw[this];exact cE _ _ _ _ _
   | _=>simp only[lZ,hel]at hok;exact hok.elim
  ·have hu:=ZM hel;cases x with
   |agg cs=>
    simp only[lZ,hel]at*
    have⟨h0,hlt,hle,S,U⟩:=hok;obtain⟨vs,rfl,hsz,K⟩:=Ea A;have⟨inf,C',u,jW,es,_,ek,_⟩:=II S;have ea:kM (some C')=(w8 P el).k.agg:=by rw[ek,ZB]
    have⟨v,X,h3⟩:=ZN (P:=P) (t:=el) (w:=w) (μ:=μ) (st:=st) (off:=m.toNat*(w8 P el).size) (sz:=(w8 P el).size) hsz K hle U jW ea (fun _=>⟨inf,u,es.symm⟩);refine⟨v,?_,h3⟩;simp[xz,rO,run_underlying hu,h0,hlt,eG u, <-es,X]
   | _=>simp only[lZ,hel]at hok;exact hok.elim
 | _=>exact hok.elim
theorem Ap{P:Program}{w:World}{μ:Mu}{st:St}{x:D}{v:Value}(h:VR w μ st v x)(hok:jz (some x)){y:Nat}{code:BoundsCode}(hy:D7 (some x) 0<=y):
 (A2 v y code).run P w= .ok (D7 (some x) 0) w:=by
 cases x with
 |int k m=>
  have:=dy h;subst this;have h0:0<=m:=hok;have U:m<=(y:Int):=by simp only[D7]at hy;omega
  simp[A2,rO,h0,U,D7]
 | _=>exact hok.elim
def xR(w:World)(μ:Mu)(st:St):Option Value->Option D->Prop
 |none,none=>True
 |some v,some d=>VR w μ st v d
 | _,_=>False
theorem rP{x:D}(h:jz (some x))(n m:Nat):D7 (some x) n=D7 (some x) m:=by
 cases x with
 |int k i=>rfl
 | _=>exact h.elim
theorem qx(n:Nat):D7 none n=n:=rfl
theorem Aq{P:Program}{w:World}{μ:Mu}{st:St}{lo u mx:Option Value}{K0 bZ mh:Option D}(hlo:xR w μ st lo K0)(hhi:xR w μ st u bZ)(jX:xR w μ st mx mh)
 (mj:jz K0) (jY:jz bZ) (mo:jz mh) {len cap:Nat} {isS:Bool} (hm:mh.isSome=true->bZ.isSome=true)
 (U:D7 K0 0<=D7 bZ len) (X:D7 bZ len<=D7 mh cap) (h3:D7 mh cap<=cap):
 (An isS len cap lo u mx).run P w= .ok (D7 K0 0,D7 bZ len,D7 mh cap) w:=by
 unfold An
 cases mh with
 |none=>
  cases mx with
  |some _=>exact jX.elim
  |none=>
   cases bZ with
   |none=>
    cases u with
    |some _=>exact hhi.elim
    |none=>
     cases K0 with
     |none=>cases lo with
      |some _=>exact hlo.elim
      |none=>simp[D7]
     |some l=>cases lo with
      |none=>exact hlo.elim
      |some vl=>have e:=fun c=>Ap (P:=P) (code:=c) hlo mj (y:=len) (by simpa[D7]using U);simp[e,qx]
   |some hD=>
    cases u with
    |none=>exact hhi.elim
    |some vh=>
     have eh:=fun c=>Ap (P:=P) (code:=c) hhi jY (y:=cap) (by rw[rP jY 0 len];simpa[D7]using X);have eq:=rP jY 0 len;cases K0 with
     |none=>cases lo with
      |some _=>exact hlo.elim
      |none=>simp[eh,eq,qx]
     |some l=>cases lo with
      |none=>exact hlo.elim
      |some vl=>have e:=fun c=>Ap (P:=P) (code:=c) hlo mj (y:=D7 (some hD) 0) (by rw[eq];exact U);simp[eh,e,qx];exact eq
 |some mD=>
  cases mx with
  |none=>exact jX.elim
  |some vm=>
   have em:=fun c=>Ap (P:=P) (code:=c) jX mo (y:=cap) (by rw[rP mo 0 cap];exact h3);have Pq:=rP mo 0 cap;cases bZ with
   |none=>grind
   |some hD=>
    cases u with
    |none=>exact hhi.elim
    |some vh=>
     have eq:=rP jY 0 len;have eh:=fun c=>Ap (P:=P) (code:=c) hhi jY (y:=D7 (some mD) 0) (by rw[eq,Pq];exact X);cases K0 with
     |none=>cases lo with
      |some _=>exact hlo.elim
      |none=>simp[em,eh,qx];exact⟨eq,Pq⟩
     |some l=>cases lo with
      |none=>exact hlo.elim
      |some vl=>have e:=fun c=>Ap (P:=P) (code:=c) hlo mj (y:=D7 (some hD) 0) (by rw[eq];exact U);simp[em,eh,e];exact⟨eq,Pq⟩
theorem qy(s:J):(bs s).size=s.length:=by simp[bs,tm]
theorem ZO(s:J)(l h:Nat):(bs s).extract l h=bs ((s.drop l).take (h-l)):=by apply As;simp[bs,Ly,List.extract_toArray,List.extract_eq_take_drop]
theorem i1X{P:Program}{t:TypeId}{w:World}{μ:Mu}{st:St}{vx:Value}{x:D}{lo u mx:Option Value}{K0 bZ mh:Option D}{e:Nat}(_:J0 w μ st)(A:VR w μ st vx x)
 (hlo:xR w μ st lo K0) (hhi:xR w μ st u bZ) (jX:xR w μ st mx mh) (he:∀el,(w8 P t).k= .slice el->e=(w8 P el).size)
 (hok:(oJ (w8 P t) e (look st) x K0 bZ mh).ok):
 ∃v,(ma t vx lo u mx).run P w= .ok v w/\VR w μ st v (oJ (w8 P t) e (look st) x K0 bZ mh).d:=by
 cases x with
 |str s=>
  simp only[oJ]at*
  obtain⟨S,mj,jY,rfl,U,X⟩:=hok;have hu:=kP S;have:=jA A;subst this;cases mx with
  |some _=>exact jX.elim
  |none=>have H:=Aq (P:=P) (isS:=false) hlo hhi jX mj jY trivial (len:=(bs s).size) (cap:=(bs s).size) B5 (by rw[qy];exact U) (by rw[qy];exact X) (ae _);rw[qy]at H;refine⟨.string (bs ((s.drop (D7 K0 0)).take (D7 bZ s.length-D7 K0 0))),?_,xQ _ _ _ _⟩;simp[ma,run_underlying hu,pk,H,ZO,qy]
 |sl full n b es=>
  simp only[oJ]at*
  have⟨⟨el,S⟩,hne,Eb,mj,jY,mo,hm,U,X,h3⟩:=hok;have hu:=iy S;have qz:=he el S;have⟨inf,fj,hsz⟩:=nF (P:=P) (t:=el) (by rw[<-qz];exact Eb);cases A with
  |tr h=>
   cases h with
   |sl _ _ _ _ a len cap cv hlen hcap fY H hb1 hn ha K=>
    subst hlen;cases mh with
    |none=>
     cases mx with
     |some _=>exact jX.elim
     |none=>
      simp only[qx]at X h3;have gR:=Aq (P:=P) (isS:=true) hlo hhi jX mj jY trivial (len:=es.length) (cap:=cap) B5 U (by rw[qx];omega) (ae _);refine⟨.slice (if cap=D7 K0 0 then a else a.map (·.add (D7 K0 0*inf.size))) (D7 bZ es.length-D7 K0 0) (cap-D7 K0 0),?_,?_⟩
      ·simp[ma,run_underlying hu,pk,gR,eG fj,qx]
      ·refine .tr (.sl _ _ _ _ _ _ _ (fun i j=>cv (D7 K0 0+i) j) (by simp;omega) M (fun hf=>?_) ?_ hb1 (fun e he=>hn e (yf (ov he))) ?_ (fun i j u L=>?_))
       ·grind
       ·have:((es.drop (D7 K0 0)).take (D7 bZ es.length-D7 K0 0)).length<=es.length:=by simp;omega
        exact js (du b this) H
       ·by_cases Ec:(es.drop (D7 K0 0)).take (D7 bZ es.length-D7 K0 0)=[]
        ·exact .inl Ec
        ·have hpos:0<((es.drop (D7 K0 0)).take (D7 bZ es.length-D7 K0 0)).length:=km.2 Ec;simp at hpos;rcases ha with ha|⟨blk,off,ea,hblk,hown,hcell⟩
         ·subst ha;simp at hpos
         ·refine .inr ⟨blk,off+D7 K0 0*n,?_,hblk,hown,fun i j u L=>?_⟩
          ·rw[if_neg M,ea,kx,me,hne,qz,hsz]
          ·grind
       ·grind
    |some mD=>
     cases mx with
     |none=>exact jX.elim
     |some vm=>
      have em:D7 (some mD) 0=D7 (some mD) es.length:=rP mo _ _;have oH:D7 (some mD) cap=D7 (some mD) es.length:=rP mo _ _;have gR:=Aq (P:=P) (isS:=true) hlo hhi jX mj jY mo (len:=es.length) (cap:=cap) hm U (by rw[oH];exact X) M;rw[oH]at gR;refine⟨.slice (if D7 (some mD) es.length=D7 K0 0 then a else a.map (·.add (D7 K0 0*inf.size))) (D7 bZ es.length-D7 K0 0) (D7 (some mD) es.length-D7 K0 0),?_,?_⟩
      ·simp[ma,run_underlying hu,pk,gR,eG fj]
      ·refine .tr (.sl _ _ _ _ _ _ _ (fun i j=>cv (D7 K0 0+i) j) (by simp;omega) M (fun hf=>?_) ?_ hb1 (fun e he=>hn e (yf (ov he))) ?_ (fun i j u L=>?_))
       ·simp at hf;omega
       ·have:((es.drop (D7 K0 0)).take (D7 bZ es.length-D7 K0 0)).length<=es.length:=by simp;omega
        exact js (du b this) H
       ·by_cases Ec:(es.drop (D7 K0 0)).take (D7 bZ es.length-D7 K0 0)=[]
        ·exact .inl Ec
        ·have hpos:0<((es.drop (D7 K0 0)).take (D7 bZ es.length-D7 K0 0)).length:=km.2 Ec;simp at hpos;rcases ha with ha|⟨blk,off,ea,hblk,hown,hcell⟩
         ·subst ha;simp at hpos
         ·refine .inr ⟨blk,off+D7 K0 0*n,?_,hblk,hown,fun i j u L=>?_⟩
          ·rw[if_neg M,ea,kx,me,hne,qz,hsz]
          ·grind
       ·grind
 |ref full o g off len=>
  simp only[oJ]at*
  cases hl:look st o with
  |none=>rw[hl]at hok;exact hok.elim
  |some ob=>
   rw[hl]at hok;cases ob with
   |arr g' n b es=>
    obtain⟨⟨el,S⟩,rfl,hne,Eb,mj,jY,mo,hm,U,X,h3⟩:=hok;have hu:=iy S;have qz:=he el S;have⟨inf,fj,hsz⟩:=nF (P:=P) (t:=el) (by rw[<-qz];exact Eb);have ho:=V7 hl;cases A with
    |tr h=>cases h
    |ref _ _ _ _ _ _ rN U7 hr hg h=>
     have⟨a,cap,ev,c1,c2,c3,c4⟩:=h _ _ _ ho;subst ev;have shape:∀m f,D7 bZ len<=m->m<=cap->(f=true->m=D7 bZ len)->Ag w (μ o) n es f (off+D7 K0 0) (D7 bZ len-D7 K0 0)
      (.slice (if m=D7 K0 0 then a else a.map (·.add (D7 K0 0*inf.size))) (D7 bZ len-D7 K0 0) (m-D7 K0 0)):=by
      intro m f hm1 hm2 hmf
      refine⟨_,_,rfl,by omega,by omega,fun hf=>by rw[hmf hf],?_⟩
      by_cases hz:m=D7 K0 0
      ·left;omega
      ·right;rcases c4 with c4|⟨blk,base,em,ea,c,ty,hh,i1V⟩
       ·omega
       ·refine⟨blk,base,em,?_,c,ty,hh,?_⟩
        ·rw[if_neg hz,ea,kx,me, <-hsz, <-qz, <-hne,fk];congr 2;omega
        ·have:(off+D7 K0 0+(m-D7 K0 0))*n<=(off+cap)*n:=du n M;omega
     cases mh with
     |none=>
      cases mx with
      |some _=>exact jX.elim
      |none=>
       simp only[qx]at X h3;have gR:=Aq (P:=P) (isS:=true) hlo hhi jX mj jY trivial (len:=len) (cap:=cap) B5 U (by rw[qx];omega) (ae _);refine⟨.slice (if cap=D7 K0 0 then a else a.map (·.add (D7 K0 0*inf.size))) (D7 bZ len-D7 K0 0) (cap-D7 K0 0),by simp[ma,run_underlying hu,pk,gR,eG fj,qx],.ref _ _ o g' _ _ ⟨_,_,_,rfl⟩ U7 hr hg (fun n' b' es' e'=>?_)⟩
       rw[ho]at e';cases e';refine shape cap _ M (ae _) (fun hf=>?_);simp at hf;have:=c3 hf.1;omega
     |some mD=>
      cases mx with
      |none=>exact jX.elim
      |some vm=>
       have em:D7 (some mD) 0=D7 (some mD) len:=rP mo _ _;have oH:D7 (some mD) cap=D7 (some mD) len:=rP mo _ _;have gR:=Aq (P:=P) (isS:=true) hlo hhi jX mj jY mo (len:=len) (cap:=cap) hm U (by rw[oH];exact X) M;rw[oH]at gR;refine⟨.slice (if D7 (some mD) len=D7 K0 0 then a else a.map (·.add (D7 K0 0*inf.size))) (D7 bZ len-D7 K0 0) (D7 (some mD) len-D7 K0 0),by simp[ma,run_underlying hu,pk,gR,eG fj],.ref _ _ o g' _ _ ⟨_,_,_,rfl⟩ U7 hr hg (fun n' b' es' e'=>?_)⟩
       rw[ho]at e';cases e';refine shape (D7 (some mD) len) _ M M (fun hf=>?_);simp at hf;omega
   |mps=>exact hok.elim
   |T9=>exact hok.elim
   |V0=>exact hok.elim
   |resv=>exact hok.elim
 |A9=>
  simp only[oJ]at*
  have⟨⟨el,S⟩,Eb,mj,jY,mo,hm,U,X,h3⟩:=hok;have hu:=iy S;have⟨inf,fj,hsz⟩:=nF (P:=P) (t:=el) (by rw[<-he el S];exact Eb);have:=qw A;subst this;have gR:=Aq (P:=P) (isS:=true) hlo hhi jX mj jY mo (len:=0) (cap:=0) hm M M M;refine⟨.slice none 0 0,?_,.tr .A9⟩;simp[ma,run_underlying hu,pk,gR,eG fj,U,X,h3]
 | _=>exact hok.elim
def rQ(w:World)(μ:Mu)(st:St)(vs:Array Value)(cs:List D):Prop:=vs.size=cs.length/\∀j (h:j<cs.length),VR w μ st (vs.getD j undef) (cs[j])
theorem Pr(off:Nat):∀(l:List (Value×Nat)) (cells:Array Value),(l.foldl (fun cs (p:Value×Nat)=>cs.setIfInBounds (off+p.2) p.1) cells).size=cells.size
 | [],_=>rfl
 |p::l,cells=>by simp only[wa];rw[Pr off l];simp
theorem Pt(off:Nat):∀(vs:List Value)(k:Nat)(cells:Array Value)(q:Nat),off+k+vs.length<=cells.size->
 ((vs.zipIdx k).foldl (fun cs (p:Value×Nat)=>cs.setIfInBounds (off+p.2) p.1) cells)[q]? =if off+k<=q/\q<off+k+vs.length then vs[q-(off+k)]? else cells[q]?
 | [],k,cells,q,_=>by simp;omega
 |v::vs,k,cells,q,h=>by
  simp only[By,wa];rw[Pt off vs (k+1) _ q (by simp at h ⊢; omega)];simp only[List.length_cons]at*
  by_cases U:q=off+k
  ·grind
  ·grind
theorem qA{vs:Array Value}{j:Nat}{v:Value}(h:vs[j]? =some v):vs.getD j undef=v:=by simp[ca, h]
theorem rQ.splice{w:World}{μ:Mu}{st:St}{vs:Array Value}{cs:List D}{us:Array Value}{ds:List D}{off:Nat}(h:rQ w μ st vs cs)(X:rQ w μ st us ds)
 (hle:off+ds.length<=cs.length):rQ w μ st (us.zipIdx.foldl (fun cs (c,j)=>cs.setIfInBounds (off+j) c) vs) (splice cs off ds):=by
 have e:(us.zipIdx.foldl (fun cs (c,j)=>cs.setIfInBounds (off+j) c) vs)=((us.toList.zipIdx 0).foldl (fun cs (p:Value×Nat)=>cs.setIfInBounds (off+p.2) p.1) vs):=by rw[<-yy];simp
 rw[e]
 refine⟨by rw[Pr,DS hle];exact h.1,fun j L=>?_⟩
 rw[DS hle]at L
 have hg:=Pt off us.toList 0 vs j (by simp;rw[h.1,X.1];omega)
 have mg:=ZI hle j
 rw[b7 (by rw[DS hle];exact L)]at mg
 by_cases hin:off<=j/\j<off+ds.length
 ·rw[if_pos (by simp;rw[X.1];omega)]at hg;rw[if_pos hin,b7 M]at mg;rw[dj mg];have:=X.2 (j-off) M;have hlt:j-off<us.size:=by rw[X.1];omega
  rw[qA (v:=us[j-off]) (by simpa[hlt]using hg)];simpa[ca, hlt]using this
 ·rw[if_neg (by simp;rw[X.1];omega)]at hg;rw[if_neg hin,b7 L]at mg;rw[dj mg];have:=h.2 j L;have hlt:j<vs.size:=by rw[h.1];omega
  rw[qA (v:=vs[j]) (by simpa[hlt]using hg)];simpa[ca, hlt]using this
theorem i1Z{μ:Mu}{st:St}{x:D}(h:VR w μ st v x)(hok:IJ ag sz x):
 rQ w μ st v.cells (DW ag x)/\(DW ag x).length=sz:=by
 unfold IJ at hok
 unfold DW
 split at hok
 ·rename_i M8;cases x with
  |agg cs=>simp only[M8,if_true];obtain⟨vs,rfl,hsz,K⟩:=Ea h;exact⟨⟨hsz,K⟩,hok⟩
  | _=>exact hok.elim
 ·rename_i M8;have⟨U,hsz⟩:=hok;have uq:=one_cell h U;have hcs:v.cells= #[v]:=by cases v<;>first|rfl|(simp[Cs]at uq)
  simp only[M8];refine⟨⟨by rw[hcs];rfl,fun j L=>?_⟩,by simp[hsz]⟩;simp at L;subst L;rw[hcs];simpa using h
theorem Ed{P:Program}{t:TypeId}{w:World}{μ:Mu}{st:St}(hz:(w8 P t).zero.length=(w8 P t).size)(h0:(w8 P t).size≠0):
 ∃inf z,P.info? t=some inf/\inf.zero=some z/\rQ w μ st z.cells (w8 P t).zero:=by
 have⟨inf,u,hsz⟩:=nF h0
 cases Pu:inf.zero with
 |none=>exfalso;apply h0;rw[<-hz];simp[w8,u,Pu]
 |some z=>have ez:=ZL Pu u;refine⟨inf,z,u,Pu,by rw[ez];simp,fun j L=>?_⟩;rw[ez]at L;simp at L;simp only[ez,ub,rv];rw[qA (v:=z.cells[j]) (by simp[L])];exact DV _ _ _ _
def xS(w:World)(μ:Mu)(st:St):List (Nat×Value)->List (Nat×D)->Prop
 | [],[]=>True
 |(i,v)::a,(j,d)::b=>i=j/\VR w μ st v d/\xS w μ st a b
 | _,_=>False
theorem ZP{w:World}{μ:Mu}{st:St}{fs:List (Nat×Nat×Bool)}{place:Nat->Option (Nat×Nat)}{size:Nat}
 (hp:∀f off sz ag,fs[f]? =some (off,sz,ag)->place f=some (off,sz)):
 ∀(ps:List (Nat×Value)) (ds:List (Nat×D)) (vs:Array Value) (cs:List D),xS w μ st ps ds->rQ w μ st vs cs->cs.length=size->IL fs size ds->
  ∃eH,sb place vs ps=some eH/\rQ w μ st eH (IK fs cs ds)
 | [],[],vs,cs,_,h,_,_=>⟨vs,rfl,h⟩
 |(i,v)::ps,(j,d)::ds,vs,cs,hps,h,hl,hok=>by
  obtain⟨rfl,Q,hps⟩:=hps;simp only[IL]at hok;cases hf:fs[i]? with
  |none=>rw[hf]at hok;exact hok.elim
  |some x=>
   have⟨off,sz,ag⟩:=x;rw[hf]at hok;have⟨U,X,h3⟩:=hok;have⟨c1,c2⟩:=i1Z Q U;have DT:=h.splice c1 (off:=off) (by rw[c2,hl];exact X);have⟨eH,e1,e2⟩:=ZP hp ps ds _ _ hps DT (by rw[DS (by rw[c2,hl];exact X)];exact hl) h3;refine⟨eH,?_,by simp only[IK,hf];exact e2⟩;simp only[sb,hp _ _ _ _ hf];rw[if_neg]
   ·exact e1
   ·simp only[rl,decide_eq_true_eq,not_or,ne_eq];refine⟨?_,?_⟩
    ·rw[c1.1,c2];simp
    ·rw[c1.1,c2,h.1,hl];simp;exact X
 | [],_::_,_,_,h,_,_,_=>h.elim
 | _::_,[],_,_,h,_,_,_=>h.elim
theorem ZQ{P:Program}:∀(l:List Field),(∀f∈l,∃inf,P.info? f.type=some inf)->
 l.mapM (fun f=>(P.info? f.type).map fun i=>(f.offset,i.size))=some (l.map fun f=>(f.offset,((P.info? f.type).map (·.size)).getD 0))
 | [],_=>rfl
 |f::l,h=>by have⟨inf,u⟩:=h f B5;have ih:=ZQ (P:=P) l (fun g hg=>h g (by simp[hg]));simp[List.mapM_cons,u,ih]
theorem i2a{P:Program}{t el:TypeId}{w:World}{μ:Mu}{st:St}{ps:Array (Nat×Value)}{ds:List (Nat×D)}(hps:xS w μ st ps.toList ds)
 (S:(∃fs,(w8 P t).k= .struct fs)\/False)
 (hok:(ur (w8 P t) (w8 P el) ds).ok):
 ∃v,(Instr.build t ps).run P w= .ok v w/\VR w μ st v (ur (w8 P t) (w8 P el) ds).d:=by
 rcases S with⟨fs,S⟩|h
 ·have hkk:=S;simp only[ur,S]at hok⊢;have⟨U,X,h3,h4⟩:=hok;obtain⟨fields,hu,rfl⟩:=Pm S;have⟨inf,z,u,hz,K⟩:=Ed (w:=w) (μ:=μ) (st:=st) U X;have hall:∀f∈fields.toList,∃inf C',P.info? f.type=some inf/\P.underlying f.type=some C'/\inf.size=uh P f.type:=fun f hf=>by have:=fc.1 h3 _ (sf hf);exact Po rfl (by simpa using this)
  have hm:=ZQ (P:=P) fields.toList (fun f hf=>let ⟨inf,_,h,_⟩:=hall f hf;⟨inf,h⟩);have⟨eH,e1,e2⟩:=ZP (w:=w) (μ:=μ) (st:=st) (place:=fun f=>(fields.toList.map fun f=>(f.offset,((P.info? f.type).map (·.size)).getD 0)).toArray[f]?) (size:=(w8 P t).size) (fun f off sz ag hf=>by
   have⟨oN,I,a2,a3,a4⟩:=Pn hf;have⟨p5i,u2,b1,b2,b3⟩:=hall oN (by simpa using Array.mem_of_getElem? I);have a1':fields.toList[f]? =some oN:=by simpa using I
   simp[a1',b1,b3,a2,a3]) ps.toList ds z.cells (w8 P t).zero hps K U h4
  refine⟨.agg eH,run_build w t ps eH ?_,.agg _ _ e2.1 e2.2⟩;simp only[Program.built,u,hu,hz,hm];exact e1
 ·exact h.elim
def nJ(w:World)(μ:Mu)(st:St)(n:Nat)(vs:Array Value)(es:List (List D)):Prop:=
 vs.size=es.length*n/\(∀e∈es,e.length=n)/\∀i j (u:i<es.length) (L:j<(es[i]).length),∃v,vs[i*n+j]? =some v/\VR w μ st v ((es[i])[j])/\v.oneCell'=true
theorem Pv{w:World}{μ:Mu}{st:St}{z:Value}{zs:List D}{len:Nat}(h:rQ w μ st z.cells zs)(U:zs.all D.one=true)(_:zs.length≠0):
 nJ w μ st zs.length ((nt (len*zs.length)).map (z.cells[· %z.cells.size]!)) (be len zs):=by
 refine⟨by simp,fun e he=>by rw[wx he],fun i j u L=>?_⟩
 simp at u
 simp only[List.getElem_replicate]at L⊢
 have hlt:i*zs.length+j<len*zs.length:=by have:(i+1)*zs.length<=len*zs.length:=du _ u;rw[fk]at this;omega
 have hmod:(i*zs.length+j)%z.cells.size=j:=by rw[h.1,n5,Nat.add_mul_mod_self_right,Nat.mod_eq_of_lt L]
 have uo:j<z.cells.size:=by rw[h.1];exact L
 have Q:=h.2 j L
 rw[qA (v:=z.cells[j]) (by simp[uo])]at Q
 refine⟨z.cells[j],?_,Q,one_cell Q (fc.1 U _ (bt L))⟩
 rw[Array.getElem?_map,Array.getElem?_range]
 simp[hlt,hmod,uo]
theorem nJ.set{w:World}{μ:Mu}{st:St}{n:Nat}{vs:Array Value}{es:List (List D)}{us:Array Value}{ds:List D}{k:Nat}(h:nJ w μ st n vs es)(S:k<es.length)
 (hsz:us.size=n) (hl:ds.length=n) (hu:∀j (L:j<ds.length),∃C',us[j]? =some C'/\VR w μ st C' (ds[j])/\C'.oneCell'=true):
 nJ w μ st n (us.zipIdx.foldl (fun cs (c,j)=>cs.setIfInBounds (k*n+j) c) vs) (es.set k ds):=by
 have e:(us.zipIdx.foldl (fun cs (c,j)=>cs.setIfInBounds (k*n+j) c) vs)=((us.toList.zipIdx 0).foldl (fun cs (p:Value×Nat)=>cs.setIfInBounds (k*n+p.2) p.1) vs):=by rw[<-yy];simp
 rw[e]
 have hkn:k*n+n<=es.length*n:=by have:(k+1)*n<=es.length*n:=du n S;rw[fk]at this;omega
 have hg:=fun q=>Pt (k*n) us.toList 0 vs q (by simp;rw[h.1,hsz];exact hkn)
 refine⟨by rw[Pr,h.1];simp,fun x A=>?_,fun i j u L=>?_⟩
 ·rcases List.mem_or_eq_of_mem_set A with h'|h'
  ·exact h.2.1 x h'
  ·rw[h'];exact hl
 ·simp at u;rw[hg];by_cases hik:i=k
  ·grind
  ·have ga:(es.set k ds)[i]'(by simpa using u)=es[i]:=by simp[pw hik]
   simp only[ga]at L⊢;have⟨C',eu,hu1,jW⟩:=h.2.2 i j u L;have hji:j<n:=by rw[<-h.2.1 _ (bt u)];exact L
   have:=ZH hji hik;refine⟨C',?_,hu1,jW⟩;rw[if_neg (by simp;rw[hsz];omega)];exact eu
theorem Pw{w:World}{μ:Mu}{st:St}{e:TI}{len:Nat}:
 ∀(ps:List (Nat×Value)) (ds:List (Nat×D)) (vs:Array Value) (es:List (List D)),xS w μ st ps ds->nJ w μ st e.size vs es->es.length=len->(∀p∈ds,oG e p.2/\p.1<len)->
  ∃eH,sb (fun i=>some (i*e.size,e.size)) vs ps=some eH/\nJ w μ st e.size eH (rM es (ds.map fun p=>(p.1,cellsOf e p.2)))
 | [],[],vs,es,_,h,_,_=>⟨vs,rfl,h⟩
 |(i,v)::ps,(j,d)::ds,vs,es,hps,h,hl,hok=>by
  obtain⟨rfl,Q,hps⟩:=hps;have⟨U,X⟩:=hok (i,d) B5;have⟨c1,c2,c3⟩:=Ph Q U;have ga:=h.set (k:=i) M c1 c2 c3;have⟨eH,e1,e2⟩:=Pw ps ds _ _ hps ga (by simpa using hl) (fun p hp=>hok p (by simp[hp]));refine⟨eH,?_,e2⟩;simp only[sb];rw[if_neg]
  ·exact e1
  ·simp only[rl,decide_eq_true_eq,not_or,ne_eq];have:i*e.size+e.size<=es.length*e.size:=by have:(i+1)*e.size<=es.length*e.size:=du _ (by simp at X;omega);rw[fk]at this;omega
   refine⟨by simp[c1],?_⟩;rw[c1,h.1];simp;exact this
 | [],_::_,_,_,h,_,_,_=>h.elim
 | _::_,[],_,_,h,_,_,_=>h.elim
theorem ZR(l:List (Nat×List D)):∀(es:List (List D)),(rM es l).length=es.length:=by
 induction l with
 |nil=>intro es;rfl
 |cons p l ih=>intro es;simp only[rM,ih];simp
theorem i2c{P:Program}{t el:TypeId}{w:World}{μ:Mu}{st:St}{ps:Array (Nat×Value)}{ds:List (Nat×D)}{len q:Nat}(hs:J0 w μ st)(hps:xS w μ st ps.toList ds)
 (hel:(w8 P t).k= .slice el) (hok:(IQ (w8 P t) (w8 P el) len ds q).ok) (hq:st[q]? =some (some .resv)):
 ∃v w' μ' ob,(np t len ps).run P w= .ok v w'/\(IQ (w8 P t) (w8 P el) len ds q).new=some ob/\J0 w' μ' (st.set q (some ob))/\Step w μ st w' μ' (st.set q (some ob))/\
  VR w' μ' (st.set q (some ob)) v (IQ (w8 P t) (w8 P el) len ds q).d:=by
 have⟨_,U,X,h3,h4,h5,h6⟩:=hok
 have hu:=iy hel
 have⟨inf,z,u,hz,K⟩:=Ed (w:=w) (μ:=μ) (st:=st) U X
 have⟨inf',hi',hsz⟩:=nF X
 rw[u]at hi';cases hi'
 have hz0:=Pv (len:=len) K h3 (by rw[U];exact X)
 rw[U]at hz0
 have⟨eH,e1,e2⟩:=Pw (len:=len) ps.toList ds _ _ hps hz0 B5 h4
 have hlt:q<st.length:=(c7.1 hq).1
 have hlen:(rM (be len (w8 P el).zero) (ds.map fun p=>(p.1,cellsOf (w8 P el) p.2))).length=len:=by rw[ZR];simp
 have h:=rF (x:=.cells eH el) (ob:=.arr 0 (w8 P el).size (w8 P el).bytes (rM (be len (w8 P el).zero) (ds.map fun p=>(p.1,cellsOf (w8 P el) p.2)))) hs hq
  (fun s=>Ak e2.2.2 (by rw[e2.1];exact ae _) e2.2.1 (by rw[hlen];exact h6) s)
 refine⟨.slice (some ⟨w.heap.size,0,none⟩) len len,_,_,_,?_,rfl,h.1,h.2,?_⟩
 ·have Px:¬(2^24<len*inf.size):=by rw[<-hsz];omega
  have xT:sb (fun i=>some (i*inf.size,inf.size)) ((nt (len*inf.size)).map (z.cells[· %z.cells.size]!)) ps.toList=some eH:=by rw[<-hsz];exact e1
  by_cases H6:len*inf.size=0
  ·have:len=0:=by
    rcases Eg.1 H6 with h|h
    ·exact h
    ·grind
   subst this
   have r0:nt 0=(#[]:Array Nat):=rfl
   simp[r0]at xT
   simp[np,run_underlying hu,eG u,newRow,r0,xT]
  ·simp only[np,run_underlying hu,eQ,dm,eG u];simp[Px,H6,zeroValue,typeInfo,u,hz,newRow];rw[xT];simp
 ·refine .ref _ true q 0 0 len ⟨_,_,_,rfl⟩ (by simpa using hlt) (by simp[hlt]) (fun g' n b es e=>li _) (fun n b es e=>?_);rw[gm hlt]at e;cases e;refine⟨_,_,rfl,ae _,by rw[hlen];omega,fun _=>rfl,.inr ⟨w.heap.size,0,by rw[aq],by simp,eH,el,heap_alloc_new _ _,?_⟩⟩;rw[e2.1,hlen];simp
theorem i2d{P:Program}{t el:TypeId}{w:World}{μ:Mu}{st:St}{vl vc:Value}{l c:D}{q:Nat}(hs:J0 w μ st)(hl:VR w μ st vl l)(K:VR w μ st vc c)
 (hel:(w8 P t).k= .slice el) (hok:(nG (w8 P t) (w8 P el) l c q).ok) (hq:st[q]? =some (some .resv)):
 ∃v w' μ' ob,(un t vl vc).run P w= .ok v w'/\(nG (w8 P t) (w8 P el) l c q).new=some ob/\J0 w' μ' (st.set q (some ob))/\Step w μ st w' μ' (st.set q (some ob))/\
  VR w' μ' (st.set q (some ob)) v (nG (w8 P t) (w8 P el) l c q).d:=by
 unfold nG at hok
 split at hok
 ·rename_i l c;have:=dy hl;subst this;have:=dy K;subst this;have⟨_,g1,g2,g3,g4,U,X,h3⟩:=hok;have hu:=iy hel;have⟨inf,z,u,hz,hcz⟩:=Ed (w:=w) (μ:=μ) (st:=st) U X;have⟨inf',hi',hsz⟩:=nF X;rw[u]at hi';cases hi';have hbytes:(w8 P el).bytes=inf.bytes:=by simp[w8,u]
  have hz0:=Pv (len:=c.toNat) hcz h3 (by rw[U];exact X);rw[U]at hz0;have hlt:q<st.length:=(c7.1 hq).1;have hlc:l.toNat<=c.toNat:=by omega
  have htake:∀i j (hi':i<(be l.toNat (w8 P el).zero).length) (L:j<((be l.toNat (w8 P el).zero)[i]).length),∃v,
   ((nt (c.toNat*(w8 P el).size)).map (z.cells[· %z.cells.size]!))[i*(w8 P el).size+j]? =some v/\VR w μ st v (((be l.toNat (w8 P el).zero)[i])[j])/\v.oneCell'=true:=by
   intro i j hi' L
   simp at hi'
   have:=hz0.2.2 i j (by simp;omega) (by simpa using L)
   simpa using this
  have h:=rF (x:=.cells ((nt (c.toNat*(w8 P el).size)).map (z.cells[· %z.cells.size]!)) el) (ob:=.arr 0 (w8 P el).size (w8 P el).bytes (be l.toNat (w8 P el).zero)) hs hq
   (fun s=>Ak htake (by simp;exact du _ hlc) (fun e he=>by rw[wx he];exact U) (by simp;exact js (du _ hlc) g3) s)
  refine⟨.slice (some ⟨w.heap.size,0,none⟩) l.toNat c.toNat,_,_,_,?_,rfl,h.1,h.2,?_⟩
  ·have t1:top=140737488355328:=rfl;have wl:xj.wrap l=l:=IntWalk.i64_in l M;have wc:xj.wrap c=c:=IntWalk.i64_in c M;have b1:((inf.bytes:Int)*c)<=281474976710656:=by grind
   have n1:¬c<0:=by omega
   have n2:¬l<0:=by omega
   have n3:¬c<l:=by omega
   have n4:¬(281474976710656<(inf.bytes:Int)*c):=by omega
   by_cases hc0:c.toNat*inf.size=0
   ·have i2e:c.toNat=0:=by
     rcases Eg.1 hc0 with h|h
     ·exact h
     ·grind
    have i2f:l.toNat=0:=by omega
    simp[un,run_underlying hu,asInt,rO,typeInfo,u,wl,wc,n1,n2,n3,n4,eG u,newRow,i2e,i2f,show nt 0=(#[]:Array Nat)from rfl]
   ·simp[un,run_underlying hu,asInt,rO,typeInfo,u,wl,wc,n1,n2,n3,n4,eG u,newRow,zeroValue,hz, <-hsz];rw[hsz];simp[hc0]
  ·refine .ref _ _ q 0 0 l.toNat ⟨_,_,_,rfl⟩ (by simpa using hlt) (by simp[hlt]) (fun g' n b es e=>li _) (fun n b es e=>?_);rw[gm hlt]at e;cases e;refine⟨_,_,rfl,hlc,by simp,fun hf=>?_,.inr ⟨w.heap.size,0,by rw[aq],by simp,_,el,heap_alloc_new _ _,by simp⟩⟩;simp at hf;rw[hf]
 ·exact hok.elim
theorem i2g{P:Program}{t:TypeId}{w:World}{μ:Mu}{st:St}{k:TI}{ag:Bool}{q:Nat}(hs:J0 w μ st)(hok:(oK (w8 P t) k ag q).ok)(hq:st[q]? =some (some .resv)):
 ∃v w' μ' ob,(Instr.makeMap t none).run P w= .ok v w'/\(oK (w8 P t) k ag q).new=some ob/\J0 w' μ' (st.set q (some ob))/\Step w μ st w' μ' (st.set q (some ob))/\
  VR w' μ' (st.set q (some ob)) v (oK (w8 P t) k ag q).d:=by
 have hlt:q<st.length:=(c7.1 hq).1
 unfold oK at hok⊢
 split at hok
 ·have h:=rF (x:=.map #[] 0) (ob:=.mps ag []) hs hq (fun s=>⟨⟨w.heap.size, #[],0,[],rfl,heap_alloc_new _ _,rfl,fun i u=>absurd u (co _),⟨.refl _,lh,rfl,fun i e h=>by simp at h⟩⟩⟩);refine⟨.map (some w.heap.size),_,_,_,rfl,rfl,h.1,h.2,?_⟩;refine .mp _ q ⟨_,rfl⟩ (by simpa using hlt) (by simp[hlt]) (fun _ es e=>⟨_,aq _ _ _,rfl⟩) (fun _ k es e=>⟨_,aq _ _ _,rfl⟩)
 ·rename_i kk _ _;have h:=rF (x:=.map #[] 0) (ob:=.T9 ag kk []) hs hq (fun s=>⟨⟨w.heap.size, #[],0,[],rfl,heap_alloc_new _ _,rfl,fun i u=>absurd u (co _),⟨.refl _,lh,rfl,fun i e h=>by simp at h⟩⟩⟩);refine⟨.map (some w.heap.size),_,_,_,rfl,rfl,h.1,h.2,?_⟩;refine .mp _ q ⟨_,rfl⟩ (by simpa using hlt) (by simp[hlt]) (fun _ es e=>⟨_,aq _ _ _,rfl⟩) (fun _ k es e=>⟨_,aq _ _ _,rfl⟩)
 ·exact hok.elim
theorem i2h{k:IntKind}{n:Int}(h:rL k n)(hs:k.signed=true):k.wrap n=n:=by unfold rL EE xl at h;rw[hs]at h;simp only[if_true]at h;unfold CC;simp only[hs,Bool.true_and];cases k<;>simp[ut]at hs<;>simp only[wi]at h⊢ <;>simp at h⊢ <;>split<;>omega
theorem Py{k:IntKind}{n:Int}(h:rL k n):k.wrap n=n:=by
 cases hs:k.signed with
 |true=>exact i2h h hs
 |false=>unfold rL EE xl at h;rw[hs]at h;unfold CC;rw[hs];simp only[Bool.false_and,ib,if_false]at h⊢;cases k<;>simp[ut]at hs<;>simp only[wi]at h⊢ <;>simp at h⊢ <;>omega
theorem IV{μ:Mu}{st:St}{k:IntKind}{n:Int}(_:(arith k n).ok):VR w μ st (.int k (k.wrap n)) (arith k n).d:=by exact cE _ _ _ _ _
theorem i2i(P:Program)(w:World)(op:BinOp)(t:TypeId)(x y:Operand)(k k':IntKind)(a b:Int):(eqGuard op t x y (.int k a) (.int k' b)).run P w= .ok () w:=by unfold eqGuard;simp
theorem i2j(P:Program)(w:World)(op:BinOp)(t:TypeId)(x y:Operand)(a b:ByteArray):(eqGuard op t x y (.string a) (.string b)).run P w= .ok () w:=by unfold eqGuard;simp
theorem ZS(P:Program)(w:World)(op:BinOp)(t:TypeId)(x y:Operand)(a b:Bool):(eqGuard op t x y (.bool a) (.bool b)).run P w= .ok () w:=by unfold eqGuard;simp
theorem uF(s:J):(bs s).toList=s:=by simp[bs]
theorem nK{α:Type}[BEq α][LawfulBEq α][DecidableEq α](a b:α):(a==b)=decide (a=b):=by grind
theorem i2k{P:Program}{t:TypeId}{w:World}{μ:Mu}{st:St}{vx vy:Value}{x y:D}{op:BinOp}(A:VR w μ st vx x)(hy:VR w μ st vy y)
 (hok:(cD op x y).ok):∃v,(binOp op t vx vy).run P w= .ok v w/\VR w μ st v (cD op x y).d/\((∃k a k' b,vx= .int k a/\vy= .int k' b)\/∃a b,vx= .string a/\vy= .string b):=by
 unfold cD at hok
 split at hok
 ·rename_i k a k' b;have:=dy A;subst this;have:=dy hy;subst this;have both:(∃k1 I k2 b1,l6 k a= .int k1 I/\l6 k' b= .int k2 b1)\/∃I b1,l6 k a= .string I/\l6 k' b= .string b1:=.inl ⟨_,_,_,_,rfl,rfl⟩;have bo:∀r,(∃v,(binOp op t (.int k a) (.int k' b)).run P w= .ok v w/\VR w μ st v r)->∃v,(binOp op t (.int k a) (.int k' b)).run P w= .ok v w/\VR w μ st v r/\
   ((∃k1 I k2 b1,l6 k a= .int k1 I/\l6 k' b= .int k2 b1)\/∃I b1,l6 k a= .string I/\l6 k' b= .string b1):=fun r ⟨v,U,X⟩=>⟨v,U,X,both⟩
  apply bo;split at hok
  ·have H:¬b<0:=by have h:0<=b:=hok;omega
   refine⟨.int k (k.wrap (a*2^(min b.toNat k.bits))),?_,cE _ _ _ _ _⟩;simp[binOp,Op.shift,H]
  ·have H:¬b<0:=by have h:0<=b:=hok;omega
   refine⟨.int k (a.fdiv (2^(min b.toNat k.bits))),?_,cE _ _ _ _ _⟩;simp[binOp,Op.shift,H]
  ·rename_i U X;split at hok
   ·rename_i hkk;subst hkk;split at hok
    ·exact⟨.int k (k.wrap (a+b)),by simp[binOp,ve],by simp only[cD,if_true];exact IV hok⟩
    ·exact⟨.int k (k.wrap (a-b)),by simp[binOp,ve],by simp only[cD,if_true];exact IV hok⟩
    ·exact⟨.int k (k.wrap (a*b)),by simp[binOp,ve],by simp only[cD,if_true];exact IV hok⟩
    ·have⟨h0,h3⟩:=hok;refine⟨.int k (a.tdiv b),?_,by simp only[cD,if_true];exact cE _ _ _ _ _⟩;simp[binOp,Op.intDiv,h0,Py h3]
    ·have h0:b≠0:=hok;refine⟨.int k (a.tmod b),by simp[binOp,Op.intDiv,h0],by simp only[cD,if_true];exact cE _ _ _ _ _⟩
    ·exact⟨.bool (decide (a=b)),by simp[binOp,sd,nK],by simp only[cD,if_true];exact dz _ _ _ _⟩
    ·exact⟨.bool (!decide (a=b)),by simp[binOp,sd,bne,nK],by simp only[cD,if_true];exact dz _ _ _ _⟩
    ·exact⟨.bool (decide (a<b)),by simp[binOp,sd],by simp only[cD,if_true];exact dz _ _ _ _⟩
    ·exact⟨.bool (decide (a<=b)),by simp[binOp,sd],by simp only[cD,if_true];exact dz _ _ _ _⟩
    ·exact⟨.bool (decide (b<a)),by simp[binOp,sd],by simp only[cD,if_true];exact dz _ _ _ _⟩
    ·exact⟨.bool (decide (b<=a)),by simp[binOp,sd],by simp only[cD,if_true];exact dz _ _ _ _⟩
    ·cases op<;>first|contradiction|skip
     ·exact⟨.int k (xK .and k a b),by simp only[binOp,ne_eq,not_true_eq_false,if_false];rfl,by simp only[cD,if_true];exact cE _ _ _ _ _⟩
     ·exact⟨.int k (xK .or k a b),by simp only[binOp,ne_eq,not_true_eq_false,if_false];rfl,by simp only[cD,if_true];exact cE _ _ _ _ _⟩
     ·exact⟨.int k (xK .xor k a b),by simp only[binOp,ne_eq,not_true_eq_false,if_false];rfl,by simp only[cD,if_true];exact cE _ _ _ _ _⟩
     ·exact⟨.int k (xK .andNot k a b),by simp only[binOp,ne_eq,not_true_eq_false,if_false];rfl,by simp only[cD,if_true];exact cE _ _ _ _ _⟩
   ·exact hok.elim
 ·rename_i a b;have:=jA A;subst this;have:=jA hy;subst this;have both:(∃k1 I k2 b1,so (bs a)= .int k1 I/\so (bs b)= .int k2 b1)\/∃I b1,so (bs a)= .string I/\so (bs b)= .string b1:=.inr ⟨_,_,rfl,rfl⟩;split at hok
  ·refine⟨.string (bs (a++b)),?_,xQ _ _ _ _,both⟩;have hle:a.length+b.length<=9223372036854775807:=hok;have:¬(((bs a).size+(bs b).size:Nat):Int)>xj.max:=by rw[qy,qy];simp[xl,ut,wi];omega
   have e:bs a++bs b=bs (a++b):=by apply As;simp[bs]
   simp only[binOp,pb];rw[if_neg this,e];rfl
  ·exact⟨.bool (decide (a=b)),by simp[binOp,pb,uF,nK],dz _ _ _ _,both⟩
  ·exact⟨.bool (!decide (a=b)),by simp[binOp,pb,uF,nK],dz _ _ _ _,both⟩
  ·exact⟨.bool (l9 a b),by simp[binOp,pb,uF],dz _ _ _ _,both⟩
  ·exact⟨.bool (!(l9 a b||decide (a=b))),by simp[binOp,pb,uF,nK],dz _ _ _ _,both⟩
  ·exact⟨.bool (l9 a b||decide (a=b)),by simp[binOp,pb,uF,nK],dz _ _ _ _,both⟩
  ·exact⟨.bool (!l9 a b),by simp[binOp,pb,uF],dz _ _ _ _,both⟩
  ·exact hok.elim
 ·exact hok.elim
end Go.Am
namespace Go.Am
open Go Go.MapKept
variable {yo:Type} {ag:Bool} {d:TypeDesc} {v:Value} {w:World}
section maps
variable {yo:Type} [DecidableEq yo] {key:yo->Value} {d:TypeDesc}
theorem IW(xU:∀a b:yo,lp d (key a) (key b)=some (decide (a=b)))(k:yo):∀(l:List MapEntry) (es:List (yo×List D)) (i:Nat),l.length=es.length->
 (∀j (L:j<es.length),∃e,l[j]? =some e/\e.key=key (es[j]).1)->
 (assoc k es=none/\pr d (key k) l i=some none/\∀v,I4 k v es=es++[(k,v)])\/
  ∃j cs e,assoc k es=some cs/\pr d (key k) l i=some (some (i+j,e.val))/\l[j]? =some e/\es[j]? =some (k,cs)/\∀v,I4 k v es=es.set j (k,v)
 | [],[],_,_,_=>.inl ⟨rfl,rfl,fun _=>rfl⟩
 |e::l,(a,cs)::es,i,hl,h=>by
  have⟨e',he,S⟩:=h 0 B5;simp at he S;subst he;by_cases hka:k=a
  ·subst hka;exact .inr ⟨0,cs,e,by simp[assoc],by simp[pr,S,xU],rfl,rfl,fun v=>by simp[I4]⟩
  ·have hn:lp d (key k) e.key=some false:=by rw[S,xU];simp[hka]
   rcases IW xU k l es (i+1) (by simpa using hl) (fun j L=>by have⟨e2,U,X⟩:=h (j+1) (by simp;omega);exact⟨e2,by simpa using U,by simpa using X⟩)with⟨U,X,h3⟩|⟨j,cs',e2,U,X,h3,h4,h5⟩
   ·exact .inl ⟨by simp[assoc,hka,U],by simp[pr,hn,X],fun v=>by simp[I4,hka,h3]⟩
   ·exact .inr ⟨j+1,cs',e2,by simp[assoc,hka,U],by simp[pr,hn,X];omega,by simpa using h3,by simpa using h4,fun v=>by simp[I4,hka,h5]⟩
 | [],_::_,_,h,_=>by simp at h
 | _::_,[],_,h,_=>by simp at h
end maps
section alike
variable {yo:Type} [DecidableEq yo] {xx:Type}
theorem Ee{k:yo}{v:xx}:∀ {es:List (yo×xx)},(es.map (·.1)).Nodup->(assoc k es=some v↔(k,v)∈es)
 | [],_=>by simp[assoc]
 |(a,C')::es,h=>by
  rw[bv,ia]at h;by_cases e:k=a
  ·subst e;simp only[assoc,if_true,ce,Prod.mk.injEq,true_and,I2];refine⟨fun h=>.inl h.symm,fun X=>X.elim Eq.symm fun h3=>?_⟩;exact absurd (bj.2 ⟨_,h3,rfl⟩) h.1
  ·simp only[assoc,ce,Prod.mk.injEq,e,false_and,false_or];exact Ee h.2
theorem i2l{k:yo}{es es':List (yo×xx)}(h:es'.Perm es)(hn:(es.map (·.1)).Nodup):assoc k es'=assoc k es:=by
 have hn':(es'.map (·.1)).Nodup:=(h.map _).nodup_iff.2 hn;cases U:assoc k es with
 |some v=>rw[Ee hn'];exact h.mem_iff.2 ((Ee hn).1 U)
 |none=>
  cases X:assoc k es' with
  |none=>rfl
  |some v=>rw[(Ee hn).2 (h.mem_iff.1 ((Ee hn').1 X))]at U;cases U
theorem IX{k:yo}{v:xx}:∀ {es:List (yo×xx)},(es.map (·.1)).Nodup->(I4 k v es).Perm ((k,v)::es.filter fun p=> !decide (p.1=k))
 | [],_=>by simp[I4]
 |(a,C')::es,h=>by
  rw[bv,ia]at h;by_cases e:k=a
  ·subst e;have hf:es.filter (fun p=> !decide (p.1=k))=es:=List.filter_eq_self.2 fun p hp=>by grind
   simp only[I4,if_true];rw[List.filter_cons_of_neg B5,hf]
  ·have e':¬a=k:=fun x=>e x.symm;simp only[I4,if_neg e];rw[List.filter_cons_of_pos (by simp[e'])];exact((IX h.2).cons _).trans (.swap _ _ _)
theorem ZT{k:yo}{v:xx}{es es':List (yo×xx)}(h:es'.Perm es)(hn:(es.map (·.1)).Nodup):(I4 k v es').Perm (I4 k v es):=by have hn':(es'.map (·.1)).Nodup:=(h.map _).nodup_iff.2 hn;exact(IX hn').trans (((h.filter _).cons _).trans (IX hn).symm)
theorem ZU{k:yo}{v:xx}{es:List (yo×xx)}(hn:(es.map (·.1)).Nodup):((I4 k v es).map (·.1)).Nodup:=by rw[((IX (v:=v) (k:=k) hn).map _).nodup_iff,bv,ia];refine⟨fun h=>?_,((List.filter_sublist (p:=fun p:yo×xx=> !decide (p.1=k))).map _).nodup hn⟩;have⟨p,hp,e⟩:=bj.1 h;have:=(List.mem_filter.1 hp).2;simp[e]at this
end alike
theorem DP.same{xx:Type}{ents nL:Array MapEntry}{clock:Nat}{es es':List (yo×xx)}{si:Type}{fs fs':List (yo×si)}(h:DP ents clock es es')(hp:fs'.Perm fs)(hn:(fs.map (·.1)).Nodup)(hs:nL.size=ents.size)(H:∀(i:Nat)(e:MapEntry),nL[i]? =some e->∃e0:MapEntry,ents[i]? =some e0/\e.born=e0.born):DP nL clock fs fs':=
 ⟨hp,hn,by rw[hs];exact h.Ai,fun i e he=>by have⟨e0,a,b⟩:=H i e he;rw[b];exact h.born i e0 a⟩
theorem Pz(a b:J):lp .string (.string (bs a)) (.string (bs b))=some (decide (a=b)):=by
 simp only[lp];congr 1;by_cases h:a=b
 ·subst h;simp[bytes_beq]
 ·have hn:bs a≠bs b:=fun e=>h (by have:=congrArg (fun x=>x.data.toList) e;simpa[bs]using this);have:¬((bs a==bs b)=true):=fun e=>hn ((bytes_beq _ _).1 e);simp[h,this]
theorem ZV(k:IntKind)(a b:Int):lp (.int k) (.int k a) (.int k b)=some (decide (a=b)):=by simp[lp,nK]
theorem ZW{P:Program}{t:TypeId}{w:World}{μ:Mu}{st:St}(h:(w8 P t).zv.isSome=true):∃z,(zeroValue t).run P w= .ok z w/\VR w μ st z ((w8 P t).zv.getD .any):=by
 cases u:P.info? t with
 |none=>simp[w8,u]at h
 |some inf=>
  cases hz:inf.zero with
  |none=>simp[w8,u,hz]at h
  |some z=>exact⟨z,by simp[zeroValue,typeInfo,u,hz],by simp[w8,u,hz];exact ZK _ _ _ _⟩
theorem nE.val{μ:Mu}{st:St}{cs:List D}(h:nE ag w μ st v cs):VR w μ st v (oF ag cs):=by
 cases ag with
 |true=>exact h
 |false=>obtain⟨d,rfl,h⟩:=h;exact h
theorem PA{μ:Mu}{st:St}{d c:D}(h:VR w μ st v c):VR w μ st v (Ao d c):=by
 unfold Ao;split
 ·split
  ·split
   ·rename_i f n b H;cases h with
    |tr h=>cases h;exact .tr (.sl f n b [] none 0 0 (fun _ _=>undef) rfl (ae _) (fun _=>rfl) (by simp[top]) H (fun e he=>by cases he) (.inl rfl) (fun i j u=>absurd u (co _)))
   ·exact h
  ·exact h
 ·exact h
theorem ZX:∀(ds cs:List D),(nz ds cs).length=cs.length/\∀j (h:j<(nz ds cs).length) (h':j<cs.length),(nz ds cs)[j]=cs[j]\/∃d,(nz ds cs)[j]=Ao d cs[j]
 | [],cs=>⟨rfl,fun _ _ _=>.inl rfl⟩
 | _::_,[]=>⟨rfl,fun _ _ h=>absurd h (co _)⟩
 |d::ds,c::cs=>by
  have⟨U,X⟩:=ZX ds cs;refine⟨by simp[nz,U],fun j h h'=>?_⟩;cases j with
  |zero=>exact .inr ⟨d,rfl⟩
  |succ j=>exact X j (by simpa[nz]using h) (by simpa using h')
theorem ZY{μ:Mu}{st:St}{ds cs:List D}(h:VR w μ st v (.agg cs)):VR w μ st v (.agg (nz ds cs)):=by
 have⟨U,X⟩:=ZX ds cs;cases h with
 |tr h=>cases h
 |agg vs _ hs K=>
  refine .agg vs _ (by rw[U];exact hs) fun j L=>?_;have hj':j<cs.length:=by rw[<-U];exact L
  rcases X j L hj' with e|⟨d,e⟩
  ·rw[e];exact K j hj'
  ·rw[e];exact PA (K j hj')
theorem PB{μ:Mu}{st:St}{z:Value}{i:TI}(h:VR w μ st z (i.zv.getD .any)):VR w μ st z (jV i none):=by
 unfold jV;cases e:i.zv with
 |none=>exact .any _
 |some d=>
  rw[e]at h;cases d with
  |agg cs=>exact ZY h
  |A9=>exact PA h
  | _=>exact h
theorem d0a{P:Program}{t kt et:TypeId}{w:World}{μ:Mu}{st:St}{yo:Type}[DecidableEq yo]{key:yo->Value}{d:TypeDesc}{es:List (yo×List D)}{m:Option (Nat×Nat)}{k:yo}{ok:Bool}{ag:Bool}
 (hu:P.underlying t=some (.map kt et)) (jB:P.underlying kt=some d) (hkey:∀k,IsKey d (key k)) (xU:∀a b:yo,lp d (key a) (key b)=some (decide (a=b)))
 (hm:aW key ag w μ st m es) (M8:ag=(w8 P et).k.agg) (hz:(w8 P et).zv.isSome=true):
 ∃blk v,m=some (blk,0)/\(pd t (.map (some blk)) (key k) ok).run P w= .ok v w/\VR w μ st v (xJ (w8 P et) ok (assoc k es)):=by
 have⟨blk,ents,clock,ez,em,hh,hsz,K,A⟩:=hm.loc
 have⟨z,Ar,bT⟩:=ZW (w:=w) (μ:=μ) (st:=st) hz
 have hck:=fun e=>run_checkKey (P:=P) (w:=w) jB (hkey k) e 9999
 have fin:∀(C':Value) (b:Bool) (r:Option (List D)),VR w μ st C' (jV (w8 P et) r)->b=r.isSome->VR w μ st (if ok then .tuple #[C',.bool b]else C') (xJ (w8 P et) ok r):=by
  intro C' b r U X;subst X;cases ok with
  |false=>exact U
  |true=>
   refine .E8 _ _ (fun j L _=>by simpa[xJ]using L) (fun j L=>?_);match j,L with
   |0,_=>exact U
   |1,_=>exact dz _ _ _ _
   |j+2,L=>simp at L;omega
 rw[<-i2l (k:=k) A.perm A.nd]
 refine⟨blk,?_⟩
 rcases IW xU k ents.toList ez 0 (by simpa using hsz) (fun j L=>by have⟨e,U,X,_⟩:=K j L;exact⟨e,by simpa using U,X⟩)with⟨U,X,_⟩|⟨j,cs,e,U,X,h3,h4,_⟩
 ·have hf:=run_findKey (P:=P) (w:=w) jB X;refine⟨_,em,?_,fin z false none (PB bT) rfl |> (U▸ ·)⟩;simp[pd,run_underlying hu,jp hh,hck,hf,Ar]
 ·have hf:=run_findKey (P:=P) (w:=w) jB X;have L:j<ez.length:=by grind
  have⟨e',I,a2,a3⟩:=K j L;have:e'=e:=by grind
  subst this;have qz:ez[j]=(k,cs):=by grind
  rw[qz,M8]at a3;refine⟨_,em,?_,fin e'.val true (some cs) a3.val rfl |> (U▸ ·)⟩;simp[pd,run_underlying hu,jp hh,hck,hf]
theorem uG{μ:Mu}{st:St}{o:Nat}(h:VR w μ st v (.mp o)):
 (∀ag es,st[o]? =some (some (.mps ag es))->∃blk,μ o=some (blk,0)/\v= .map (some blk))/\(∀ag k es,st[o]? =some (some (.T9 ag k es))->∃blk,μ o=some (blk,0)/\v= .map (some blk)):=by
 cases h with
 |tr h=>cases h
 |mp _ _ _ _ _ U X=>exact⟨U,X⟩
theorem i2m{P:Program}{t kt et:TypeId}{w:World}{μ:Mu}{st:St}{vm vk:Value}{m k:D}{ok:Bool}(hs:J0 w μ st)(hm:VR w μ st vm m)(S:VR w μ st vk k)
 (hu:(w8 P t).k= .map kt et) (hok:(nH (w8 P t) (w8 P kt) (w8 P et) (look st) ok k m).ok):
 ∃v,(pd t vm vk ok).run P w= .ok v w/\VR w μ st v (nH (w8 P t) (w8 P kt) (w8 P et) (look st) ok k m).d:=by
 have kQ:=DZ hu
 cases m with
 |mp o=>
  simp only[nH]at*
  split at hok
  ·rename_i ag es k hl;have⟨_,hks,M8,hz⟩:=hok;have ho:=V7 hl;have:=jA S;subst this;have⟨blk,em,ev⟩:=(uG hm).1 ag es ho;subst ev;have⟨bS,v,em',U,X⟩:=d0a (P:=P) (k:=k) (ok:=ok) (key:=fun k=>.string (bs k)) kQ (kP hks) (fun _=>trivial) Pz (hs.obj o _ ho:aW _ ag w μ st (μ o) es) M8 hz;rw[em]at em';cases em';exact⟨v,U,X⟩
  ·rename_i ag kk es qp k hl;obtain⟨_,hks,rfl,M8,hz⟩:=hok;have ho:=V7 hl;have:=dy S;subst this;have⟨blk,em,ev⟩:=(uG hm).2 ag _ es ho;subst ev;have⟨bS,v,em',U,X⟩:=d0a (P:=P) (k:=k) (ok:=ok) (key:=fun n=>.int qp n) kQ (xP hks) (fun _=>rfl) (ZV qp) (hs.obj o _ ho:aW _ ag w μ st (μ o) es) M8 hz;rw[em]at em';cases em';exact⟨v,U,X⟩
  ·exact hok.elim
 |S8=>
  simp only[nH]at*
  split at hok
  ·have⟨_,hks,hz⟩:=hok;have:=jA S;subst this;have hvm:vm= .map none:=by
    cases hm with
    |tr h=>cases h;rfl
   subst hvm;have⟨z,Ar,bT⟩:=ZW (w:=w) (μ:=μ) (st:=st) hz;have hck:=fun e k=>run_checkKey (P:=P) (w:=w) (d:=.string) (k:=.string (bs k)) (kP hks) trivial e 9999;have hf:=fun k=>run_findKey (P:=P) (w:=w) (k:=.string (bs k)) (l:=[]) (kP hks) rfl;cases ok with
   |false=>exact⟨z,by simp[pd,run_underlying kQ,hck,hf,Ar],PB bT⟩
   |true=>
    refine⟨_,by simp[pd,run_underlying kQ,hck,hf,Ar];rfl,?_⟩;refine .E8 _ _ (fun j L _=>by simpa[xJ]using L) (fun j L=>?_);match j,L with
    |0,_=>exact PB bT
    |1,_=>exact dz _ _ _ _
    |j+2,L=>simp at L;omega
  ·exact hok.elim
 | _=>exact hok.elim
theorem d0b{μ:Mu}{st:St}{i:TI}{x:D}(h:VR w μ st v x)(hok:oG i x):nE i.k.agg w μ st v (cellsOf i x):=by
 unfold oG at hok;unfold cellsOf nE;split at hok
 ·grind
 ·grind
theorem d0c{μ:Mu}{st:St}{ds cs:List D}(h:nE ag w μ st v cs):nE ag w μ st v (nz ds cs):=by
 cases ag with
 |true=>exact ZY (show VR w μ st v (.agg cs)from h)
 |false=>
  obtain⟨d,rfl,X⟩:=(show ∃d,cs=[d]/\VR w μ st v d from h);show ∃d',nz ds [d]=[d']/\VR w μ st v d';cases ds with
  |nil=>exact⟨d,rfl,X⟩
  |cons d' ds=>exact⟨Ao d' d,by cases ds<;>rfl,PA X⟩
theorem i2o{k:Value}(S:IsKey d k):CE 10000 k k=true:=by cases d<;>cases k<;>simp_all [IsKey,CE,bytes_beq]
theorem d0d{P:Program}{t kt et:TypeId}{w:World}{μ:Mu}{st:St}{yo:Type}[DecidableEq yo]{key:yo->Value}{d:TypeDesc}{es:List (yo×List D)}{o:Nat}{k:yo}{ag:Bool}{mk:List (yo×List D)->Ob}
 (hs:J0 w μ st) (ho:st[o]? =some (some (mk es)))
 (hu:P.underlying t=some (.map kt et)) (jB:P.underlying kt=some d) (hkey:∀k,IsKey d (key k)) (xU:∀a b:yo,lp d (key a) (key b)=some (decide (a=b)))
 (qB:∀w μ st es,uf w μ st (μ o) (mk es)↔aW key ag w μ st (μ o) es) (hst:∀w w' m es es',eF w w' m m (mk es) (mk es'))
 {v:Value} {cs:List D} (Q:nE ag w μ st v cs):
 ∃blk w',μ o=some (blk,0)/\(mf t (.map (some blk)) (key k) v).run P w= .ok () w'/\J0 w' μ (st.set o (some (mk (I4 k cs es))))/\Step w μ st w' μ (st.set o (some (mk (I4 k cs es)))):=by
 have⟨blk,ents,clock,ez,em,hh,hsz,K,A⟩:=((qB w μ st es).1 (hs.obj o _ ho)).loc
 have hck:=fun e=>run_checkKey (P:=P) (w:=w) jB (hkey k) e 9999
 have hlt:blk<w.heap.size:=(Array.getElem?_eq_some_iff.1 hh).1
 have main:∀nL clock',nL.size=(I4 k cs ez).length->DP nL clock' (I4 k cs es) (I4 k cs ez)->(∀i (u:i<(I4 k cs ez).length),∃e,nL[i]? =some e/\e.key=key ((I4 k cs ez)[i]).1/\nE ag w μ st e.val ((I4 k cs ez)[i]).2)->
  J0 { w with heap:=w.heap.setIfInBounds blk (.map nL clock') } μ (st.set o (some (mk (I4 k cs es))))/\Step w μ st { w with heap:=w.heap.setIfInBounds blk (.map nL clock') } μ (st.set o (some (mk (I4 k cs es)))):=by
  intro nL clock' g1 gx g2
  have⟨aK,V1⟩:=heap_set (w:=w) (o':=.map nL clock') hh
  refine jS hs ho (fun _ _=>rfl) (fun b H hne=>V1 b (fun e=>hne 0 (e▸em))) B5 rfl rfl ⟨rfl,Dr.le (ae _)⟩ (fun b base e=>.inl ⟨base,e⟩) (hst _ _ _ _ _) (fun s=>?_)
  rw[qB]
  exact⟨⟨blk,nL,clock',_,em,aK,g1,fun i u=>let ⟨e,U,X,h3⟩:=g2 i u;⟨e,U,X,h3.step s⟩,gx⟩⟩
 rcases IW xU k ents.toList ez 0 (by simpa using hsz) (fun j L=>by have⟨e,U,X,_⟩:=K j L;exact⟨e,by simpa using U,X⟩)with⟨U,X,h3⟩|⟨j,cs0,e,U,X,h3,h4,h5⟩
 ·have hf:=run_findKey (P:=P) (w:=w) jB X;have⟨m1,m2⟩:=main (ents.push { key:=key k,val:=v,born:=clock }) (clock+1) (by rw[h3];simp[hsz]) ⟨ZT A.perm A.nd,ZU A.nd,by rw[Array.size_push,A.Ai],fun i e he=>by
   rw[r6]at he;split at he
   ·rename_i e1;cases he;rw[e1];exact A.Ai
   ·exact A.born i e he⟩ (fun i u=>by
   simp only[h3]at u⊢;simp at u;by_cases dx:i<ez.length
   ·grind
   ·have:i=ez.length:=by omega
    subst this;refine⟨{ key:=key k,val:=v,born:=clock },by rw[r6,if_pos M],by simp,by simpa using Q⟩)
  refine⟨blk,_,em,?_,m1,m2⟩;simp[mf,run_underlying hu,jp hh,hck,hf,run_setObj_map _ hh]
 ·have hf:=run_findKey (P:=P) (w:=w) jB X;have L:j<ez.length:=by grind
  have uo:j<ents.size:=by omega
  have hej:ents[j]? =some e:=by simpa using h3
  have hkj:e.key=key k:=by grind
  have⟨m1,m2⟩:=main (ents.modify j fun e=>{ e with key:=key k,val:=v }) clock (by rw[h5];simp[hsz]) (A.same (ZT A.perm A.nd) (ZU A.nd) B5 fun i e he=>by
   rw[gw]at he;split at he
   ·grind
   ·exact⟨e,he,rfl⟩) (fun i u=>by
   simp only[h5]at u⊢;simp at u;have⟨e0,I,a2,a3⟩:=K i u;by_cases hij:i=j
   ·grind
   ·refine⟨e0,by rw[gw];simp[pw hij,I],?_,?_⟩
    ·grind
    ·simp only[ua,pw hij,if_false];exact a3)
  refine⟨blk,_,em,?_,m1,m2⟩;have hsb:=i2o (hkey k);simp[mf,run_underlying hu,jp hh,hck,hf,hej,hkj,Instr.keyThatStays,hsb,run_setObj_map _ hh]
theorem d0e{P:Program}{t kt et:TypeId}{w:World}{μ:Mu}{st:St}{vm vk vx:Value}{m k x:D}{r:LR}(hs:J0 w μ st)(hm:VR w μ st vm m)(S:VR w μ st vk k)(A:VR w μ st vx x)
 (hu:(w8 P t).k= .map kt et) (hr:r=nI (w8 P t) (w8 P kt) (w8 P et) (look st) k x m) (hok:r.ok):
 ∃w' o ob,(mf t vm vk vx).run P w= .ok () w'/\r.up=some (o,ob)/\J0 w' μ (st.set o (some ob))/\Step w μ st w' μ (st.set o (some ob)):=by
 subst hr
 have kQ:=DZ hu
 cases m with
 |mp o=>
  simp only[nI]at*
  split at hok
  ·rename_i ag es k hl;have⟨_,hks,M8,K⟩:=hok;have ho:=V7 hl;have:=jA S;subst this;have⟨blk,em,ev⟩:=(uG hm).1 ag es ho;subst ev;obtain⟨bS,w',em',U,X,h3⟩:=d0d (P:=P) (k:=k) (ag:=ag) (key:=fun k=>.string (bs k)) (mk:=fun es=>.mps ag es) hs ho kQ (kP hks) (fun _=>trivial) Pz (fun _ _ _ _=>Iff.rfl) (fun _ _ _ _ _=>⟨rfl,rfl⟩) (d0c (M8▸d0b A K));rw[em]at em';cases em';exact⟨w',o,_,U,rfl,X,h3⟩
  ·rename_i ag kk es qp k hl;obtain⟨_,hks,rfl,M8,K⟩:=hok;have ho:=V7 hl;have:=dy S;subst this;have⟨blk,em,ev⟩:=(uG hm).2 ag _ es ho;subst ev;obtain⟨bS,w',em',U,X,h3⟩:=d0d (P:=P) (k:=k) (ag:=ag) (key:=fun n=>.int qp n) (mk:=fun es=>.T9 ag qp es) hs ho kQ (xP hks) (fun _=>rfl) (ZV qp) (fun _ _ _ _=>Iff.rfl) (fun _ _ _ _ _=>⟨rfl,rfl,rfl⟩) (d0c (M8▸d0b A K));rw[em]at em';cases em';exact⟨w',o,_,U,rfl,X,h3⟩
  ·exact hok.elim
 | _=>exact hok.elim
end Go.Am
namespace Go.Am
open Go
variable {P:Program} {t:TypeId} {w:World}
theorem PC:(iX P t=1->∃k,P.underlying t=some (.int k))/\(iX P t=2->P.underlying t=some .string)/\(iX P t=3->P.underlying t=some .bool):=by
 unfold iX;cases P.underlying t with
 |none=>simp
 |some d=>cases d<;>simp
theorem d0f{P:Program}{w:World}{μ:Mu}{st:St}{a b:D}{va vb:Value}{r:Bool}{t:TypeId}{dep:Nat}(ha:VR w μ st va a)(H:VR w μ st vb b)
 (h:uw (iX P t) a b=some r):(qi (dep+1) t va vb).run P w= .ok r w:=by
 unfold uw at h
 split at h
 ·rename_i S;have⟨k,hu⟩:=PC.1 S;split at h
  ·rename_i hkk;subst hkk;cases h;have:=dy ha;subst this;have:=dy H;subst this;rw[run_equalIn_int w dep t _ k _ _ hu,nK]
  ·cases h
 ·rename_i S;cases h;have:=jA ha;subst this;have:=jA H;subst this;rw[run_equalIn_string w dep t _ _ (PC.2.1 S),uF,uF,nK]
 ·rename_i S;cases h;have:=oO ha;subst this;have:=oO H;subst this;rw[run_equalIn_bool' w dep t _ _ (PC.2.2 S),nK]
 ·cases h
theorem d0g(h:iX P t≠0):∃C',P.underlying t=some C'/\kM (some C')=false:=by
 unfold iX at h;cases hu:P.underlying t with
 |none=>grind
 |some d=>rw[hu]at h;refine⟨d,rfl,?_⟩;cases d<;>first|rfl|exact absurd rfl h
theorem d0h{P:Program}{w:World}{μ:Mu}{st:St}{xs ys:Array Value}{dep:Nat}:∀(fs:List Field)(a b:List D)(k0:Nat)(r:Bool),
 (∀p∈fs.zipIdx k0,p.1.offset=p.2∧p.1.name≠ "_")→bn (fs.map fun f=>iX P f.type) a b=some r→
 (∀j (h:j<a.length),k0+j<xs.size/\VR w μ st (xs.getD (k0+j) undef) (a[j]))->(∀j (h:j<b.length),k0+j<ys.size/\VR w μ st (ys.getD (k0+j) undef) (b[j]))->
 (r7 (dep+1) xs ys fs).run P w= .ok r w
 | [],[],[],_,r,_,h,_,_=>by cases h;rfl
 | [],_::_,_,_,r,_,h,_,_=>by simp[bn]at h
 | [],[],_::_,_,r,_,h,_,_=>by simp[bn]at h
 |f::fs,[],b,_,r,_,h,_,_=>by cases b<;>simp[bn]at h
 |f::fs,a::as,[],_,r,_,h,_,_=>by simp[bn]at h
 |f::fs,a::as,b::bs,k0,r,hf,h,A,hy=>by
  simp only[bv,bn]at h;cases U:uw (iX P f.type) a b with
  |none=>rw[U]at h;cases h
  |some p=>
   cases X:bn (fs.map fun f=>iX P f.type) as bs with
   |none=>rw[U,X]at h;cases h
   |some q=>
    rw[U,X]at h;cases h;have⟨ho,hn⟩:=hf (f,k0) B5;simp only at ho hn;have⟨hx0,U8⟩:=A 0 B5;have⟨hy0,xV⟩:=hy 0 B5;simp only[ky,kb]at hx0 U8 hy0 xV;have hk0:iX P f.type≠0:=fun e=>by rw[e]at U;simp[uw]at U
    have⟨C',hu,M8⟩:=d0g hk0;have hpx:(part f.type xs f.offset).run P w= .ok (xs.getD k0 undef) w:=by simp[part,um hu,M8,ho,hx0]
    have hpy:(part f.type ys f.offset).run P w= .ok (ys.getD k0 undef) w:=by simp[part,um hu,M8,ho,hy0]
    have he:=d0f (dep:=dep) U8 xV U;have ih:=d0h (P:=P) (w:=w) (μ:=μ) (st:=st) (xs:=xs) (ys:=ys) (dep:=dep) fs as bs (k0+1) q (fun p hp=>hf p (by simp[By,hp])) X (fun j L=>by
     have:=A (j+1) (by simpa using L);simpa[da,n5 1 j]using this) (fun j L=>by
     have:=hy (j+1) (by simpa using L);simpa[da,n5 1 j]using this)
    simp only[r7,if_pos hn,eQ,hpx,hpy,he,dm,yz];cases p with
    |true=>simpa using ih
    |false=>simp
theorem PD:∀ {ks:List Nat} {a b:List D} {r:Bool},bn ks a b=some r->a.length=ks.length/\b.length=ks.length
 | [],[],[],_,_=>⟨rfl,rfl⟩
 | [],_::_,b,_,h=>by cases b<;>simp[bn]at h
 | [],[],_::_,_,h=>by simp[bn]at h
 | _::_,[],b,_,h=>by cases b<;>simp[bn]at h
 | _::_,_::_,[],_,h=>by simp[bn]at h
 |k::ks,a::as,b::bs,r,h=>by
  simp only[bn]at h;cases U:uw k a b with
  |none=>rw[U]at h;cases h
  |some p=>
   cases X:bn ks as bs with
   |none=>rw[U,X]at h;cases h
   |some q=>have:=PD X;exact⟨by simp[this.1],by simp[this.2]⟩
theorem d0i:∀ {k1 k2:List Nat} {a b:List D} {r:Bool},bn (k1++k2) a b=some r->∃p q,bn k1 (a.take k1.length) (b.take k1.length)=some p/\bn k2 (a.drop k1.length) (b.drop k1.length)=some q/\r=(p&&q)
 | [],k2,a,b,r,h=>⟨true,r,by simp[bn],by simpa using h,by simp⟩
 |k::k1,k2,[],b,r,h=>by cases b<;>simp[bn]at h
 |k::k1,k2,a::as,[],r,h=>by simp[bn]at h
 |k::k1,k2,a::as,b::bs,r,h=>by
  simp only[List.cons_append,bn]at h;cases U:uw k a b with
  |none=>rw[U]at h;cases h
  |some p=>
   cases X:bn (k1++k2) as bs with
   |none=>rw[U,X]at h;cases h
   |some q=>rw[U,X]at h;cases h;obtain⟨p',q',e1,e2,rfl⟩:=d0i X;exact⟨p&&p',q',by simp[bn,U,e1],by simpa using e2,by simp[Bool.and_assoc]⟩
theorem xW{xs:Array Value}{k0 m j:Nat}(L:j<m)(h:k0+j<xs.size):j<(xs.extract k0 (k0+m)).size/\(xs.extract k0 (k0+m)).getD j undef=xs.getD (k0+j) undef:=by
 have hs:j<(xs.extract k0 (k0+m)).size:=by simp;omega
 refine⟨hs,?_⟩;rw[ca, ca, dv hs,dv h,Array.getElem_extract]
theorem i2r{P:Program}{w:World}{μ:Mu}{st:St}:∀(n:Nat)(fs:List Field)(a b:List D)(k0 dep:Nat)(ks:List Nat)(r:Bool)(xs ys:Array Value),
 D2 P n fs k0=some ks->bn ks a b=some r->n<=dep->
 (∀j (h:j<a.length),k0+j<xs.size/\VR w μ st (xs.getD (k0+j) undef) (a[j]))->(∀j (h:j<b.length),k0+j<ys.size/\VR w μ st (ys.getD (k0+j) undef) (b[j]))->
 (r7 (dep+1) xs ys fs).run P w= .ok r w:=by
 intro n
 induction n with
 |zero=>intro fs a b k0 dep ks r xs ys h;cases h
 |succ n ih=>
  intro fs a b k0 dep ks r xs ys h K hd A hy;cases fs with
  |nil=>cases h;have:=PD K;obtain rfl:a=[]:=jb this.1;obtain rfl:b=[]:=jb this.2;cases K;rfl
  |cons f fs=>
   simp only[D2]at h;split at h
   ·rename_i Ef;simp only[ie,beq_iff_eq,bne_iff_ne,ne_eq]at Ef;have⟨ho,hn⟩:=Ef;split at h
    ·rename_i hk0;have hk0:iX P f.type≠0:=by simpa using hk0
     cases X:D2 P n fs (k0+1)with
     |none=>rw[X]at h;cases h
     |some ks'=>
      rw[X]at h;cases h;cases a with
      |nil=>cases b<;>simp[bn]at K
      |cons a as=>
       cases b with
       |nil=>simp[bn]at K
       |cons b bs=>
        simp only[bn]at K;cases e1:uw (iX P f.type) a b with
        |none=>rw[e1]at K;cases K
        |some p=>
         cases e2:bn ks' as bs with
         |none=>rw[e1,e2]at K;cases K
         |some q=>
          rw[e1,e2]at K;cases K;have⟨hx0,U8⟩:=A 0 B5;have⟨hy0,xV⟩:=hy 0 B5;simp only[ky,kb]at hx0 U8 hy0 xV;have⟨C',hu,M8⟩:=d0g hk0;have hpx:(part f.type xs f.offset).run P w= .ok (xs.getD k0 undef) w:=by simp[part,um hu,M8,ho,hx0]
          have hpy:(part f.type ys f.offset).run P w= .ok (ys.getD k0 undef) w:=by simp[part,um hu,M8,ho,hy0]
          have he:=d0f (dep:=dep) U8 xV e1;have ih2:=ih fs as bs (k0+1) dep ks' q xs ys X e2 M (fun j L=>by
           have:=A (j+1) (by simpa using L);simpa[da,n5 1 j]using this) (fun j L=>by
           have:=hy (j+1) (by simpa using L);simpa[da,n5 1 j]using this)
          simp only[r7,if_pos hn,eQ,hpx,hpy,he,dm,yz];cases p with
          |true=>simpa using ih2
          |false=>simp
    ·split at h
     ·rename_i g hg;cases h3:D2 P n g.toList 0 with
      |none=>rw[h3]at h;cases h
      |some k1=>
       rw[h3]at h;cases u:P.info? f.type with
       |none=>rw[u]at h;cases h
       |some inf=>
        rw[u]at h;simp only at h;split at h
        ·rename_i hsz;simp only[ie,l5,beq_iff_eq]at hsz;have⟨hst,hsz⟩:=hsz;cases X:D2 P n fs (k0+k1.length)with
         |none=>rw[X]at h;cases h
         |some k2=>
          rw[X]at h;cases h;obtain⟨p,q,e1,e2,rfl⟩:=d0i K;have⟨l1,l2⟩:=PD K;rw[List.length_append]at l1 l2;have hpx:(part f.type xs f.offset).run P w= .ok (.agg (xs.extract k0 (k0+k1.length))) w:=by simp[part,um hg,kM,eG u,ho,hsz]
          have hpy:(part f.type ys f.offset).run P w= .ok (.agg (ys.extract k0 (k0+k1.length))) w:=by simp[part,um hg,kM,eG u,ho,hsz]
          obtain⟨d,rfl⟩:∃d,dep=d+1:=⟨dep-1,by omega⟩;have iY:P.fieldsOf f.type=g:=by simp[sr,hg]
          have qC:=run_equalIn_struct (P:=P) w (d+1) f.type (xs.extract k0 (k0+k1.length)) (ys.extract k0 (k0+k1.length)) (by rw[iY];exact hg) hst;rw[iY]at qC;have hin:=ih g.toList (a.take k1.length) (b.take k1.length) 0 d k1 p (xs.extract k0 (k0+k1.length)) (ys.extract k0 (k0+k1.length)) h3 e1 M (fun j L=>by
           rw[db]at L;have⟨q1,q2⟩:=A j M;have⟨s1,s2⟩:=xW (xs:=xs) (k0:=k0) (m:=k1.length) (j:=j) M q1;rw[dq,s2,k8];exact⟨s1,q2⟩) (fun j L=>by
           rw[db]at L;have⟨q1,q2⟩:=hy j M;have⟨s1,s2⟩:=xW (xs:=ys) (k0:=k0) (m:=k1.length) (j:=j) M q1;rw[dq,s2,k8];exact⟨s1,q2⟩)
          have ih2:=ih fs (a.drop k1.length) (b.drop k1.length) (k0+k1.length) (d+1) k2 q xs ys X e2 M (fun j L=>by
           rw[iv]at L;have⟨q1,q2⟩:=A (k1.length+j) M;rw[io,da];exact⟨q1,q2⟩) (fun j L=>by
           rw[iv]at L;have⟨q1,q2⟩:=hy (k1.length+j) M;rw[io,da];exact⟨q1,q2⟩)
          simp only[r7,if_pos hn,eQ,hpx,hpy,qC,hin,dm,yz];cases p with
          |true=>simpa using ih2
          |false=>simp
        ·cases h
     ·cases h
   ·cases h
theorem nil_eq{e:TypeId}(w:World)(dep:Nat)(hu:P.underlying t=some (.slice e)):(qi (dep+1) t (.slice none 0 0) (.slice none 0 0)).run P w= .ok true w:=by simp[qi,run_underlying hu]
theorem d0j(P:Program)(w:World)(op:BinOp)(t:TypeId)(x y:Operand):(eqGuard op t x y (.slice none 0 0) (.slice none 0 0)).run P w= .ok () w:=by unfold eqGuard;simp
theorem d0k{e:TypeId}(w:World)(dep:Nat)(hu:P.underlying t=some (.slice e))(ad:Addr)(len cap:Nat):(qi (dep+1) t (.slice (some ad) len cap) (.slice none 0 0)).run P w= .ok false w:=by simp[qi,run_underlying hu]
theorem d0l(P:Program)(w:World)(op:BinOp)(t:TypeId)(x y:Operand)(a:Option Addr)(len cap:Nat):(eqGuard op t x y (.slice a len cap) (.slice none 0 0)).run P w= .ok () w:=by unfold eqGuard;simp
theorem i2s{P:Program}{t:TypeId}{w:World}{μ:Mu}{st:St}{vx vy:Value}{x y:D}{neg:Bool}{ox oy:Operand}(A:VR w μ st vx x)(hy:VR w μ st vy y)
 (hok:(gQ (w8 P t) (bF P t) neg x y).ok):
 ∃v,(do eqGuard (if neg then .neq else .eql) t ox oy vx vy;binOp (if neg then .neq else .eql) t vx vy:Sem Value).run P w= .ok v w/\VR w μ st v (gQ (w8 P t) (bF P t) neg x y).d:=by
 unfold gQ at hok
 split at hok
 ·rename_i a b;have:=oO A;subst this;have:=oO hy;subst this;have hu:=i1Q hok;refine⟨.bool (if neg then !decide (a=b)else decide (a=b)),?_,by simp only[gQ];exact dz _ _ _ _⟩
  cases neg
  ·simp only[ib,if_false,eQ,ZS,dm,binOp,ue,pM];rw[run_equalIn_bool' w 9999 t _ _ hu,nK];rfl
  ·simp only[if_true,eQ,ZS,dm,binOp,ue,pM];rw[run_equalIn_bool' w 9999 t _ _ hu,nK];rfl
 ·rename_i a b;split at hok
  ·rename_i ks nM;split at hok
   ·rename_i r hce;obtain⟨xs,rfl,hxs,hxc⟩:=Ea A;obtain⟨ys,rfl,hys,hyc⟩:=Ea hy;unfold bF at nM;cases hu:P.underlying t with
    |none=>rw[hu]at nM;cases nM
    |some C'=>
     rw[hu]at nM;cases C' with
     |struct fields=>
      simp only at nM;split at nM
      ·rename_i K;cases nM;simp only[ie,l5]at K;have⟨⟨c1,c2⟩,c3⟩:=K;have iY:P.fieldsOf t=fields:=by simp[sr,hu]
       have hrun:=d0h (P:=P) (w:=w) (μ:=μ) (st:=st) (xs:=xs) (ys:=ys) (dep:=9998) fields.toList a b 0 r (fun p hp=>by have:=fc.1 c3 p hp;simpa using this) hce (fun j L=>⟨by rw[hxs];simpa using L,by simpa using hxc j L⟩) (fun j L=>⟨by rw[hys];simpa using L,by simpa using hyc j L⟩)
       have qC:=run_equalIn_struct (P:=P) w 9999 t xs ys (by rw[iY];exact hu) c1;rw[iY]at qC;have hd:(gQ (w8 P t) (bF P t) neg (.agg a) (.agg b)).d= .bool (if neg then !r else r):=by simp only[gQ];rw[show bF P t=some (fields.toList.map fun f=>iX P f.type)by simp only[bF,hu];rw[if_pos (by simp[c1,c2,c3])]];simp only[hce]
       refine⟨.bool (if neg then !r else r),?_,by rw[hd];exact dz _ _ _ _⟩
       cases neg
       ·simp only[ib,if_false,eQ,run_eqGuard_agg w _ t ox oy xs ys c2,dm];rw[run_eql_struct w t xs ys,qC,hrun];rfl
       ·simp only[if_true,eQ,run_eqGuard_agg w _ t ox oy xs ys c2,dm];rw[run_neq_struct w t xs ys,qC,hrun];rfl
      ·split at nM
       ·rename_i hno K;simp only[ie,l5]at K;have⟨c1,c2⟩:=K;have iY:P.fieldsOf t=fields:=by simp[sr,hu]
        have hrun:=i2r (P:=P) (w:=w) (μ:=μ) (st:=st) 40 fields.toList a b 0 9998 ks r xs ys nM hce M (fun j L=>⟨by rw[hxs];simpa using L,by simpa using hxc j L⟩) (fun j L=>⟨by rw[hys];simpa using L,by simpa using hyc j L⟩);have qC:=run_equalIn_struct (P:=P) w 9999 t xs ys (by rw[iY];exact hu) c1;rw[iY]at qC;have hd:(gQ (w8 P t) (bF P t) neg (.agg a) (.agg b)).d= .bool (if neg then !r else r):=by simp only[gQ];rw[show bF P t=some ks by simp only[bF,hu];rw[if_neg hno,if_pos (by simp[c1,c2])];exact nM];simp only[hce]
        refine⟨.bool (if neg then !r else r),?_,by rw[hd];exact dz _ _ _ _⟩
        cases neg
        ·simp only[ib,if_false,eQ,run_eqGuard_agg w _ t ox oy xs ys c2,dm];rw[run_eql_struct w t xs ys,qC,hrun];rfl
        ·simp only[if_true,eQ,run_eqGuard_agg w _ t ox oy xs ys c2,dm];rw[run_neq_struct w t xs ys,qC,hrun];rfl
       ·cases nM
     | _=>cases nM
   ·exact hok.elim
  ·exact hok.elim
 ·have:=qw A;subst this;have:=qw hy;subst this;have⟨el,S⟩:=hok;have hu:=iy S;refine⟨.bool (!neg),?_,by simp only[gQ];exact dz _ _ _ _⟩;cases neg
  ·simp only[ib,if_false,eQ,d0j,dm,binOp,ue,pM];rw[nil_eq w 9999 hu];rfl
  ·simp only[if_true,eQ,d0j,dm,binOp,ue,pM];rw[nil_eq w 9999 hu];rfl
 ·obtain⟨ad,len,cap,rfl⟩:∃ad len cap,vx= .slice (some ad) len cap:=by
   cases A with
   |tr h=>
    cases h with
    |sl full n b es a len cap cv hlen hcap fY H hb1 hn ha K=>
     rcases ha with h|⟨blk,off,rfl,_⟩
     ·cases h
     ·exact⟨_,_,_,rfl⟩
  have:=qw hy;subst this
  have⟨el,S⟩:=hok
  have hu:=iy S
  refine⟨.bool neg,?_,by simp only[gQ];exact dz _ _ _ _⟩
  cases neg
  ·simp only[ib,if_false,eQ,d0l,dm,binOp,ue,pM];rw[d0k w 9999 hu];rfl
  ·simp only[if_true,eQ,d0l,dm,binOp,ue,pM];rw[d0k w 9999 hu];rfl
 ·exact hok.elim
theorem i2t{P:Program}{w:World}{μ:Mu}{st:St}{vx:Value}{x:D}{op:UnOp}(A:VR w μ st vx x)(hok:(ux op x).ok):
 ∃v,(Op.unary op vx).run P w= .ok v w/\VR w μ st v (ux op x).d:=by
 unfold ux at hok
 split at hok
 ·rename_i b;have:=oO A;subst this;exact⟨.bool (!b),rfl,dz _ _ _ _⟩
 ·rename_i k n;have:=dy A;subst this;exact⟨.int k (k.wrap (0-n)),by simp[Op.unary,ve],IV hok⟩
 ·exact hok.elim
theorem PE{w w':World}{μ:Mu}{st:St}(hs:J0 w μ st)(U:w.heap.size<=w'.heap.size)(X:w'.os=w.os)(h3:w'.output=w.output)(h4:w'.tape=w.tape/\Dr w w')(hh:∀j,j<w.heap.size->w'.heap[j]? =w.heap[j]?):J0 w' μ st/\Step w μ st w' μ st:=by
 have step:Step w μ st w' μ st:=
  ⟨U,X,h3,h4,fun blk H _=>hh blk H,fun blk h=>.inl h,ae _,fun o ob' _ h=>⟨ob',h,by
   cases ob' with
   |arr g n b es=>exact⟨ae _,fun _=>⟨rfl,rfl,rfl,rfl,fun blk base c ty _ K=>⟨c,by
    refine⟨(hh _ ?_).trans K,rfl⟩;rcases il blk w.heap.size with h|h
    ·exact h
    ·rw[Array.getElem?_eq_none h]at K;cases K⟩⟩⟩
   |mps=>exact⟨rfl,rfl⟩
   |T9=>exact⟨rfl,rfl,rfl⟩
   |V0=>exact rfl
   |resv=>exact trivial⟩⟩
 exact⟨⟨fun o ob h=>(hs.obj o ob h).step step (fun blk base e=>hh blk (Aj hs ⟨o,ob,base,h,e⟩)),hs.inj⟩,step⟩
theorem i2u{s el:TypeId}{μ:Mu}{st:St}{a:J}(hs0:J0 w μ st)(hs:(w8 P s).k= .str)(F:(w8 P t).k= .slice el)(he:(w8 P el).k= .int .u8)(hl:a.length<=top):
 ∃v w',(convert s t (.string (bs a))).run P w= .ok v w'/\J0 w' μ st/\Step w μ st w' μ st/\VR w' μ st v (.sl false 1 1 (xL a)):=by
 have hrun:=Lib.run_convert_string_bytes w s t el (bs a) (kP hs) (iy F) (xP he)
 have hsz:(bs a).size=a.length:=by simp[bs,tm]
 have g:=PE (w':=pj w el (bs a)) hs0 (by rw[AC];omega) (by simp[pj,ss,ri,vj, -rp, -r8]) (by simp[pj,ss,ri,vj, -rp, -r8]) ⟨by simp[pj,ss,ri,vj, -rp, -r8],Dr.le (by simp[pj,ss,ri,vj, -rp, -r8])⟩ (fun j L=>Lib.bytesWorld_at_old w el (bs a) j L)
 have hlen:(xL a).length=a.length:=by simp[xL]
 refine⟨_,_,hrun,g.1,g.2,?_⟩
 refine .tr (.sl false 1 1 _ _ _ _ (fun i _=>.int .u8 ((a.getD i 0).toNat:Int)) (hsz.trans hlen.symm) (grownCap_ge _ _ _ _) (fun e=>by cases e) (by rw[hlen,IF];exact hl) (ae _) (fun e hm=>?_) (.inr ⟨w.heap.size,0,rfl,by rw[AC];omega,fun ho=>?_,fun i j u L=>?_⟩) (fun i j u L=>?_))
 ·obtain⟨c,_,rfl⟩:=bj.1 hm;rfl
 ·exact absurd (Aj hs0 ho) (Nat.lt_irrefl _)
 ·have hj0:j=0:=by omega
  subst hj0;have:=Lib.bytesWorld_cell w el (bs a) i (by rw[hsz, <-hlen];exact u);simpa[bs]using this
 ·have e:(xL a)[i]=[D.int .u8 ((a.getD i 0).toNat:Int)]:=by
   have:i<a.length:=by rw[<-hlen];exact u
   simp[xL,ac,this]
  have hj0:j=0:=by rw[e]at L;simpa using L
  subst hj0
  have e2:((xL a)[i])[0]=D.int .u8 ((a.getD i 0).toNat:Int):=by simp[e]
  rw[e2]
  exact .int _ _
theorem i2v{P:Program}{s t:TypeId}{el:TypeId}{w:World}{μ:Mu}{st:St}{vx:Value}{x:D}(hs0:J0 w μ st)(A:VR w μ st vx x)(hel:∀e,(w8 P t).k= .slice e->e=el)(i2w:(w8 P t).k= .str->∀e,(w8 P s).k= .slice e->e=el)(hok:(qt (w8 P s) (w8 P t) (w8 P el) x).ok):
 ∃v w',(convert s t vx).run P w= .ok v w'/\J0 w' μ st/\Step w μ st w' μ st/\VR w' μ st v (qt (w8 P s) (w8 P t) (w8 P el) x).d:=by
 unfold qt at hok⊢
 split at hok
 ·rename_i f n b es e hs F;cases i2w F e hs;obtain⟨he,rfl,hu,hne⟩:=hok;have hne:es≠ []:=fun h=>hne.mp h;cases A with
  |tr h=>
   cases h with
   |sl _ _ _ _ a len cap cv hlen hcap fY H hb1 hn ha K=>
    obtain⟨blk,off,rfl,_,_,hcell⟩:=ha.resolve_left hne;have hrow:∀i (u:i<es.length),∃m,es[i]=[D.int .u8 m]:=fun i u=>by
     have:=fc.1 hu _ (bt u);generalize es[i]=r at this;unfold Pk at this;split at this
     ·exact⟨_,rfl⟩
     ·cases this
    let xs:List Int:=es.map fun r=>match r with| [.int _ n]=>n| _=>0
    have A:∀i,i<es.length->w.cell? ⟨blk,off+i,none⟩=some (.int .u8 (xs.getD i 0)):=fun i u=>by have⟨m,hm⟩:=hrow i u;have U:=hcell i 0 u M;have X:=K i 0 u (by rw[hm];simp);simp only[hm,kb]at X;rw[IF,ky]at U;rw[U];rw[dy (.tr X:VR w μ st _ _)];simp[xs,ac,u,hm]
    refine⟨.string (bs (strOf es)),w,?_,hs0,Step.refl _ _ _,xQ _ _ _ _⟩;have:=run_convert_bytes_arg (P:=P) w s el (iy hs) (xP he) blk off len cap xs (by simp[xs,hlen]) (fun i u=>A i M) t (kP F);rw[this];have e2:strOfNums xs=bs (strOf es):=by
     unfold strOfNums bs strOf;congr 1;congr 1;rw[List.map_map];refine List.map_congr_left fun r hr=>?_;have:=fc.1 hu _ hr;unfold Pk at this;split at this
     ·rfl
     ·cases this
    rw[e2]
 ·rename_i a e hs F;have:=jA A;subst this;cases hel e F;exact i2u hs0 hs F hok.1 hok.2
 ·rename_i k0 n k1 k hs F;have:=dy A;subst this;exact⟨.int k (k.wrap n),w,by simp[convert,run_underlying (xP hs),run_underlying (xP F),Conv.intToInt],hs0,Step.refl _ _ _,cE _ _ _ _ _⟩
 ·rename_i a hs F;have:=jA A;subst this;exact⟨.string (bs a),w,by simp[convert,run_underlying (kP hs),run_underlying (kP F)],hs0,Step.refl _ _ _,xQ _ _ _ _⟩
 ·rename_i k0 n k1 hs F;have:=dy A;subst this;have e:bs (IU n)=Utf8.encode n:=by simp[bs,IU]
  exact⟨.string (bs (IU n)),w,by rw[e];simp[convert,run_underlying (xP hs),run_underlying (kP F),Conv.intToString],hs0,Step.refl _ _ _,xQ _ _ _ _⟩
 ·exact hok.elim
theorem i2x{μ:Mu}{st:St}{v:Value}{x:D}(A:VR w μ st v x)(hok:(qu x).ok):(∃a,v= .pointer (some a))/\VR w μ st v (qu x).d:=by
 unfold qu at hok⊢;split at hok
 ·refine⟨?_,A⟩;cases A with
  |tr h=>cases h
  |ptr _ _ _ _ _ Q=>exact Q
 ·refine⟨?_,A⟩;cases A with
  |tr h=>cases h;exact⟨_,rfl⟩
 ·exact hok.elim
theorem i2y{P:Program}{w:World}{μ:Mu}{st:St}{vx:Value}{x:D}{ix:Nat}(A:VR w μ st vx x)(hok:(uy ix x).ok):
 ∃v,(mb vx ix).run P w= .ok v w/\VR w μ st v (uy ix x).d:=by
 unfold uy at hok⊢
 split at hok
 ·rename_i cs;cases A with
  |tr h=>cases h
  |E8 vs _ hs K=>
   split at hok
   ·rename_i g d hd;have L:ix<cs.length:=by grind
    have hcd:cs[ix]= .cond g d:=by grind
    have hlt:=hs ix L (by rw[hcd];exact hok);have Q:=K ix L;rw[hcd,qA (v:=vs[ix]) (by simp[hlt])]at Q;refine⟨vs[ix],by simp[mb,hlt],?_⟩;generalize vs[ix]=C' at Q;cases Q with
    |tr h=>cases h
    |cond _ _ _ h _=>exact h hok
   ·rename_i d hnc hd;have L:ix<cs.length:=by grind
    have hcd:cs[ix]=d:=by grind
    have hlt:=hs ix L (by rw[hcd];cases d<;>first|rfl|exact(hnc _ _ rfl).elim);have Q:=K ix L;rw[hcd,qA (v:=vs[ix]) (by simp[hlt])]at Q;exact⟨vs[ix],by simp[mb,hlt],Q⟩
   ·exact hok.elim
 ·exact hok.elim
theorem i2z{P:Program}{t ty:TypeId}{w:World}{μ:Mu}{st:St}{vx:Value}{x:D}(hs:J0 w μ st)(A:VR w μ st vx x)(hok:(qv (w8 P t) (look st) x).ok):
 ∃v,(l4 #[t] ty #[vx]).run P w= .ok v w/\VR w μ st v (qv (w8 P t) (look st) x).d:=by
 cases x with
 |str s=>have:=jA A;subst this;refine⟨.int .i64 s.length,?_,cE _ _ _ _ _⟩;simp[l4,run_underlying (kP hok),goInt,qy]
 |A9=>have:=qw A;subst this;have⟨e,S⟩:=hok;exact⟨.int .i64 0,by simp[l4,run_underlying (iy S),goInt],cE _ _ _ _ _⟩
 |sl full n b es=>
  have⟨e,S⟩:=hok;cases A with
  |tr h=>
   cases h with
   |sl _ _ _ _ a len cap cv hlen=>refine⟨.int .i64 es.length,?_,cE _ _ _ _ _⟩;simp[l4,run_underlying (iy S),goInt,hlen]
 |ref full o g off len=>
  simp only[qv]at*
  split at hok
  ·rename_i g' n b es hl;obtain⟨⟨e,S⟩,rfl⟩:=hok;cases A with
   |tr h=>cases h
   |ref _ _ _ _ _ _ rN U7 hr hg h=>have⟨a,cap,ev,_⟩:=h _ _ _ (V7 hl);subst ev;refine⟨.int .i64 len,?_,cE _ _ _ _ _⟩;simp[l4,run_underlying (iy S),goInt]
  ·exact hok.elim
 |S8=>
  have⟨a,b,S⟩:=hok;cases A with
  |tr h=>cases h;exact⟨.int .i64 0,by simp[l4,run_underlying (DZ S),goInt],cE _ _ _ _ _⟩
 |mp o=>
  simp only[qv]at*
  split at hok
  ·rename_i ag es hl;have⟨a,b,S⟩:=hok;have⟨blk,em,ev⟩:=(uG A).1 _ _ (V7 hl);subst ev;have⟨bS,ents,clock,ez,em',hh,hsz,_,A⟩:=(hs.obj o _ (V7 hl):aW _ ag w μ st (μ o) es).loc;rw[em]at em';cases em';refine⟨.int .i64 es.length,?_,cE _ _ _ _ _⟩;simp[l4,run_underlying (DZ S),jp hh,goInt,hsz,A.perm.length_eq]
  ·rename_i ag kk es hl;have⟨a,b,S⟩:=hok;have⟨blk,em,ev⟩:=(uG A).2 _ _ _ (V7 hl);subst ev;have⟨bS,ents,clock,ez,em',hh,hsz,_,A⟩:=(hs.obj o _ (V7 hl):aW _ ag w μ st (μ o) es).loc;rw[em]at em';cases em';refine⟨.int .i64 es.length,?_,cE _ _ _ _ _⟩;simp[l4,run_underlying (DZ S),jp hh,goInt,hsz,A.perm.length_eq]
  ·exact hok.elim
 | _=>exact hok.elim
theorem i2A{P:Program}{t ty:TypeId}{w:World}{μ:Mu}{st:St}{vx:Value}{x:D}(A:VR w μ st vx x)(hok:(xM (w8 P t) x).ok):
 ∃v,(CI #[t] ty #[vx]).run P w= .ok v w/\VR w μ st v (xM (w8 P t) x).d:=by
 cases x with
 |A9=>have:=qw A;subst this;have⟨e,S⟩:=hok;exact⟨.int .i64 0,by simp[CI,run_underlying (iy S),goInt],cE _ _ _ _ _⟩
 | _=>exact hok.elim
theorem i2B{P:Program}{ts:Array TypeId}{ty:TypeId}{w:World}{μ:Mu}{st:St}{vx vy:Value}{x y:D}(A:VR w μ st vx x)(hy:VR w μ st vy y)(hok:(uD x y).ok):
 ∃v,(CL ts ty #[vx,vy]).run P w= .ok v w/\VR w μ st v (uD x y).d:=by
 unfold uD at hok⊢
 split at hok
 ·rename_i k a k' b;have:=dy A;subst this;have:=dy hy;subst this;refine⟨.int k (max a b),?_,cE _ _ _ _ _⟩;simp[CL,Builtin.max2];split<;>omega
 ·exact hok.elim
theorem i2C{P:Program}{ts:Array TypeId}{ty:TypeId}{w:World}{μ:Mu}{st:St}{vx vy:Value}{x y:D}(A:VR w μ st vx x)(hy:VR w μ st vy y)(hok:(uE x y).ok):
 ∃v,(CR ts ty #[vx,vy]).run P w= .ok v w/\VR w μ st v (uE x y).d:=by
 unfold uE at hok⊢
 split at hok
 ·rename_i k a k' b;have:=dy A;subst this;have:=dy hy;subst this;refine⟨.int k (min a b),?_,cE _ _ _ _ _⟩;simp[CR,Builtin.min2];split<;>omega
 ·exact hok.elim
end Go.Am
namespace Go.Am.Lcs
section
variable {α:Type} (same:α->α->Bool)
def PF(x:α)(f:List α->Nat):List α->Nat
 | []=>0
 |y::b=>bif same x y then max (max (f (y::b)) (PF x f b)) (f b+1)else max (f (y::b)) (PF x f b)
def lcs:List α->List α->Nat
 | []=>fun _=>0
 |x::a=>PF same x (lcs a)
end
def tb(n m:Nat)(f:Nat->Nat->Int):List (List Int):=(ol (n+1)).map fun i=>(ol (m+1)).map (f i)
section
variable {α:Type} (same:α->α->Bool) (a b:List α)
def lc(i k:Nat):Int:=((lcs same (a.drop i) (b.drop k):Nat):Int)
def tab:List (List Int):=tb a.length b.length (lc same a b)
def pf(i k:Nat):Nat->Nat->Int:=fun i' k'=>if i<i'\/(i'=i/\k<=k')then lc same a b i' k' else 0
end
