import Derived.MapKept
import Derived.Test.YtchbmngmmdeenaaGreatDoorTMAm0
open Array renaming size_append->lL,getElem?_eq_some_iff->dT,getElem?_append_left->fg,getElem?_append_right->uv,range->nt,getD_eq_getD_getElem?->ca,mem_append->A6
open Bool renaming false_eq_true->ib
open Go.Act renaming put->nl
open Go.Builtin renaming lenOf->ry,firstCells->ir,append_->kw,zeroCells->gp
open Go.Call renaming operands->q6
open Go.Instr renaming range->Hb,next->zb,buildSlice->np
open Go.Op renaming operands->df,makeFunc->vt
open Go.Result renaming andThen_ok->dm
open Go.Sem renaming run_bind->eQ
open List renaming getElem_mem->bt,getElem_take->k8,getElem_drop->io,length_map->bc,length_append->aa,getElem_append_left->px,getElem_append_right->py,getElem?_eq_some_iff->c7,getElem?_set_self->gm,length_pos_iff->km,getElem_of_mem->gz,replicate->be,all_eq_true->fc,getElem?_append_left->cy,set_append_left->pc,range'->fi,length->ph,mem_cons->ce,append->r9,getElem?_append_right->c8,map_congr_left->e8,mem_toArray->k9,mem_map->bj,not_mem_nil->uB,mem_singleton->ao
open Nat renaming div_lt_iff_lt_mul->yi,mod_lt->Jn,div_add_mod'->C3,mul_le_mul_right->du,add_mul->fk,add_comm->n5,le_refl->ae,le_succ->mi,zero_le->li,le_of_eq->HS,zero_add->dq,lt_of_lt_of_le->gr,not_lt_zero->co,lt_or_ge->il
namespace Go.Am
open Go
theorem d0n{P:Program}(w:World)(t C' ty e:TypeId)(i:TypeInfo)(z:Value)(d:TypeDesc)(F:P.underlying t=some (.slice e))(hu:P.underlying C'=some d)(hd:∀k,d≠ .int k)(u:P.info? e=some i)(hz:i.zero=some z)
 (base:Option Addr) (sLen sCap n:Nat) (x:Value) (oP xs:Array Value) (hlen:∀w,(ry x).run P w= .ok n w)
 (iY:(ir i.size sLen (.slice base sLen sCap)).run P w.drew= .ok oP w.drew) (hf:(ir i.size n x).run P w.drew= .ok xs w.drew)
 (hg:sCap<sLen+n) (h63:sLen+n<=top) (hfit:(sLen+n)*i.bytes<=top):
 (kw #[t,C'] ty #[.slice base sLen sCap,x]).run P w=
  .ok (.slice (some ⟨w.heap.size,0,none⟩) (sLen+n) (grownCap w (sLen+n) sCap e))
   (w.drew.alloc (.cells (oP++xs++gp z.cells (grownCap w (sLen+n) sCap e-(sLen+n))) e)):=by
 have hn:¬(sLen+n<=sCap):=by omega
 have t1:top=140737488355328:=rfl
 have i2E:¬(9223372036854775807<((sLen:Int)+(n:Int))):=by omega
 have i2F:¬(281474976710656<Builtin.nextslicecap (sLen+n) sCap*i.bytes):=by have:=growslice_fits (bytes:=i.bytes) hg (by rw[<-t1];exact hfit);omega
 have IY:(match d with| .int _=>true| _=>false)=false:=by cases d<;>first|rfl|exact absurd rfl (hd _)
 simp[kw,run_underlying F,run_underlying hu,sizeOf,typeInfo,zeroValue,u,hz,hlen,hn,i2E,i2F,Question.forced,hf,iY,newRow,grownCap]
theorem PG{P:Program}(w w':World)(t C' ty e:TypeId)(i:TypeInfo)(d:TypeDesc)(F:P.underlying t=some (.slice e))(hu:P.underlying C'=some d)(hd:∀k,d≠ .int k)(u:P.info? e=some i)
 (base:Option Addr) (sLen sCap n:Nat) (x:Value) (xs:Array Value) (hlen:∀w,(ry x).run P w= .ok n w)
 (hf:(ir i.size n x).run P w= .ok xs w) (hg:sLen+n<=sCap)
 (hst:∀a,base=some a->(storeCells (a.add (sLen*i.size)) xs.toList).run P w= .ok () w') (H:base=none->w'=w):
 (kw #[t,C'] ty #[.slice base sLen sCap,x]).run P w= .ok (.slice base (sLen+n) sCap) w':=by
 have IY:(match d with| .int _=>true| _=>false)=false:=by cases d<;>first|rfl|exact absurd rfl (hd _)
 cases base with
 |none=>have:=H rfl;subst this;simp[kw,run_underlying F,run_underlying hu,sizeOf,typeInfo,u,hlen,hg,hf]
 |some a=>have h:=hst a rfl;simp[kw,run_underlying F,run_underlying hu,sizeOf,typeInfo,u,hlen,hg,hf,h]
structure uH(P:Program)(w:World)(μ:Mu)(st:St)(size:Nat)(x:Value)(news:List (List D)):Prop where
 len:∀w,(ry x).run P w= .ok news.length w
 cells:∃xs:Array Value,(∀w2:World,(∀a,w2.cell? a=w.cell? a)->(ir size news.length x).run P w2= .ok xs w2)/\nJ w μ st size xs news
theorem TR.d0o{w:World}{own:Nat->Prop}{v:Value}{d:D}(h:TR w own v d):v.oneCell'=true:=by cases h<;>first|rfl|assumption
theorem Au{P:Program}{w:World}{μ:Mu}{st:St}{n:Nat}{a:Option Addr}{len cap:Nat}{es:List (List D)}{cv:Nat->Nat->Value}(hn:∀e∈es,e.length=n)(hlen:len=es.length)
 (ha:es=[]\/∃blk off,a=some ⟨blk,off,none⟩/\∀i j,i<es.length->j<n->w.cell? ⟨blk,off+(i*n+j),none⟩=some (cv i j))
 (Q:∀i j (u:i<es.length) (L:j<(es[i]).length),VR w μ st (cv i j) ((es[i])[j])/\(cv i j).oneCell'=true):
 uH P w μ st n (.slice a len cap) es:=by
 subst hlen
 refine⟨fun _=>rfl,?_⟩
 by_cases hne:es=[]
 ·subst hne;refine⟨#[],fun w2 _=>?_,by simp,fun _ h=>absurd h B5,fun i j u=>absurd u B5⟩;cases a with
  |none=>rfl
  |some a=>simp[ir,loadCells,loadCellsFrom]
 ·rcases ha with ha|⟨blk,off,rfl,K⟩
  ·exact absurd ha hne
  ·by_cases hn0:n=0
   ·subst hn0;refine⟨#[],fun w2 _=>by simp[ir,loadCells,loadCellsFrom],by simp,hn,fun i j u L=>?_⟩;rw[hn _ (bt u)]at L;omega
   ·have hdm:∀q,q<es.length*n->q / n<es.length/\q%n<n:=fun q hq=>⟨(yi M).2 hq,Jn _ M⟩;refine⟨((List.range (es.length*n)).map fun q=>cv (q / n) (q%n)).toArray,fun w2 X=>?_,by simp,hn,fun i j u L=>?_⟩
    ·simp only[ir];refine run_loadCells (P:=P) w2 ⟨blk,off,none⟩ (es.length*n) (fun q=>cv (q / n) (q%n)) (fun q hq=>?_);rw[me,X];have⟨d1,d2⟩:=hdm q hq;have:=K _ _ d1 d2;rwa[C3 q n]at this
    ·have hjn:j<n:=by rw[<-hn _ (bt u)];exact L
     have hlt:i*n+j<es.length*n:=by have:(i+1)*n<=es.length*n:=du n u;rw[fk]at this;omega
     have⟨v1,v2⟩:=Q i j u L;refine⟨cv i j,?_,v1,v2⟩;have e1:(i*n+j) / n=i:=by rw[n5,Nat.add_mul_div_right _ _ M];simp[Nat.div_eq_of_lt hjn]
     have e2:(i*n+j)%n=j:=by rw[n5,Nat.add_mul_mod_self_right];exact Nat.mod_eq_of_lt hjn
     simp[hlt,e1,e2]
theorem PI{P:Program}{w:World}{μ:Mu}{st:St}{full:Bool}{o g off len n b:Nat}{es:List (List D)}{v:Value}(hs:J0 w μ st)(Q:VR w μ st v (.ref full o g off len))
 (hl:look st o=some (.arr g n b es)) (hle:off+len<=es.length):
 ∃a cap,v= .slice a len cap/\len<=cap/\(full=true->cap=len)/\uH P w μ st n v ((es.drop off).take len)/\
  (cap=0\/∃blk base c ty,μ o=some (blk,base)/\a=some ⟨blk,base+off*n,none⟩/\w.heap[blk]? =some (.cells c ty (0,0))/\base+(off+cap)*n<=c.size):=by
 have ho:=V7 hl
 have⟨H,hn,xI⟩:=(hs.obj o _ ho:bk w μ st (μ o) n b es)
 cases Q with
 |tr h=>cases h
 |ref _ _ _ _ _ _ rN U7 hr hg h=>
  have⟨a,cap,ev,c1,c2,c3,c4⟩:=h _ _ _ ho;subst ev;refine⟨a,cap,rfl,c1,c3,?_,?_⟩
  ·have PJ:((es.drop off).take len).length=len:=by simp;omega
   by_cases hz:len=0
   ·have:(es.drop off).take len=[]:=by rw[hz];simp
    rw[this];exact Au (n:=n) (cv:=fun _ _=>undef) B5 (by simp[hz]) (.inl rfl) (fun i j u=>absurd u B5)
   ·rcases c4 with c4|⟨blk,base,em,ea,c,ty,hh,hsz⟩
    ·omega
    ·rcases xI with⟨e,_⟩|⟨bS,base',c',ty',em',rJ,hsz',hc'⟩
     ·rw[em]at e;cases e
     ·rw[em]at em';cases em';rw[hh]at rJ;cases rJ;have hex:∀i j,∃v,∀(u:i<es.length) (L:j<(es[i]).length),c[base+(i*n+j)]? =some v/\VR w μ st v ((es[i])[j])/\v.oneCell'=true:=fun i j=>by
       by_cases h:∃u:i<es.length,j<(es[i]).length
       ·have⟨u,L⟩:=h;have⟨v,h⟩:=hc' i j u L;exact⟨v,fun _ _=>h⟩
       ·exact⟨undef,fun u L=>absurd ⟨u,L⟩ h⟩
      have⟨cv,hcv⟩:=Classical.axiomOfChoice (fun i=>Classical.axiomOfChoice (hex i));refine Au (n:=n) (cv:=fun i j=>cv (off+i) j) (fun e he=>hn e (List.mem_of_mem_drop (List.mem_of_mem_take he))) PJ.symm (.inr ⟨blk,_,ea,fun i j u L=>?_⟩) (fun i j u L=>?_)
      ·rw[PJ]at u;have dx:off+i<es.length:=by omega
       have:=(hcv (off+i) j dx (by rw[hn _ (bt dx)];exact L)).1;simp only[World.cell?, hh];rw[show base+off*n+(i*n+j)=base+((off+i)*n+j)by rw[fk];omega];simpa using this
      ·rw[PJ]at u;have dx:off+i<es.length:=by omega
       simp only[k8,io]at L⊢;exact(hcv (off+i) j dx L).2
  ·rcases c4 with c4|⟨blk,base,em,ea,c,ty,hh,hsz⟩
   ·exact .inl c4
   ·exact .inr ⟨blk,base,c,ty,em,ea,hh,hsz⟩
theorem i2H{P:Program}{w:World}{μ:Mu}{st:St}{x:D}{vx:Value}{e:TI}{news:List (List D)}(hs:J0 w μ st)(A:VR w μ st vx x)(hn:oL (look st) e x=some news)(U:∀s,x= .str s->e.size=1):uH P w μ st e.size vx news:=by
 cases x with
 |sl full n b es=>
  simp only[oL]at hn;split at hn
  ·rename_i he;cases hn;cases A with
   |tr h=>
    cases h with
    |sl _ _ _ _ a len cap cv hlen hcap fY H hb1 hnn ha K=>
     rw[<-he];refine Au (cv:=cv) hnn hlen ?_ (fun i j u L=>⟨.tr (K i j u L),(K i j u L).d0o⟩);rcases ha with ha|⟨blk,off,ea,_,_,hcell⟩
     ·exact .inl ha
     ·grind
  ·cases hn
 |A9=>cases hn;have:=qw A;subst this;exact Au (cv:=fun _ _=>undef) B5 rfl (.inl rfl) (fun i j u=>absurd u B5)
 |ref full o g off len=>
  simp only[oL]at hn;split at hn
  ·rename_i g' n b es hl;split at hn
   ·rename_i K;obtain⟨rfl,rfl,hle⟩:=K;cases hn;have⟨a,cap,ev,_,_,dP,_⟩:=PI (P:=P) hs A hl hle;exact dP
   ·cases hn
  ·cases hn
 |str s=>
  cases hn;have:=jA A;subst this;rw[U s rfl];refine⟨fun _=>by simp[ry,qy],((s.map fun c=>Value.int .u8 (c.toNat:Int))).toArray,fun w2 _=>?_,by simp,by simp,fun i j u L=>?_⟩
  ·simp only[ir,ZO,bc];simp[bs]
  ·simp at u;simp at L;subst L;refine⟨.int .u8 ((s[i]).toNat:Int),by simp[u],by simpa using cE _ _ _ _ _,rfl⟩
 | _=>cases hn
theorem nJ.append{w:World}{μ:Mu}{st:St}{n:Nat}{a b:Array Value}{x y:List (List D)}(U:nJ w μ st n a x)(X:nJ w μ st n b y):nJ w μ st n (a++b) (x++y):=by
 refine⟨by rw[lL,U.1,X.1,aa,fk],fun e he=>?_,fun i j u L=>?_⟩
 ·rcases List.mem_append.1 he with h|h
  ·exact U.2.1 e h
  ·exact X.2.1 e h
 ·by_cases dx:i<x.length
  ·simp only[px dx]at L⊢;have⟨v,e,r⟩:=U.2.2 i j dx L;have hlt:i*n+j<a.size:=(dT.1 e).1;exact⟨v,by rw[fg hlt];exact e,r⟩
  ·have PK:x.length<=i:=by omega
   simp only[py PK]at L⊢;have hi2:i-x.length<y.length:=by simp at u;omega
   have⟨v,e,r⟩:=X.2.2 (i-x.length) j hi2 L;have e1:i*n+j-a.size=(i-x.length)*n+j:=by rw[U.1,Nat.sub_mul];have:x.length*n<=i*n:=du n PK;omega
   refine⟨v,?_,r⟩;rw[uv (by rw[U.1];have:x.length*n<=i*n:=du n PK;omega),e1];exact e
def LR.app(r:LR)(q:Nat)(st:St):St:=
 let s1:=match r.up with|some (o,ob)=>st.set o (some ob)|none=>st
 match r.new with|some ob=>s1.set q (some ob)|none=>s1
theorem PL{P:Program}{t C' ty el:TypeId}{i:TypeInfo}{z:Value}{d:TypeDesc}{w:World}{μ:Mu}{st:St}{q sLen sCap:Nat}{base:Option Addr}{vx:Value}{es news:List (List D)}(hs:J0 w μ st)(hq:st[q]? =some (some .resv))
 (F:P.underlying t=some (.slice el)) (hu:P.underlying C'=some d) (hd:∀k,d≠ .int k) (u:P.info? el=some i) (hz:i.zero=some z) (hzl:z.cells.size=i.size)
 (H:uH P w μ st i.size (.slice base sLen sCap) es) (A:uH P w μ st i.size vx news) (hl:sLen=es.length) (hg:sCap<sLen+news.length)
 (h63:sLen+news.length<=top) (hfit:(sLen+news.length)*i.bytes<=top):
 ∃v w' μ',(kw #[t,C'] ty #[.slice base sLen sCap,vx]).run P w= .ok v w'/\J0 w' μ' (st.set q (some (.arr 0 i.size i.bytes (es++news))))/\
  Step w μ st w' μ' (st.set q (some (.arr 0 i.size i.bytes (es++news))))/\VR w' μ' (st.set q (some (.arr 0 i.size i.bytes (es++news)))) v (.ref false q 0 0 (sLen+news.length)):=by
 have⟨oP,T5,V2⟩:=H.cells
 have⟨xs,U8,V3⟩:=A.cells
 subst hl
 have hrun:=d0n (P:=P) w t C' ty el i z d F hu hd u hz base es.length sCap news.length vx oP xs A.len (T5 w.drew (fun _=>rfl)) (U8 w.drew (fun _=>rfl)) hg h63 hfit
 have jZ:=V2.append V3
 have hlt:q<st.length:=(c7.1 hq).1
 have hcap:es.length+news.length<=grownCap w (es.length+news.length) sCap el:=by simp[grownCap,Question.cut]
 have mq:J0 w.drew μ st/\Step w μ st w.drew μ st:=by
  have step:Step w μ st w.drew μ st:=⟨ae _,rfl,rfl,⟨rfl,Dr.le (mi _)⟩,fun _ _ _=>rfl,fun _ h=>.inl h,ae _,fun _ ob' _ h=>⟨ob',h,by
   cases ob' with
   |arr g n b es=>exact⟨ae _,fun _=>⟨rfl,rfl,rfl,rfl,fun blk base c ty _ hh=>⟨c,hh,rfl⟩⟩⟩
   |mps=>exact⟨rfl,rfl⟩
   |T9=>exact⟨rfl,rfl,rfl⟩
   |V0=>rfl
   |resv=>trivial⟩⟩
  exact⟨⟨fun o ob h=>(hs.obj o ob h).step step (fun _ _ _=>rfl),hs.inj⟩,step⟩
 have h:=rF (w:=w.drew) (x:=.cells (oP++xs++gp z.cells (grownCap w (es.length+news.length) sCap el-(es.length+news.length))) el) (ob:=.arr 0 i.size i.bytes (es++news)) mq.1 hq
  (fun s=>Ak (fun a b ha hb'=>by have⟨v,e,U,X⟩:=jZ.2.2 a b ha hb';have hlt2:a*i.size+b<(oP++xs).size:=(dT.1 e).1;exact⟨v,by rw[fg hlt2];exact e,U.step mq.2,X⟩) (by rw[lL];have:=jZ.1;omega) jZ.2.1 (by simpa using hfit) s)
 refine⟨_,_,_,hrun,h.1,mq.2.trans h.2,?_⟩
 refine .ref _ false q 0 0 _ ⟨_,_,_,rfl⟩ (by simpa using hlt) (by simp[hlt]) (fun g' n b es e=>li _) (fun n b es' e=>?_)
 rw[gm hlt]at e
 cases e
 refine⟨_,_,rfl,hcap,by simp,fun hf=>(by cases hf),.inr ⟨w.heap.size,0,by rw[aq];rfl,by simp,_,el,heap_alloc_new _ _,?_⟩⟩
 have hzs:∀m,(gp z.cells m).size=m*z.cells.size:=fun m=>by simp[gp]
 rw[lL,hzs,jZ.1,hzl,aa, <-fk]
 refine HS ?_
 rw[dq,dq]
 congr 1
 omega
theorem i2I{P:Program}{C':TypeId}(h:(w8 P C').k= .str\/∃t,(w8 P C').k= .slice t):∃d,P.underlying C'=some d/\∀k,d≠ .int k:=by
 rcases h with h|⟨t,h⟩
 ·exact⟨_,kP h,fun k e=>by cases e⟩
 ·exact⟨_,iy h,fun k e=>by cases e⟩
theorem i2J{P:Program}{t C' ty el:TypeId}{w:World}{μ:Mu}{st:St}{vs vx:Value}{src x:D}{q:Nat}{r:LR}(hs:J0 w μ st)(IZ:VR w μ st vs src)(A:VR w μ st vx x)
 (hel:(w8 P t).k= .slice el) (hr:r=cS (w8 P t) (w8 P el) (w8 P C').k (look st) src x q) (hok:r.ok) (hq:st[q]? =some (some .resv)):
 ∃v w' μ',(kw #[t,C'] ty #[vs,vx]).run P w= .ok v w'/\J0 w' μ' (r.app q st)/\Step w μ st w' μ' (r.app q st)/\VR w' μ' (r.app q st) v r.d:=by
 have F:=iy hel
 have hlt:q<st.length:=(c7.1 hq).1
 cases hn:oL (look st) (w8 P el) x with
 |none=>rw[hr]at hok;simp only[cS,hn]at hok;exact hok.elim
 |some news=>
  have fine:∀n,DY (w8 P t) (w8 P el) (w8 P C').k x n->
   ∃i z d,P.info? el=some i/\i.zero=some z/\z.cells.size=i.size/\P.underlying C'=some d/\(∀k,d≠ .int k)/\(w8 P el).size=i.size/\(w8 P el).bytes=i.bytes/\i.size≠0/\n*i.bytes<=top/\n<=top/\uH P w μ st i.size vx news:=by
   intro n ⟨_,U,X,h3,h4,h5,h6⟩
   have⟨i,z,u,hz,K⟩:=Ed (w:=w) (μ:=μ) (st:=st) U X
   have hsz:(w8 P el).size=i.size:=by simp[w8,u]
   have hby:(w8 P el).bytes=i.bytes:=by simp[w8,u]
   have hxk:(w8 P C').k= .str\/∃t,(w8 P C').k= .slice t:=by cases x<;>first|exact .inl h6.1|exact .inr h6
   have⟨d,hu,hd⟩:=i2I hxk
   have dP:=i2H (P:=P) hs A hn (fun s e=>by subst e;exact h6.2)
   rw[hsz]at dP X
   refine⟨i,z,d,u,hz,by rw[K.1,U,hsz],hu,hd,hsz,hby,X,by rw[<-hby];exact h4,h5,dP⟩
  have empty:∀(a:Option Addr)(d:TypeDesc)(i:TypeInfo),P.underlying C'=some d->(∀k,d≠ .int k)->P.info? el=some i->uH P w μ st i.size vx []->news=[]->
   ∃v w' μ',(kw #[t,C'] ty #[.slice a 0 0,vx]).run P w= .ok v w'/\J0 w' μ' (st.set q (some (.arr 0 i.size i.bytes [])))/\
    Step w μ st w' μ' (st.set q (some (.arr 0 i.size i.bytes [])))/\VR w' μ' (st.set q (some (.arr 0 i.size i.bytes []))) v (.ref false q 0 0 0):=by
   intro a d i hu hd u dP _
   have⟨xs,U8,V3⟩:=dP.cells
   have hxs:xs= #[]:=by have:=V3.1;simp at this;exact this
   have hrun:=PG (P:=P) w w t C' ty el i d F hu hd u a 0 0 0 vx xs dP.len (U8 w (fun _=>rfl)) B5 (fun a _=>by rw[hxs];rfl) (fun _=>rfl)
   have h:=jS (w:=w) (w':=w) (μ':=upd μ q none) (ob':=.arr 0 i.size i.bytes []) hs hq (fun o' h=>jT _ _ _ h) (fun _ _ _=>rfl) (ae _) rfl rfl ⟨rfl,Dr.le (ae _)⟩ (fun blk base e=>by rw[aq]at e;cases e) trivial
    (fun s=>(⟨by simp,by simp,.inl ⟨aq _ _ _,rfl⟩⟩:bk _ _ _ _ _ _ _))
   refine⟨_,w,_,hrun,h.1,h.2,.ref _ false q 0 0 0 ⟨_,_,_,rfl⟩ (by simpa using hlt) (by simp[hlt]) (fun g' n b es e=>li _) (fun n b es' e=>?_)⟩
   rw[gm hlt]at e
   cases e
   exact⟨_,_,rfl,ae _,by simp,fun hf=>(by cases hf),.inl rfl⟩
  cases src with
  |A9=>
   have:=qw IZ;subst this;have hr':r=cS (w8 P t) (w8 P el) (w8 P C').k (look st) .A9 x q:=hr;simp only[cS,hn]at hr';subst hr';have⟨i,z,d,u,hz,hzl,hu,hd,hsz,hby,h0,h4,h5,dP⟩:=fine _ hok;simp only[LR.app];rw[hsz,hby];by_cases hne:news=[]
   ·subst hne;exact empty none d i hu hd u dP rfl
   ·have hpos:0<news.length:=km.2 hne;have h:=PL (P:=P) (ty:=ty) (q:=q) (sLen:=0) (sCap:=0) (base:=none) (es:=[]) hs hq F hu hd u hz hzl (Au (cv:=fun _ _=>undef) B5 rfl (.inl rfl) (fun i j u=>absurd u B5)) dP rfl (by simpa using hpos) (by simpa using h5) (by simpa using h4);simpa using h
  |sl full n b es=>
   cases full with
   |false=>rw[hr]at hok;simp only[cS,hn]at hok;exact hok.elim
   |true=>
    have hr':r=cS (w8 P t) (w8 P el) (w8 P C').k (look st) (.sl true n b es) x q:=hr;simp only[cS,hn]at hr';subst hr';have⟨hok,hne,hor⟩:=hok;have⟨i,z,d,u,hz,hzl,hu,hd,hsz,hby,h0,h4,h5,dP⟩:=fine _ hok;simp only[LR.app];rw[hsz,hby];cases IZ with
    |tr h=>
     cases h with
     |sl _ _ _ _ a len cap cv hlen hcap fY H hb1 hnn ha K=>
      subst hlen;have hcl:cap=es.length:=fY rfl;subst hcl;have hbr:uH P w μ st i.size (.slice a es.length es.length) es:=by
       rw[<-hsz, <-hne];refine Au (cv:=cv) hnn rfl ?_ (fun i j u L=>⟨.tr (K i j u L),(K i j u L).d0o⟩);rcases ha with ha|⟨blk,off,ea,_,_,hcell⟩
       ·exact .inl ha
       ·grind
      by_cases Ja:news=[]
      ·rcases hor with h|h
       ·subst h;subst Ja;exact empty a d i hu hd u dP rfl
       ·exact absurd Ja h
      ·have hpos:0<news.length:=km.2 Ja;exact PL (P:=P) (ty:=ty) (q:=q) hs hq F hu hd u hz hzl hbr dP rfl M h5 h4
  |ref full o g off len=>
   cases hl:look st o with
   |none=>rw[hr]at hok;cases full<;>(simp only[cS,hn,hl]at hok;exact hok.elim)
   |some ob=>
    cases ob with
    |arr g' n b es=>
     cases full with
     |true=>
      have hr':r=cS (w8 P t) (w8 P el) (w8 P C').k (look st) (.ref true o g off len) x q:=hr;simp only[cS,hn,hl]at hr';subst hr';obtain⟨hok,rfl,hne,hle,hnn⟩:=hok;have⟨i,z,d,u,hz,hzl,hu,hd,hsz,hby,h0,h4,h5,dP⟩:=fine _ hok;simp only[LR.app];rw[hsz,hby];have⟨a,cap,ev,c1,c2,hbr,_⟩:=PI (P:=P) hs IZ hl hle;subst ev;rw[hne,hsz]at hbr;have hcl:=c2 rfl;by_cases hn0:news=[]
      ·have h0l:len=0:=hnn.elim id (fun h=>absurd hn0 h);subst hn0;subst h0l;have:cap=0:=by omega
       subst this;simpa using empty a d i hu hd u dP rfl
      have hpos:0<news.length:=km.2 hn0;exact PL (P:=P) (ty:=ty) (q:=q) hs hq F hu hd u hz hzl hbr dP (by simp;omega) M h5 h4
     |false=>
      have hr':r=cS (w8 P t) (w8 P el) (w8 P C').k (look st) (.ref false o g off len) x q:=hr;simp only[cS,hn,hl]at hr';subst hr';obtain⟨hok,rfl,hne,Jb,hle⟩:=hok;have⟨i,z,d,u,hz,hzl,hu,hd,hsz,hby,h0,h4,h5,dP⟩:=fine _ hok;simp only[LR.app];have ho:=V7 hl;have U7:o<st.length:=(c7.1 ho).1;have⟨a,cap,ev,c1,c2,hbr,i2N⟩:=PI (P:=P) hs IZ hl hle;subst ev;have hnz:n=i.size:=by rw[hne,hsz]
      subst hnz;have hl2:((es.drop off).take len).length=len:=by simp;omega
      have⟨oP,T5,V2⟩:=hbr.cells;have⟨xs,U8,V3⟩:=dP.cells;rw[hl2]at T5;have jZ:=V2.append V3;have Av:((es.drop off).take len++news).length*b<=top:=by rw[aa,hl2,Jb,hby];exact h4
      have hnew:∀e∈(es.drop off).take len++news,e.length=i.size:=jZ.2.1;by_cases hfit:len+news.length<=cap
      ·by_cases hz0:cap=0
       ·have hlz:len=0:=by omega
        have gS:news=[]:=List.length_eq_zero_iff.1 M;subst hlz;subst gS;have hxs:xs= #[]:=by have:=V3.1;simp at this;exact this
        have hrun:=PG (P:=P) w w t C' ty el i d F hu hd u a 0 cap 0 vx xs dP.len (U8 w (fun _=>rfl)) M (fun a _=>by rw[hxs];rfl) (fun _=>rfl);have h:=jS (w:=w) (w':=w) (μ':=upd μ o none) (ob':=.arr (g'+1) i.size b ((es.drop off).take 0++[])) hs ho (fun o' h=>jT _ _ _ h) (fun _ _ _=>rfl) (ae _) rfl rfl ⟨rfl,Dr.le (ae _)⟩
         (fun blk base e=>by rw[aq]at e;cases e) ⟨by omega,fun e=>by omega⟩ (fun s=>(⟨by simp,by simp,.inl ⟨aq _ _ _,by simp⟩⟩:bk _ _ _ _ _ _ _))
        refine⟨_,w,_,hrun,h.1,h.2,.ref _ false o (g'+1) 0 0 ⟨_,_,_,rfl⟩ (by simpa using U7) (by simp[U7]) (fun g2 n2 b2 es2 e=>?_) (fun n b es' e=>?_)⟩
        ·rw[gm U7]at e;cases e;exact ae _
        ·rw[gm U7]at e;cases e;exact⟨_,_,rfl,by omega,by simp,fun hf=>(by cases hf),.inl hz0⟩
       ·rcases i2N with h0|⟨blk,base,c,ty',em,ea,hh,Pp⟩
        ·omega
        ·subst ea;have i2P:xs.size=news.length*i.size:=V3.1;have i2Q:(off+len+news.length)*i.size<=(off+cap)*i.size:=du _ M;rw[fk,fk]at i2Q;have uq:∀v∈xs.toList,v.oneCell'=true:=fun v Q=>by
          have⟨q',kR,e⟩:=gz Q;have fq:q'<news.length*i.size:=by rw[<-i2P];simpa using kR
          have U:q' / i.size<news.length:=(yi M).2 fq;have X:q'%i.size<i.size:=Jn _ M;have⟨u',eu,_,hu1⟩:=V3.2.2 (q' / i.size) (q'%i.size) U (by rw[V3.2.1 _ (bt U)];exact X);rw[C3 q' i.size]at eu;have:xs[q']? =some v:=by rw[<-e];simp at kR;simp[kR]
          rw[this]at eu;cases eu;exact hu1
         have hst:=run_storeCells_at (P:=P) blk (base+off*i.size+len*i.size) ty' xs.toList 0 c w hh (by simp;omega) uq;have hrun:=PG (P:=P) w _ t C' ty el i d F hu hd u (some ⟨blk,base+off*i.size,none⟩) len cap news.length vx xs dP.len (U8 w (fun _=>rfl)) hfit (fun a ea=>by cases ea;rw[me];exact hst) (fun e=>by cases e);let c':Array Value:=(c.toList.take (base+off*i.size+len*i.size+0)++xs.toList++c.toList.drop (base+off*i.size+len*i.size+0+xs.toList.length)).toArray;have hsize':c'.size=c.size:=by simp[c'];omega
         have rJ:(w.setRow blk c').heap[blk]? =some (.cells c' ty' (0,0)):=setRow_heap w blk c c' ty' (0,0) hh;have hget:∀q,c'[q]? =if base+off*i.size+len*i.size<=q/\q<base+off*i.size+len*i.size+xs.size then xs[q-(base+off*i.size+len*i.size)]? else c[q]? :=fun q=>by have:=Pj c.toList xs.toList (base+off*i.size+len*i.size) q (by simp;omega);simp only[c',List.getElem?_toArray,Nat.add_zero];rw[this];simp
         have⟨hb0,hn0,xI⟩:=(hs.obj o _ ho:bk w μ st (μ o) i.size b es);have h:=jS (w:=w) (w':=w.setRow blk c') (μ':=upd μ o (some (blk,base+off*i.size))) (ob':=.arr (g'+1) i.size b ((es.drop off).take len++news)) hs ho (fun o' h=>jT _ _ _ h)
          (fun bS hb' hne=>setRow_other w _ _ _ (fun e=>hne base (by rw[e];exact em))) (by rw[setRow_size];exact ae _) rfl rfl ⟨rfl,Dr.le (ae _)⟩
          (fun bS base' e=>by rw[aq]at e;cases e;exact .inl ⟨base,em⟩) ⟨by omega,fun e=>by omega⟩ (fun s=>by
           change bk _ _ _ _ _ _ _;refine⟨Av,hnew,.inr ⟨blk,base+off*i.size,c',ty',aq _ _ _,rJ,by rw[hsize',aa,hl2,fk];omega,fun k j S L=>?_⟩⟩;rw[hget];by_cases hkl:k<len
           ·have PN:k<((es.drop off).take len).length:=by rw[hl2];exact hkl
            simp only[px PN,k8,io]at L⊢;have hjn:j<i.size:=by have:=hn0 _ (bt (show off+k<es.length by omega));omega
            have p5j:k*i.size+i.size<=len*i.size:=by have:(k+1)*i.size<=len*i.size:=du _ hkl;rw[fk]at this;omega
            rw[if_neg M];rcases xI with⟨e,_⟩|⟨DU,i1M,c2,rK,oH,oI,_,hc2⟩
            ·rw[em]at e;cases e
            ·rw[em]at oH;cases oH;rw[hh]at oI;cases oI;have⟨u',eu,kQ,hu1⟩:=hc2 (off+k) j M L;refine⟨u',?_,kQ.step s,hu1⟩;rw[<-eu,fk];congr 1;omega
           ·have PN:((es.drop off).take len).length<=k:=by rw[hl2];omega
            have hk2:k-((es.drop off).take len).length<news.length:=by simp at S;omega
            simp only[py PN]at L⊢;have⟨u',eu,kQ,hu1⟩:=V3.2.2 _ j hk2 L;rw[hl2]at eu;have hlt2:(k-len)*i.size+j<xs.size:=(dT.1 eu).1;have e1:len*i.size+(k-len)*i.size=k*i.size:=by rw[<-fk];congr 1;omega
            refine⟨u',?_,kQ.step s,hu1⟩;rw[if_pos M, <-eu];congr 1;omega)
         refine⟨_,_,_,hrun,h.1,h.2,.ref _ false o (g'+1) 0 _ ⟨_,_,_,rfl⟩ (by simpa using U7) (by simp[U7]) (fun g2 n2 b2 es2 e=>?_) (fun n b es' e=>?_)⟩
         ·rw[gm U7]at e;cases e;exact ae _
         ·rw[gm U7]at e;cases e;refine⟨_,_,rfl,hfit,by rw[aa,hl2];omega,fun hf=>(by cases hf),.inr ⟨blk,base+off*i.size,aq _ _ _,by simp,c',ty',rJ,?_⟩⟩;rw[hsize',dq];rw[fk]at Pp;omega
      ·have hrun:=d0n (P:=P) w t C' ty el i z d F hu hd u hz a len cap news.length vx oP xs dP.len (T5 w.drew (fun _=>rfl)) (U8 w.drew (fun _=>rfl)) M h5 h4;have hcap:len+news.length<=grownCap w (len+news.length) cap el:=by simp[grownCap,Question.cut]
       have DQ:∀k j (S:k<((es.drop off).take len++news).length) (L:j<(((es.drop off).take len++news)[k]).length),∃v,
        (oP++xs++gp z.cells (grownCap w (len+news.length) cap el-(len+news.length)))[k*i.size+j]? =some v/\VR w μ st v ((((es.drop off).take len++news)[k])[j])/\v.oneCell'=true:=fun k j S L=>by
        have⟨v,e,U,X⟩:=jZ.2.2 k j S L
        have hlt2:k*i.size+j<(oP++xs).size:=(dT.1 e).1
        exact⟨v,by rw[fg hlt2];exact e,U,X⟩
       have h:=jS (w:=w) (w':=w.drew.alloc (.cells (oP++xs++gp z.cells (grownCap w (len+news.length) cap el-(len+news.length))) el)) (μ':=upd μ o (some (w.heap.size,0))) (ob':=.arr (g'+1) i.size b ((es.drop off).take len++news)) hs ho (fun o' h=>jT _ _ _ h)
        (fun bS hb' hne=>IC (w:=w.drew) hb') B5 rfl rfl ⟨rfl,Dr.le (mi _)⟩
        (fun bS base' e=>by rw[aq]at e;cases e;exact .inr (ae _)) ⟨by omega,fun e=>by omega⟩ (fun s=>by
         change bk _ _ _ _ _ _ _;refine⟨Av,hnew,.inr ⟨w.heap.size,0,_,el,aq _ _ _,heap_alloc_new w.drew _,?_,fun k j S L=>?_⟩⟩
         ·rw[lL];have:=jZ.1;omega
         ·have⟨v,e,U,X⟩:=DQ k j S L;exact⟨v,by rw[dq];exact e,U.step s,X⟩)
       refine⟨_,_,_,hrun,h.1,h.2,.ref _ false o (g'+1) 0 _ ⟨_,_,_,rfl⟩ (by simpa using U7) (by simp[U7]) (fun g2 n2 b2 es2 e=>?_) (fun n b es' e=>?_)⟩
       ·rw[gm U7]at e;cases e;exact ae _
       ·rw[gm U7]at e;cases e;refine⟨_,_,rfl,hcap,by rw[aa,hl2];omega,fun hf=>(by cases hf),.inr ⟨w.heap.size,0,aq _ _ _,by simp,_,el,heap_alloc_new w.drew _,?_⟩⟩;have hzs:∀m,(gp z.cells m).size=m*z.cells.size:=fun m=>by simp[gp]
        rw[lL,hzs,jZ.1,hzl,aa,hl2, <-fk];refine HS ?_;rw[dq,dq];congr 1;omega
    |mps=>rw[hr]at hok;cases full<;>(simp only[cS,hn,hl]at hok;exact hok.elim)
    |T9=>rw[hr]at hok;cases full<;>(simp only[cS,hn,hl]at hok;exact hok.elim)
    |V0=>rw[hr]at hok;cases full<;>(simp only[cS,hn,hl]at hok;exact hok.elim)
    |resv=>rw[hr]at hok;cases full<;>(simp only[cS,hn,hl]at hok;exact hok.elim)
  | _=>rw[hr]at hok;simp only[cS,hn]at hok;exact hok.elim
end Go.Am
namespace Go.Am
open Go Go.MapKept
variable {P:Program} {w:World}
def rune(s:J)(p:Nat):Int:=((Utf8.decode (bs s) p).1:Nat)
def rR(s:J)(p:Nat):Nat:=if p<s.length then(Utf8.decode (bs s) p).2 else 0
def rS(i:TI)(q:Nat)(x:D):LR:=
 match i.k,x with
 | .str,.str s=>{ d:=.it q,ok:=True,new:=some (.V0 s 0) }
 | _,_=>.bad
def oQ(lk:Look)(s:Bool)(x:D):LR:=
 match s,x with
 |true,.it o=>match lk o with
  |some (.V0 s p)=>{ d:=.E8 [.bool (decide (p<s.length)),.cond (decide (p<s.length)) (.int .i64 (p:Nat)),.cond (decide (p<s.length)) (.int .i32 (rune s p))],ok:=True,rd:=[o],up:=some (o,.V0 s (p+rR s p)) }
  | _=>.bad
 | _,_=>.bad
theorem i2R{P:Program}{t:TypeId}{w:World}{μ:Mu}{st:St}{vx:Value}{x:D}{q:Nat}(hs:J0 w μ st)(A:VR w μ st vx x)(hok:(rS (w8 P t) q x).ok)(hq:st[q]? =some (some .resv)):
 ∃v w' μ' ob,(Hb t vx).run P w= .ok v w'/\(rS (w8 P t) q x).new=some ob/\J0 w' μ' (st.set q (some ob))/\Step w μ st w' μ' (st.set q (some ob))/\
  VR w' μ' (st.set q (some ob)) v (rS (w8 P t) q x).d:=by
 have hlt:q<st.length:=(c7.1 hq).1
 unfold rS at hok⊢
 split at hok
 ·rename_i s S;have:=jA A;subst this;have hu:=kP S;have h:=rF (x:=.stringIter (bs s) 0) (ob:=.V0 s 0) hs hq (fun _=>⟨w.heap.size,rfl,heap_alloc_new _ _⟩);refine⟨.pointer (some ⟨w.heap.size,0,none⟩),_,_,_,?_,rfl,h.1,h.2,?_⟩
  ·simp[Hb,run_underlying hu]
  ·exact .it _ q ⟨_,rfl⟩ (by simpa using hlt) (by simp[hlt]) (fun s' p e=>by refine⟨w.heap.size,by rw[aq],rfl⟩)
 ·exact hok.elim
theorem d0q{r p:Nat}{s:ByteArray}{ob:Obj}(H:w.heap[r]? =some ob)(hn:ob= .stringIter s p):(getObj r).run P w= .ok ob w:=by subst hn;simp[getObj,Sem.run,H]
theorem i2S{r p:Nat}{s:ByteArray}(o:Obj)(H:w.heap[r]? =some (.stringIter s p)):(setObj r o).run P w= .ok () { w with heap:=w.heap.setIfInBounds r o }:=by simp[setObj,Sem.run,H]
theorem i2T{P:Program}{t:TypeId}{w:World}{μ:Mu}{st:St}{vx:Value}{x:D}{b:Bool}(hs:J0 w μ st)(A:VR w μ st vx x)(hok:(oQ (look st) b x).ok):
 ∃v w' o ob,(zb vx b t).run P w= .ok v w'/\(oQ (look st) b x).up=some (o,ob)/\J0 w' μ (st.set o (some ob))/\Step w μ st w' μ (st.set o (some ob))/\
  VR w' μ (st.set o (some ob)) v (oQ (look st) b x).d:=by
 unfold oQ at hok⊢
 split at hok
 ·rename_i o;split at hok
  ·rename_i s p hl;have ho:=V7 hl;have hlt:o<st.length:=(c7.1 ho).1;obtain⟨blk,em,ev⟩:∃blk,μ o=some (blk,0)/\vx= .pointer (some ⟨blk,0,none⟩):=by
    cases A with
    |tr h=>cases h
    |it _ _ _ _ _ h=>exact h s p ho
   subst ev;have hh:w.heap[blk]? =some (.stringIter (bs s) p):=by have⟨bS,e1,e2⟩:=hs.obj o _ ho;rw[em]at e1;cases e1;exact e2
   by_cases hp:p<s.length
   ·have hr:rR s p=(Utf8.decode (bs s) p).2:=by simp[rR,hp]
    have⟨aK,V1⟩:=heap_set (w:=w) (o':=.stringIter (bs s) (p+rR s p)) hh;have m:=jS (w':={ w with heap:=w.heap.setIfInBounds blk (.stringIter (bs s) (p+rR s p)) }) (ob':=.V0 s (p+rR s p)) hs ho (fun _ _=>rfl) (fun b H hne=>V1 b (fun e=>hne 0 (e▸em))) B5 rfl rfl ⟨rfl,Dr.le (ae _)⟩
     (fun b base e=>.inl ⟨base,e⟩) rfl (fun _=>⟨blk,em,aK⟩)
    refine⟨.tuple #[.bool true,goInt p,.int .i32 (rune s p)],_,o,_,?_,rfl,m.1,m.2,?_⟩
    ·simp[zb,d0q hh rfl,qy,hp,i2S _ hh,hr,rune]
    ·show VR _ _ _ _ (.E8 _);refine .E8 _ _ (fun j L _=>by simpa using L) (fun j L=>?_);match j,L with
     |0,_=>simp[hp];exact dz _ _ _ _
     |1,_=>exact .cond _ _ _ (fun _=>cE _ _ _ _ _) (fun e=>by simp[hp]at e)
     |2,_=>exact .cond _ _ _ (fun _=>cE _ _ _ _ _) (fun e=>by simp[hp]at e)
   ·have hr:rR s p=0:=by simp[rR,hp]
    have m:=jS (w':=w) (μ':=μ) (ob':=.V0 s (p+rR s p)) hs ho (fun _ _=>rfl) (fun b H hne=>rfl) (ae _) rfl rfl ⟨rfl,Dr.le (ae _)⟩
     (fun b base e=>.inl ⟨base,e⟩) rfl (fun _=>⟨blk,em,by rw[hr];exact hh⟩)
    refine⟨.tuple #[.bool false],_,o,_,?_,rfl,m.1,m.2,?_⟩
    ·simp[zb,d0q hh rfl,qy,hp]
    ·show VR _ _ _ _ (.E8 _);refine .E8 _ _ (fun j L h=>?_) (fun j L=>?_)
     ·match j,L with
      |0,_=>simp
      |1,_=>simp[D.live,hp]at h
      |2,_=>simp[D.live,hp]at h
     ·match j,L with
      |0,_=>simp[hp];exact dz _ _ _ _
      |1,_=>exact .cond _ _ _ (fun e=>by simp[hp]at e) (fun _=>rfl)
      |2,_=>exact .cond _ _ _ (fun e=>by simp[hp]at e) (fun _=>rfl)
  ·exact hok.elim
 ·exact hok.elim
end Go.Am
namespace Go.Am
open Go
variable {a:Act} {af:Array Edge} {tmps vs:Array Value} {b g want:Bool} {c:Code} {d x y:D} {R:D->St->Prop} {fr':Fr} {yo:Fr->St->Prop} {f:FuncId} {G:Gl} {r:LR} {args cap cs ds first:List D} {l:List Oper} {μ μ':Mu} {id k' n o q t:Nat} {ob:Ob} {op:Op} {P:Program} {p:Prop} {s st':St} {pos:String} {e i:TI} {xk:TK} {ty:TypeId} {v:Value} {w w':World}
def D.plain:D->Bool
 | .any| .agg _| .E8 _| .fn _ _ _| .ref _ _ _ _ _| .ptr _ _ _ _| .mp _| .it _| .cond _ _=>false
 | _=>true
def PO(i:TI)(e:TI)(len:Nat)(parts:List (Nat×D)):LR:=
 let rows:=rM (be len e.zero) (parts.map fun p=>(p.1,cellsOf e p.2))
 { d:=.sl false e.size e.bytes rows,ok:=(∃t,i.k= .slice t)/\e.zero.length=e.size/\e.size≠0/\e.zero.all D.one=true/\(∀p∈parts,oG e p.2/\p.1<len)/\len*e.size<=2^24/\len*e.bytes<=top/\1<=e.bytes/\(rows.all fun r=>r.all D.plain)=true }
theorem i2U{st:St}(h:VR w μ st v d)(u:d.plain=true):TR w (own μ st) v d:=by cases h<;>first|(cases u;done)|assumption
theorem i2V{st:St}(hq:st[q]? =some (some .resv)):st.set q (some .resv)=st:=by
 apply List.ext_getElem?;intro i;by_cases h:q=i
 ·grind
 ·rw[List.getElem?_set_ne h]
theorem i2W{st:St}(hs:J0 w μ st)(hq:st[q]? =some (some .resv))(x:Obj):J0 (w.alloc x) μ st/\Step w μ st (w.alloc x) μ st:=by have h:=jS (w':=w.alloc x) (μ':=μ) (ob':=.resv) hs hq (fun _ _=>rfl) (fun blk H _=>IC H) B5 rfl rfl ⟨rfl,Dr.le (ae _)⟩ (fun blk base e=>.inl ⟨base,e⟩) trivial (fun _=>hs.obj q _ hq);rwa[i2V hq]at h
theorem i2X{P:Program}{t el:TypeId}{w:World}{μ:Mu}{st:St}{ps:Array (Nat×Value)}{ds:List (Nat×D)}{len q:Nat}(hs:J0 w μ st)(hps:xS w μ st ps.toList ds)
 (hel:(w8 P t).k= .slice el) (hok:(PO (w8 P t) (w8 P el) len ds).ok) (hq:st[q]? =some (some .resv)):
 ∃v w',(np t len ps).run P w= .ok v w'/\J0 w' μ st/\Step w μ st w' μ st/\VR w' μ st v (PO (w8 P t) (w8 P el) len ds).d:=by
 have⟨_,U,X,h3,h4,h5,h6,h7,h8⟩:=hok
 have hu:=iy hel
 have⟨inf,z,u,hz,K⟩:=Ed (w:=w) (μ:=μ) (st:=st) U X
 have⟨inf',hi',hsz⟩:=nF X
 rw[u]at hi';cases hi'
 have hz0:=Pv (len:=len) K h3 (by rw[U];exact X)
 rw[U]at hz0
 have⟨eH,e1,e2⟩:=Pw (len:=len) ps.toList ds _ _ hps hz0 B5 h4
 have hlen:(rM (be len (w8 P el).zero) (ds.map fun p=>(p.1,cellsOf (w8 P el) p.2))).length=len:=by rw[ZR];simp
 have h:=i2W hs hq (.cells eH el)
 refine⟨.slice (some ⟨w.heap.size,0,none⟩) len len,_,?_,h.1,h.2,?_⟩
 ·have Px:¬(2^24<len*inf.size):=by rw[<-hsz];omega
  have xT:Instr.fill (fun i=>some (i*inf.size,inf.size)) ((nt (len*inf.size)).map (z.cells[· %z.cells.size]!)) ps.toList=some eH:=by rw[<-hsz];exact e1
  by_cases H6:len*inf.size=0
  ·have:len=0:=by
    rcases Nat.mul_eq_zero.1 H6 with h|h
    ·exact h
    ·grind
   subst this
   have r0:nt 0=(#[]:Array Nat):=rfl
   simp[r0]at xT
   simp[np,run_underlying hu,eG u,newRow,r0,xT]
  ·simp only[np,run_underlying hu,eQ,dm,eG u];simp[Px,H6,zeroValue,typeInfo,u,hz,newRow];rw[xT];simp
 ·refine .tr (.sl false (w8 P el).size (w8 P el).bytes _ _ len len (fun i j=>eH.getD (i*(w8 P el).size+j) undef) hlen.symm (ae _) (fun e=>by cases e) (by rw[hlen];exact h6) h7 e2.2.1
   (.inr ⟨w.heap.size,0,rfl,by simp,fun ho=>?_,fun i j u L=>?_⟩) (fun i j u L=>?_))
  ·exact absurd (Aj hs ho) (Nat.lt_irrefl _)
  ·have⟨v,Q,_,_⟩:=e2.2.2 i j u (by rw[e2.2.1 _ (bt u)];exact L);have e:(w.alloc (.cells eH el)).heap[w.heap.size]? =some (.cells eH el):=heap_alloc_new _ _;simp only[World.cell?, e,dq,ca, Q,Option.getD_some];rfl
  ·have⟨v,Q,hr,_⟩:=e2.2.2 i j u L;have hp:=fc.1 h8 _ (bt u);have:=(i2U hr (fc.1 hp _ (bt L))).step h.2;simpa[ca, Q]using this
def strip:D->D
 | .cond _ d=>d
 |d=>d
def PS(g:Bool):D->Prop
 | .cond c _=>g=true->c=true
 | _=>True
theorem i2Y{st:St}(h:VR w μ st v d)(hok:PS true d):VR w μ st v (strip d):=by
 cases d with
 |cond c d=>
  cases h with
  |tr h=>cases h
  |cond _ _ _ h _=>exact h (hok rfl)
 | _=>exact h
def F2(G:Gl)(fr:Fr)(x:Operand):D:=strip (ev G fr x)
def K5(G:Gl)(g:Bool)(fr:Fr)(x:Operand):Prop:=PS g (ev G fr x)
def LR.and(r:LR)(p:Prop):LR:={ r with ok:=p/\r.ok }
def elemOf(i:TI):Nat:=match i.k with
 | .slice e=>e
 | .arr _ e=>e
 | .map _ e=>e
 | .ptr e=>e
 | _=>0
def Aw(s t:TI):Nat:=match t.k with
 | .str=>elemOf s
 | _=>elemOf t
def keyOf(i:TI):Nat:=match i.k with
 | .map k _=>k
 | _=>0
def Ax:D->Bool
 | .bool b=>b
 | _=>false
def uI(c a b:D):LR:=
 match c,a,b with
 | .bool c,.bool a,.bool b=>kO (bif c then a else b)
 | _,_,_=>.bad
def G2(P:Program)(G:Gl)(g:Bool)(o:Op)(fr:Fr)(lk:Look)(q:Nat):LR:=
 let E:=F2 G fr
 let yo:=K5 G g fr
 match o with
 | .move x| .assign x=>{ d:=E x,ok:=yo x }
 | .pick c a b=>(uI (E c) (E a) (E b)).and (yo c/\K5 G (g&&Ax (E c)) fr a/\K5 G (g&& !Ax (E c)) fr b)
 | .alloc t=>DR (w8 P t) q
 | .box t x=>(IG (w8 P t) q (E x)).and (yo x/\(w8 P t).k≠ .none)
 | .build t ps=>(ur (w8 P t) (w8 P (elemOf (w8 P t))) (ps.toList.map fun p=>(p.1,E p.2))).and ((∀p∈ps.toList,yo p.2)/\(w8 P t).k.agg=true/\(∀n e,(w8 P t).k≠ .arr n e))
 | .buildSlice t len ps=>(bif G.M7 t then PO (w8 P t) (w8 P (elemOf (w8 P t))) len (ps.toList.map fun p=>(p.1,E p.2))else IQ (w8 P t) (w8 P (elemOf (w8 P t))) len (ps.toList.map fun p=>(p.1,E p.2)) q).and (∀p∈ps.toList,yo p.2)
 | .load t a=>(rG (w8 P t) lk (E a)).and (yo a/\(w8 P t).k≠ .none)
 | .store t a x=>(rH (w8 P t) lk (E x) (E a)).and (yo a/\yo x/\(w8 P t).k≠ .none)
 | .binOp op t x y _=>match op,E x with
  | .eql,.bool _| .eql,.agg _| .eql,.A9| .eql,.sl _ _ _ _=>(gQ (w8 P t) (bF P t) false (E x) (E y)).and (yo x/\yo y)
  | .neq,.bool _| .neq,.agg _| .neq,.A9| .neq,.sl _ _ _ _=>(gQ (w8 P t) (bF P t) true (E x) (E y)).and (yo x/\yo y)
  |op,_=>(cD op (E x) (E y)).and (yo x/\yo y)
 | .unOp op _ x=>(ux op (E x)).and (yo x)
 | .convert s t x=>(qt (w8 P s) (w8 P t) (w8 P (Aw (w8 P s) (w8 P t))) (E x)).and (yo x)
 | .nilCheck x=>(qu (E x)).and (yo x)
 | .makeFunc (.func f) a b=>{ d:=.fn f (a.toList.map E) (b.toList.map E),ok:=(∀x∈a.toList,yo x)/\∀x∈b.toList,yo x }
 | .makeMap t none=>oK (w8 P t) (w8 P (keyOf (w8 P t))) (w8 P (elemOf (w8 P t))).k.agg q
 | .makeSlice t l c=>(nG (w8 P t) (w8 P (elemOf (w8 P t))) (E l) (E c) q).and (yo l/\yo c)
 | .slice t x lo u mx=>(oJ (w8 P t) (w8 P (elemOf (w8 P t))).size lk (E x) (lo.map E) (u.map E) (mx.map E)).and (yo x/\(∀y∈lo,yo y)/\(∀y∈u,yo y)/\∀y∈mx,yo y)
 | .fieldAddr t x f=>(rI (w8 P t) f (E x)).and (yo x)
 | .field t x f=>(uj (w8 P t) f (E x)).and (yo x)
 | .indexAddr t x i=>(jU (w8 P t) (w8 P (elemOf (w8 P t))) lk (E x) (E i)).and (yo x/\yo i)
 | .index t x i=>(lZ (w8 P t) (w8 P (elemOf (w8 P t))) (E x) (E i)).and (yo x/\yo i)
 | .lookup t m k c=>(nH (w8 P t) (w8 P (keyOf (w8 P t))) (w8 P (elemOf (w8 P t))) lk c (E k) (E m)).and (yo m/\yo k)
 | .mapUpdate t m k x| .insert t m k x=>(nI (w8 P t) (w8 P (keyOf (w8 P t))) (w8 P (elemOf (w8 P t))) lk (E k) (E x) (E m)).and (yo m/\yo k/\yo x)
 | .range t x=>(rS (w8 P t) q (E x)).and (yo x)
 | .next x b=>(oQ lk b (E x)).and (yo x)
 | .extract x i=>(uy i (E x)).and (yo x)
 | .call { callee:=.builtin b,args,argTypes }=>match b,args.toList,argTypes.toList with
  | .len,[x],[t]=>(qv (w8 P t) lk (E x)).and (yo x)
  | .append,[s,x],[t,C']=>(cS (w8 P t) (w8 P (elemOf (w8 P t))) (w8 P C').k lk (E s) (E x) q).and (yo s/\yo x)
  | .max,[x,y],_=>(uD (E x) (E y)).and (yo x/\yo y)
  | .min,[x,y],_=>(uE (E x) (E y)).and (yo x/\yo y)
  | .cap,[x],[t]=>(xM (w8 P t) (E x)).and (yo x)
  | _,_,_=>.bad
 | _=>.bad
def FR(w:World)(μ:Mu)(st:St)(tmps:Array Value)(fr:Fr):Prop:=∀t,VR w μ st (tmps.getD t undef) (fr.get t)
def Glob(G:Gl)(w:World)(μ:Mu)(st:St):Prop:=
 (∀g cs,G g=some cs->TR w (own μ st) (.pointer (some ⟨g,0,none⟩)) (.bR cs))/\(∀g c,G.whole g=some c->g<w.heap.size/\¬own μ st g/\∃ty fr,w.heap[g]? =some (.cells c ty fr))/\∀g,G.Zz g=true->g<w.heap.size/\¬own μ st g/\∃m ty fr,w.heap[g]? =some (.cells #[.int .i64 m] ty fr)
theorem Glob.tab{st:St}(h:Glob G w μ st):∀g cs,G g=some cs->TR w (own μ st) (.pointer (some ⟨g,0,none⟩)) (.bR cs):=h.1
theorem Glob.all{st:St}(h:Glob G w μ st):∀g c,G.whole g=some c->g<w.heap.size/\¬own μ st g/\∃ty fr,w.heap[g]? =some (.cells c ty fr):=h.2.1
theorem Glob.int{st:St}(h:Glob G w μ st):∀g,G.Zz g=true->g<w.heap.size/\¬own μ st g/\∃m ty fr,w.heap[g]? =some (.cells #[.int .i64 m] ty fr):=h.2.2
theorem Fr.Eh(fr:Fr)(t t':Nat)(d:D):(fr.put t d).get t'=if t'=t then d else fr.get t':=by
 induction fr with
 |nil=>
  simp only[Fr.put,Fr.get];by_cases h:t=t'
  ·simp[h]
  ·simp[h,Ne.symm h]
 |cons p fr ih=>
  have⟨k,e⟩:=p;simp only[Fr.put];by_cases h:k=t
  ·subst h;simp only[if_true,Fr.get];by_cases X:k=t'
   ·subst X;simp
   ·simp[X,Ne.symm X]
  ·simp only[if_neg h,Fr.get,ih];by_cases X:k=t'
   ·subst X;simp[h]
   ·simp[X]
theorem Fr.i2Z(keep:List Nat)(fr:Fr)(t:Nat):(Fr.only keep fr).get t=fr.get t\/(Fr.only keep fr).get t= .any:=by
 induction fr with
 |nil=>exact .inl rfl
 |cons p fr ih=>
  have⟨k,e⟩:=p;simp only[Fr.only];split
  ·simp only[Fr.get];split
   ·exact .inl rfl
   ·exact ih
  ·rename_i S;simp only[Fr.get];split
   ·rename_i h;subst h;right;have:∀fr:Fr,(Fr.only keep fr).get k= .any:=fun fr=>by
     induction fr with
     |nil=>rfl
     |cons p fr ih=>
      have⟨k',e'⟩:=p;simp only[Fr.only];split
      ·rename_i hk';simp only[Fr.get];rw[if_neg (fun h=>S (by rw[<-h];exact hk'))];exact ih
      ·exact ih
    exact this fr
   ·exact ih
theorem FR.put{st:St}{fr:Fr}(h:FR w μ st tmps fr)(Q:VR w μ st v d)(F:t<tmps.size):FR w μ st (tmps.setIfInBounds t v) (fr.put t d):=fun t'=>by
 rw[Fr.Eh];by_cases e:t'=t
 ·subst e;rw[if_pos rfl,qA (v:=v) (by simp[F])];exact Q
 ·rw[if_neg e];have:(tmps.setIfInBounds t v).getD t' undef=tmps.getD t' undef:=by simp[ca, Array.getElem?_setIfInBounds_ne (Ne.symm e)]
  rw[this];exact h t'
theorem FR.only{st:St}{fr:Fr}(keep:List Nat)(h:FR w μ st tmps fr):FR w μ st tmps (Fr.only keep fr):=fun t=>by
 rcases Fr.i2Z keep fr t with e|e
 ·rw[e];exact h t
 ·rw[e];exact .any _
theorem FR.step{st:St}{fr:Fr}(h:FR w μ st tmps fr)(s:Step w μ st w' μ' st'):FR w' μ' st' tmps fr:=fun t=>(h t).step s
theorem Glob.step{st:St}(h:Glob G w μ st)(s:Step w μ st w' μ' st'):Glob G w' μ' st':=
 ⟨fun g cs e=>(h.tab g cs e).step s,fun g c e=>let ⟨U,X,ty,fr,h3⟩:=h.all g c e;⟨gr U s.size,fun ho=>(s.own g ho).elim X (fun h=>absurd h M),ty,fr,(s.M7 g U X).trans h3⟩,fun g e=>let ⟨U,X,m,ty,fr,h3⟩:=h.int g e;⟨gr U s.size,fun ho=>(s.own g ho).elim X (fun h=>absurd h M),m,ty,fr,(s.M7 g U X).trans h3⟩⟩
theorem d0r{st:St}{fr:Fr}(hf:FR w μ st a.tmps fr)(hg:Glob G w μ st)(x:Operand):VR w μ st (a.eval x) (ev G fr x):=by
 cases x with
 |tmp t=>exact hf t
 |const v=>exact ZK _ _ _ _
 |global g=>
  simp only[ev];cases h:G g with
  |none=>exact .any _
  |some cs=>exact .tr (hg.tab g cs h)
 |func f=>exact .fn f #[] #[] [] [] rfl rfl (fun j h=>absurd h (co _)) (fun j h=>absurd h (co _))
theorem Ay{st:St}{fr:Fr}(hf:FR w μ st a.tmps fr)(hg:Glob G w μ st){x:Operand}(hok:K5 G true fr x):VR w μ st (a.eval x) (F2 G fr x):=
 i2Y (d0r hf hg x) hok
theorem Jc{G:Gl}{w:World}{μ:Mu}{st:St}{a:Act}{fr:Fr}(hf:FR w μ st a.tmps fr)(hg:Glob G w μ st):∀(ps:List (Nat×Operand)),(∀p∈ps,K5 G true fr p.2)->
 xS w μ st (ps.map fun(i,x)=>(i,a.eval x)) (ps.map fun p=>(p.1,F2 G fr p.2))
 | [],_=>trivial
 |(i,x)::ps,h=>⟨rfl,Ay hf hg (h (i,x) B5),Jc hf hg ps (fun p hp=>h p (by simp[hp]))⟩
theorem PU{st:St}{fr:Fr}(hf:FR w μ st a.tmps fr)(hg:Glob G w μ st)(x:Option Operand)(h:∀y∈x,K5 G true fr y):xR w μ st (x.map a.eval) (x.map (F2 G fr)):=by
 cases x with
 |none=>trivial
 |some x=>exact Ay hf hg (h x rfl)
theorem nN{r:LR}{q:Nat}{st:St}(U:r.up=none)(X:r.new=none):r.app q st=st:=by simp[LR.app,U,X]
theorem d0s{r:LR}{q o:Nat}{st:St}{ob:Ob}(U:r.up=some (o,ob))(X:r.new=none):r.app q st=st.set o (some ob):=by simp[LR.app,U,X]
theorem PV{r:LR}{q:Nat}{st:St}{ob:Ob}(U:r.up=none)(X:r.new=some ob):r.app q st=st.set q (some ob):=by simp[LR.app,U,X]
def LR.still(r:LR):Prop:=r.up=none/\r.new=none
theorem Jd(i:TI)(lk:Look)(a:D):(rG i lk a).still:=by unfold rG;(repeat' split)<;>exact⟨rfl,rfl⟩
theorem PW(i:TI)(f:Nat)(a:D):(rI i f a).still:=by unfold rI;(repeat' split)<;>exact⟨rfl,rfl⟩
theorem PX(i:TI)(f:Nat)(a:D):(uj i f a).still:=by unfold uj;(repeat' split)<;>exact⟨rfl,rfl⟩
theorem Je(i:TI)(e:TI)(lk:Look)(x y:D):(jU i e lk x y).still:=by unfold jU;(repeat' split)<;>exact⟨rfl,rfl⟩
theorem PY(i e:TI)(x y:D):(lZ i e x y).still:=by unfold lZ;(repeat' split)<;>exact⟨rfl,rfl⟩
theorem Jf(i:TI)(e:Nat)(lk:Look)(x:D)(lo u mx:Option D):(oJ i e lk x lo u mx).still:=by unfold oJ;(repeat' split)<;>exact⟨rfl,rfl⟩
theorem PZ(i e:TI)(ps:List (Nat×D)):(ur i e ps).still:=by unfold ur;(repeat' split)<;>exact⟨rfl,rfl⟩
theorem Jg(i k e:TI)(lk:Look)(c:Bool)(x y:D):(nH i k e lk c x y).still:=by unfold nH;(repeat' split)<;>exact⟨rfl,rfl⟩
theorem d0t(k:IntKind)(n:Int):(arith k n).still:=⟨rfl,rfl⟩
theorem Qa(op:BinOp)(x y:D):(cD op x y).still:=by unfold cD;(repeat' split)<;>first|exact⟨rfl,rfl⟩|exact d0t _ _
theorem Qb(i:TI)(f:Option (List Nat))(n:Bool)(x y:D):(gQ i f n x y).still:=by unfold gQ;(repeat' split)<;>exact⟨rfl,rfl⟩
theorem Qc(op:UnOp)(x:D):(ux op x).still:=by unfold ux;(repeat' split)<;>first|exact⟨rfl,rfl⟩|exact d0t _ _
theorem Qd(x:D):(qu x).still:=by unfold qu;(repeat' split)<;>exact⟨rfl,rfl⟩
theorem Qe(s t e:TI)(x:D):(qt s t e x).still:=by unfold qt;(repeat' split)<;>exact⟨rfl,rfl⟩
theorem Qf(i:Nat)(x:D):(uy i x).still:=by unfold uy;(repeat' split)<;>exact⟨rfl,rfl⟩
theorem Ei(i:TI)(lk:Look)(x:D):(qv i lk x).still:=by unfold qv;(repeat' split)<;>exact⟨rfl,rfl⟩
theorem Ej(i:TI)(x:D):(xM i x).still:=by unfold xM;(repeat' split)<;>exact⟨rfl,rfl⟩
theorem Jh(x y:D):(uD x y).still:=by unfold uD;(repeat' split)<;>exact⟨rfl,rfl⟩
theorem Ji(x y:D):(uE x y).still:=by unfold uE;(repeat' split)<;>exact⟨rfl,rfl⟩
theorem Qg(x y z:D):(uI x y z).still:=by unfold uI;(repeat' split)<;>exact⟨rfl,rfl⟩
section
variable {P:Program} {G:Gl} {o:Oper} {a:Act} {w:World} {μ:Mu} {st:St} {fr:Fr} {q:Nat}
def Does(P:Program)(s:Sem Next)(w:World)(μ:Mu)(st:St)(r:LR)(q:Nat):Prop:=
 ∃nx v w' μ',s.run P w= .ok nx w'/\(nx= .value v\/(nx= .skip/\v=undef))/\J0 w' μ' (r.app q st)/\Step w μ st w' μ' (r.app q st)/\VR w' μ' (r.app q st) v r.d
theorem jC{s:Sem Value}{r:LR}{p:Prop}(hs:J0 w μ st)(hst:r.still)(h:∃v,s.run P w= .ok v w/\VR w μ st v r.d):Does P (do pure (.value (<-s))) w μ st (r.and p) q:=by
 have⟨v,U,X⟩:=h;refine⟨.value v,v,w,μ,by simp[U],.inl rfl,?_,?_,?_⟩<;>rw[nN (st:=st) (r:=r.and p) hst.1 hst.2]
 ·exact hs
 ·exact Step.refl _ _ _
 ·exact X
theorem Jj{s:Sem Value}(hu:r.up=none)(h:∃v w' μ' ob,s.run P w= .ok v w'/\r.new=some ob/\J0 w' μ' (st.set q (some ob))/\Step w μ st w' μ' (st.set q (some ob))/\VR w' μ' (st.set q (some ob)) v r.d):
 Does P (do pure (.value (<-s))) w μ st (r.and p) q:=by
 have⟨v,w',μ',ob,U,X,h3,h4,h5⟩:=h
 have e:=PV (r:=r.and p) (q:=q) (st:=st) (ob:=ob) hu X
 exact⟨.value v,v,w',μ',by simp[U],.inl rfl,by rw[e];exact h3,by rw[e];exact h4,by rw[e];exact h5⟩
theorem Qh{s:Sem Unit}(hn:r.new=none)(hd:r.d= .any)(h:∃w' o ob,s.run P w= .ok () w'/\r.up=some (o,ob)/\J0 w' μ (st.set o (some ob))/\Step w μ st w' μ (st.set o (some ob))):
 Does P (do s;pure .skip) w μ st (r.and p) q:=by
 have⟨w',o,ob,U,X,h3,h4⟩:=h
 have e:=d0s (r:=r.and p) (q:=q) (st:=st) (ob:=ob) X hn
 exact⟨.skip,undef,w',μ,by simp[U],.inr ⟨rfl,rfl⟩,by rw[e];exact h3,by rw[e];exact h4,by rw[e,show(r.and p).d=r.d from rfl,hd];exact .any _⟩
theorem i3a{lk:Look}(h:(jU i e lk x y).ok):(∃t,i.k= .slice t)\/∃n t,i.k= .arr n t:=by unfold jU at h;(repeat' split at h)<;>first|exact h.elim|exact .inl ⟨_,by assumption⟩|exact .inr ⟨_,_,by assumption⟩
theorem i3b(h:(lZ i e x y).ok):i.k= .str\/∃n t,i.k= .arr n t:=by unfold lZ at h;(repeat' split at h)<;>first|exact h.elim|exact .inl (by assumption)|exact .inr ⟨_,_,by assumption⟩
theorem i3c{k:TI}{lk:Look}{c:Bool}(h:(nH i k e lk c x y).ok):∃a b,i.k= .map a b:=by unfold nH at h;(repeat' split at h)<;>first|exact h.elim|exact h.1
theorem d0u{k:TI}{lk:Look}{z:D}(h:(nI i k e lk x y z).ok):∃a b,i.k= .map a b:=by unfold nI at h;(repeat' split at h)<;>first|exact h.elim|exact h.1
theorem i3d{l c:D}(h:(nG i e l c q).ok):∃t,i.k= .slice t:=by
 unfold nG at h;split at h
 ·exact h.1
 ·exact h.elim
theorem i3e{lk:Look}{s:D}(h:(cS i e xk lk s x q).ok):∃t,i.k= .slice t:=by unfold cS at h;(repeat' split at h)<;>first|exact h.elim|exact h.1|exact h.1.1
theorem Qi(i:TI)(lk:Look)(x a:D):(rH i lk x a).new=none/\(rH i lk x a).d= .any:=by unfold rH;(repeat' split)<;>exact⟨rfl,rfl⟩
theorem Az(i k e:TI)(lk:Look)(x y z:D):(nI i k e lk x y z).new=none/\(nI i k e lk x y z).d= .any:=by unfold nI;(repeat' split)<;>exact⟨rfl,rfl⟩
theorem d0v(i e:TI)(l c:D)(q:Nat):(nG i e l c q).up=none:=by unfold nG;split<;>rfl
theorem Qj(i:TI)(q:Nat)(x:D):(rS i q x).up=none:=by unfold rS;split<;>rfl
theorem d0w(lk:Look)(b:Bool)(x:D):(oQ lk b x).new=none:=by unfold oQ;(repeat' split)<;>rfl
theorem d0x(i k:TI)(ag:Bool)(q:Nat):(oK i k ag q).up=none:=by unfold oK;split<;>rfl
theorem i3f{vc va vb:Value}{c a b:D}(K:VR w μ st vc c)(ha:Ax c=true->VR w μ st va a)(H:Ax c=false->VR w μ st vb b)(hok:(uI c a b).ok):
 ∃v,(do pure (.value (if <-asBool vc then va else vb)):Sem Next).run P w= .ok (.value v) w/\VR w μ st v (uI c a b).d:=by
 unfold uI at hok⊢
 split at hok
 ·rename_i c a b;have:=oO K;subst this;refine⟨.bool (bif c then a else b),?_,dz _ _ _ _⟩;cases c
  ·have:=oO (H rfl);subst this;simp[asBool]
  ·have:=oO (ha rfl);subst this;simp[asBool]
 ·exact hok.elim
theorem rT(h:i.k= .slice t):elemOf i=t:=by simp[elemOf,h]
theorem d0y(h:i.k= .arr n t):elemOf i=t:=by simp[elemOf,h]
theorem AA(h:i.k= .map n t):elemOf i=t/\keyOf i=n:=by simp[elemOf,keyOf,h]
theorem i3g{op:BinOp}{t:TypeId}{x y:Operand}{vx vy:Value}(U:(binOp op t vx vy).run P w= .ok v w)(X:(∃k a k' b,vx= .int k a/\vy= .int k' b)\/∃a b,vx= .string a/\vy= .string b):
 (do eqGuard op t x y vx vy;binOp op t vx vy:Sem Value).run P w= .ok v w:=by
 rcases X with⟨k,a,k',b,rfl,rfl⟩|⟨a,b,rfl,rfl⟩
 ·simp only[eQ,i2i,dm];exact U
 ·simp only[eQ,i2j,dm];exact U
def needs:Op->Bool
 | .alloc _| .box _ _| .buildSlice _ _ _| .makeMap _ _| .makeSlice _ _ _| .range _ _| .call { callee:=.builtin .append,.. }=>true
 | _=>false
set_option maxHeartbeats 1000000 in
theorem Qk(hs:J0 w μ st)(hf:FR w μ st a.tmps fr)(hg:Glob G w μ st)(kS:needs o.op=true->st[q]? =some (some .resv))
 (hok:(G2 P G true o.op fr (look st) q).ok):Does P (execOp a.eval o) w μ st (G2 P G true o.op fr (look st) q) q:=by
 have E:∀x,K5 G true fr x->VR w μ st (a.eval x) (F2 G fr x):=fun x h=>Ay hf hg h
 have⟨dst,op,type,pos,after,guard⟩:=o
 cases op with
 |move x=>exact⟨.value (a.eval x),_,w,μ,rfl,.inl rfl,by rw[nN rfl rfl];exact hs,by rw[nN rfl rfl];exact Step.refl _ _ _,by rw[nN rfl rfl];exact E x hok⟩
 |assign x=>exact⟨.value (a.eval x),_,w,μ,rfl,.inl rfl,by rw[nN rfl rfl];exact hs,by rw[nN rfl rfl];exact Step.refl _ _ _,by rw[nN rfl rfl];exact E x hok⟩
 |pick c x y=>
  have⟨⟨k1,k2,k3⟩,hok⟩:=hok;have A:Ax (F2 G fr c)=true->VR w μ st (a.eval x) (F2 G fr x):=fun h=>E x (by simpa[h]using k2);have hy:Ax (F2 G fr c)=false->VR w μ st (a.eval y) (F2 G fr y):=fun h=>E y (by simpa[h]using k3);have⟨v,U,X⟩:=i3f (P:=P) (E c k1) A hy hok;have hst:=Qg (F2 G fr c) (F2 G fr x) (F2 G fr y);refine⟨.value v,v,w,μ,U,.inl rfl,?_,?_,?_⟩<;>simp only[G2]<;>rw[nN (r:=LR.and _ _) hst.1 hst.2]
  ·exact hs
  ·exact Step.refl _ _ _
  ·exact X
 |alloc t=>have hq:=kS rfl;have⟨v,w',μ',ob,U,X,h3,h4,h5⟩:=i1O (P:=P) hs hok hq;have e:=PV (r:=DR (w8 P t) q) (q:=q) (st:=st) (ob:=ob) rfl X;simp only[G2];exact⟨.value v,v,w',μ',by simp[execOp,U],.inl rfl,by rw[e];exact h3,by rw[e];exact h4,by rw[e];exact h5⟩
 |box t x=>have hq:=kS rfl;have⟨⟨k1,_⟩,hok⟩:=hok;exact Jj rfl (i1N (P:=P) hs (E x k1) hok hq)
 |build t ps=>
  have⟨⟨k1,k2,k3⟩,hok⟩:=hok;have S:∃fs,(w8 P t).k= .struct fs:=by
   cases hkk:(w8 P t).k<;>rw[hkk]at k2<;>simp[TK.agg]at k2
   ·exact⟨_,rfl⟩
   ·exact absurd hkk (k3 _ _)
  exact jC hs (PZ _ _ _) (i2a (ps:=ps.map fun(i,x)=>(i,a.eval x)) (by simpa using Jc hf hg ps.toList k1) (.inl S) hok)
 |buildSlice t len ps=>
  have hq:=kS rfl;have⟨k1,hok⟩:=hok;cases u:G.M7 t with
  |true=>
  rw[u]at hok;have⟨el,hel⟩:=hok.1;simp only[cond_true]at hok;rw[rT hel]at hok;have⟨v,w',U,X,h3,h4⟩:=i2X (P:=P) (t:=t) (el:=el) (len:=len) (q:=q) (ps:=ps.map fun(i,x)=>(i,a.eval x)) hs (by simpa using Jc hf hg ps.toList k1) hel hok hq;simp only[G2,u,cond_true];rw[rT hel];refine⟨.value v,v,w',μ,by simp[execOp,U],.inl rfl,?_,?_,?_⟩<;>rw[nN rfl rfl]
  ·exact X
  ·exact h3
  ·exact h4
  |false=>
  rw[u]at hok;simp only[cond_false]at hok;have⟨el,hel⟩:=hok.1;rw[rT hel]at hok;have:=i2c (P:=P) (t:=t) (el:=el) (len:=len) (q:=q) (ps:=ps.map fun(i,x)=>(i,a.eval x)) hs (by simpa using Jc hf hg ps.toList k1) hel hok hq;simp only[G2,u,cond_false];rw[rT hel];exact Jj rfl this
 |load t x=>have⟨⟨k1,k2⟩,hok⟩:=hok;exact jC hs (Jd _ _ _) (ZF (P:=P) hs (E x k1) hok k2)
 |store t x y=>have⟨⟨k1,k2,k3⟩,hok⟩:=hok;exact Qh (Qi _ _ _ _).1 (Qi _ _ _ _).2 (i1J (P:=P) hs (E x k1) (E y k2) rfl hok k3)
 |ready=>exact hok.elim
 |waits=>exact hok.elim
 |nilCheck x=>
  have⟨k1,hok⟩:=hok;have A:=E x k1;have hst:=Qd (F2 G fr x);have⟨⟨ad,U⟩,X⟩:=i2x A hok;show Does P _ w μ st ((qu (F2 G fr x)).and (K5 G true fr x)) q;refine⟨.value (a.eval x),a.eval x,w,μ,by simp only[execOp];rw[U];rfl,.inl rfl,?_,?_,?_⟩<;>rw[nN (r:=(qu (F2 G fr x)).and (K5 G true fr x)) hst.1 hst.2]
  ·exact hs
  ·exact Step.refl _ _ _
  ·exact X
 |binOp op t x y ty=>
  have plain:∀(_:K5 G true fr x/\K5 G true fr y) (_:(cD op (F2 G fr x) (F2 G fr y)).ok),Does P (execOp a.eval ⟨dst,.binOp op t x y ty,type,pos,after,guard⟩) w μ st ((cD op (F2 G fr x) (F2 G fr y)).and (K5 G true fr x/\K5 G true fr y)) q:=by intro⟨k1,k2⟩ hok;have⟨v,U,X,h3⟩:=i2k (P:=P) (t:=t) (E x k1) (E y k2) hok;exact jC hs (Qa _ _ _) ⟨v,i3g U h3,X⟩
  have eqs:∀neg,(op=if neg then .neq else .eql)->∀(_:K5 G true fr x/\K5 G true fr y) (_:(gQ (w8 P t) (bF P t) neg (F2 G fr x) (F2 G fr y)).ok),
   Does P (execOp a.eval ⟨dst,.binOp op t x y ty,type,pos,after,guard⟩) w μ st ((gQ (w8 P t) (bF P t) neg (F2 G fr x) (F2 G fr y)).and (K5 G true fr x/\K5 G true fr y)) q:=by
   intro neg qD ⟨k1,k2⟩ hok
   have⟨v,U,X⟩:=i2s (P:=P) (t:=t) (ox:=x) (oy:=y) (E x k1) (E y k2) hok
   rw[<-qD]at U
   exact jC hs (Qb _ _ _ _ _) ⟨v,U,X⟩
  have key:(G2 P G true (.binOp op t x y ty) fr (look st) q=(cD op (F2 G fr x) (F2 G fr y)).and (K5 G true fr x/\K5 G true fr y))\/∃neg,(op=if neg then .neq else .eql)/\
   G2 P G true (.binOp op t x y ty) fr (look st) q=(gQ (w8 P t) (bF P t) neg (F2 G fr x) (F2 G fr y)).and (K5 G true fr x/\K5 G true fr y):=by
   simp only[G2]
   split<;>first|exact .inl rfl|exact .inr ⟨false,rfl,rfl⟩|exact .inr ⟨true,rfl,rfl⟩
  rcases key with key|⟨neg,qD,key⟩
  ·rw[key]at hok ⊢; exact plain hok.1 hok.2
  ·rw[key]at hok ⊢; exact eqs neg qD hok.1 hok.2
 |unOp op t x=>have⟨k1,hok⟩:=hok;exact jC hs (Qc _ _) (i2t (P:=P) (E x k1) hok)
 |convert s t x=>
  have⟨k1,hok⟩:=hok;have hst:=Qe (w8 P s) (w8 P t) (w8 P (Aw (w8 P s) (w8 P t))) (F2 G fr x);have⟨v,w',U,X,h3,h4⟩:=i2v (P:=P) hs (E x k1) (fun e he=>by simp[Aw,elemOf,he]) (fun h e he=>by simp[Aw,elemOf,h,he]) hok;show Does P _ w μ st ((qt (w8 P s) (w8 P t) (w8 P (Aw (w8 P s) (w8 P t))) (F2 G fr x)).and (K5 G true fr x)) q;refine⟨.value v,v,w',μ,by simp[execOp,U],.inl rfl,?_,?_,?_⟩<;>rw[nN (r:=(qt (w8 P s) (w8 P t) (w8 P (Aw (w8 P s) (w8 P t))) (F2 G fr x)).and (K5 G true fr x)) hst.1 hst.2]
  ·exact X
  ·exact h3
  ·exact h4
 |sliceToArrayPointer=>exact hok.elim
 |makeInterface=>exact hok.elim
 |makeFunc fn first cap=>
  cases fn with
  |func f=>
   have⟨k1,k2⟩:=hok;refine⟨.value (.func (.func f) (first.map a.eval) (cap.map a.eval)),_,w,μ,rfl,.inl rfl,?_,?_,?_⟩<;>rw[nN rfl rfl]
   ·exact hs
   ·exact Step.refl _ _ _
   ·refine .fn f _ _ _ _ B5 B5 (fun j L=>?_) (fun j L=>?_)
    ·simp at L;rw[qA (v:=a.eval first[j]) (by simp[L])];simpa using E first[j] (k1 _ B5)
    ·simp at L;rw[qA (v:=a.eval cap[j]) (by simp[L])];simpa using E cap[j] (k2 _ B5)
  | _=>exact hok.elim
 |makeMap t r=>
  have hq:=kS rfl;cases r with
  |none=>have⟨v,w',μ',ob,U,X,h3,h4,h5⟩:=i2g (P:=P) hs hok hq;have e:=PV (r:=oK (w8 P t) (w8 P (keyOf (w8 P t))) (w8 P (elemOf (w8 P t))).k.agg q) (q:=q) (st:=st) (ob:=ob) (d0x _ _ _ _) X;simp only[G2];exact⟨.value v,v,w',μ',by simp[execOp,U],.inl rfl,by rw[e];exact h3,by rw[e];exact h4,by rw[e];exact h5⟩
  |some _=>exact hok.elim
 |makeChan=>exact hok.elim
 |makeSlice t l c=>have hq:=kS rfl;have⟨⟨k1,k2⟩,hok⟩:=hok;have⟨el,hel⟩:=i3d hok;rw[rT hel]at hok;simp only[G2];rw[rT hel];exact Jj (d0v _ _ _ _ _) (i2d (P:=P) hs (E l k1) (E c k2) hel hok hq)
 |slice t x lo u mx=>have⟨⟨k1,k2,k3,k4⟩,hok⟩:=hok;exact jC hs (Jf _ _ _ _ _ _ _) (i1X (P:=P) hs (E x k1) (PU hf hg lo k2) (PU hf hg u k3) (PU hf hg mx k4) (fun el h=>by rw[rT h]) hok)
 |fieldAddr t x f=>have⟨k1,hok⟩:=hok;exact jC hs (PW _ _ _) (i1R (P:=P) (E x k1) hok)
 |field t x f=>have⟨k1,hok⟩:=hok;exact jC hs (PX _ _ _) (i1T (P:=P) (E x k1) hok)
 |indexAddr t x i=>
  have⟨⟨k1,k2⟩,hok⟩:=hok;have hel:(w8 P t).k= .slice (elemOf (w8 P t))\/∃n,(w8 P t).k= .arr n (elemOf (w8 P t)):=by
   rcases i3a hok with⟨e,h⟩|⟨n,e,h⟩
   ·rw[rT h];exact .inl h
   ·rw[d0y h];exact .inr ⟨n,h⟩
  exact jC hs (Je _ _ _ _ _) (i1U (P:=P) hs (E x k1) (E i k2) hel hok)
 |index t x i=>
  have⟨⟨k1,k2⟩,hok⟩:=hok;have hel:(w8 P t).k= .str\/∃n,(w8 P t).k= .arr n (elemOf (w8 P t)):=by
   rcases i3b hok with h|⟨n,e,h⟩
   ·exact .inl h
   ·rw[d0y h];exact .inr ⟨n,h⟩
  exact jC hs (PY _ _ _ _) (i1W (P:=P) (E x k1) (E i k2) hel hok)
 |lookup t m k c=>have⟨⟨k1,k2⟩,hok⟩:=hok;have⟨kt,et,h⟩:=i3c hok;have e1:=(AA h).1;have e2:=(AA h).2;simp only[G2];rw[e1,e2]at hok⊢;exact jC hs (Jg _ _ _ _ _ _ _) (i2m (P:=P) hs (E m k1) (E k k2) h hok)
 |mapUpdate t m k x=>have⟨⟨k1,k2,k3⟩,hok⟩:=hok;have⟨kt,et,h⟩:=d0u hok;have e1:=(AA h).1;have e2:=(AA h).2;simp only[G2];rw[e1,e2]at hok⊢;exact Qh (Az _ _ _ _ _ _ _).1 (Az _ _ _ _ _ _ _).2 (d0e (P:=P) hs (E m k1) (E k k2) (E x k3) h rfl hok)
 |insert t m k x=>have⟨⟨k1,k2,k3⟩,hok⟩:=hok;have⟨kt,et,h⟩:=d0u hok;have e1:=(AA h).1;have e2:=(AA h).2;simp only[G2];rw[e1,e2]at hok⊢;exact Qh (Az _ _ _ _ _ _ _).1 (Az _ _ _ _ _ _ _).2 (d0e (P:=P) hs (E m k1) (E k k2) (E x k3) h rfl hok)
 |mapEntry=>exact hok.elim
 |entryStore=>exact hok.elim
 |range t x=>have hq:=kS rfl;have⟨k1,hok⟩:=hok;exact Jj (Qj _ _ _) (i2R (P:=P) hs (E x k1) hok hq)
 |next x b=>have⟨k1,hok⟩:=hok;have⟨v,w',o,ob,U,X,h3,h4,h5⟩:=i2T (P:=P) (t:=type) hs (E x k1) hok;have e:=d0s (r:=(oQ (look st) b (F2 G fr x)).and (K5 G true fr x)) (q:=q) (st:=st) (ob:=ob) X (d0w _ _ _);exact⟨.value v,v,w',μ,by simp[execOp,U],.inl rfl,by simp only[G2];rw[e];exact h3,by simp only[G2];rw[e];exact h4,by simp only[G2];rw[e];exact h5⟩
 |entry=>exact hok.elim
 |typeAssert=>exact hok.elim
 |extract x i=>have⟨k1,hok⟩:=hok;exact jC hs (Qf _ _) (i2y (P:=P) (E x k1) hok)
 |call c=>
  have⟨callee,args,argTypes⟩:=c;cases callee with
  |builtin b=>
   simp only[G2]at hok⊢;split at hok
   ·rename_i x t ha F;have⟨k1,hok⟩:=hok;have⟨v,U,X⟩:=i2z (P:=P) (ty:=type) hs (E x k1) hok;have e1:args= #[x]:=by grind
    have e2:argTypes= #[t]:=by grind
    subst e1;subst e2;have:=jC (q:=q) (p:=K5 G true fr x) hs (Ei (w8 P t) (look st) (F2 G fr x)) ⟨v,U,X⟩;simpa[execOp,resolve,invoke,builtin]using this
   ·rename_i s x t C' ha F;have hq:=kS rfl;have⟨⟨k1,k2⟩,hok⟩:=hok;have⟨el,hel⟩:=i3e hok;rw[rT hel]at hok⊢;have⟨v,w',μ',U,X,h3,h4⟩:=i2J (P:=P) (ty:=type) hs (E s k1) (E x k2) hel rfl hok hq;have e1:args= #[s,x]:=by grind
    have e2:argTypes= #[t,C']:=by grind
    subst e1;subst e2;exact⟨.value v,v,w',μ',by simp[execOp,resolve,invoke,builtin,U],.inl rfl,X,h3,h4⟩
   ·rename_i x y ha;have⟨⟨k1,k2⟩,hok⟩:=hok;have⟨v,U,X⟩:=i2B (P:=P) (ts:=argTypes) (ty:=type) (E x k1) (E y k2) hok;have e1:args= #[x,y]:=by grind
    subst e1;have:=jC (q:=q) (p:=K5 G true fr x/\K5 G true fr y) hs (Jh (F2 G fr x) (F2 G fr y)) ⟨v,U,X⟩;simpa[execOp,resolve,invoke,builtin]using this
   ·rename_i x y ha;have⟨⟨k1,k2⟩,hok⟩:=hok;have⟨v,U,X⟩:=i2C (P:=P) (ts:=argTypes) (ty:=type) (E x k1) (E y k2) hok;have e1:args= #[x,y]:=by grind
    subst e1;have:=jC (q:=q) (p:=K5 G true fr x/\K5 G true fr y) hs (Ji (F2 G fr x) (F2 G fr y)) ⟨v,U,X⟩;simpa[execOp,resolve,invoke,builtin]using this
   ·rename_i x t ha F;have⟨k1,hok⟩:=hok;have⟨v,U,X⟩:=i2A (P:=P) (ty:=type) (E x k1) hok;have e1:args= #[x]:=by grind
    have e2:argTypes= #[t]:=by grind
    subst e1;subst e2;have:=jC (q:=q) (p:=K5 G true fr x) hs (Ej (w8 P t) (F2 G fr x)) ⟨v,U,X⟩;simpa[execOp,resolve,invoke,builtin]using this
   ·exact hok.elim
  |value f=>exact hok.elim
  |invoke r m=>exact hok.elim
 |go=>exact hok.elim
 |defer=>exact hok.elim
 |panic=>exact hok.elim
 |send=>exact hok.elim
 |recv=>exact hok.elim
 |select=>exact hok.elim
end
mutual
def D.sc(n:Nat):D->Prop
 | .agg cs=>D.eI n cs
 | .E8 cs=>D.eI n cs
 | .fn _ a b=>D.eI n a/\D.eI n b
 | .ref _ o _ _ _=>o<n
 | .ptr o _ _ _=>o<n
 | .mp o=>o<n
 | .it o=>o<n
 | .cond g d=>g=true->D.sc n d
 | _=>True
def D.eI(n:Nat):List D->Prop
 | []=>True
 |d::r=>D.sc n d/\D.eI n r
end
theorem mw{n:Nat}:∀ {cs:List D},D.eI n cs->∀j (h:j<cs.length),D.sc n (cs[j])
 |d::r,h,0,_=>h.1
 |d::r,h,j+1,L=>mw (cs:=r) h.2 j (by simpa using L)
theorem rU{n:Nat}:∀ {cs:List D},(∀j (h:j<cs.length),D.sc n (cs[j]))->D.eI n cs
 | [],_=>trivial
 |d::r,h=>⟨h 0 B5,rU fun j L=>h (j+1) (by simpa using L)⟩
def Ob.sc(n:Nat):Ob->Prop
 | .arr _ _ _ es=>∀e∈es,D.eI n e
 | .mps _ es=>∀e∈es,D.eI n e.2
 | .T9 _ _ es=>∀e∈es,D.eI n e.2
 | _=>True
def Q8(n:Nat)(st:St):Prop:=∀(o:Nat)(ob:Ob),st[o]? =some (some ob)->ob.sc n
theorem TR.sc{own:Nat->Prop}(h:TR w own v d)(n:Nat):D.sc n d:=by cases h<;>trivial
abbrev iZ(P:Program)(f:FuncId):Bool:=match P.funcs[f]? with|some fn=>fn.body.isSome&&fn.name != "runtime.NumGoroutine" |none=>false
def uJ(P:Program)(f:FuncId)(vs:Array Value)(w:World)(BE:Ending->World->Prop):Prop:=
 (iZ P f=true/\Calls P f vs w BE)\/∃v,(callFunc f vs).run P w= .ok (.value v) w/\BE (Ending.returned v) w
theorem uJ.mono{BE Q':Ending->World->Prop}(h:uJ P f vs w BE)(hq:∀e w',BE e w'->Q' e w'):uJ P f vs w Q':=by
 rcases h with⟨a,b⟩|⟨v,a,b⟩
 ·exact .inl ⟨a,b.mono hq⟩
 ·exact .inr ⟨v,a,hq _ _ b⟩
theorem Ql(H:iZ P f=true)(vs:Array Value)(w:World):(callFunc f vs).run P w= .ok (.enter f vs) w:=by
 unfold iZ at H;cases hfn:P.funcs[f]? with
 |none=>rw[hfn]at H;cases H
 |some fn=>
  rw[hfn]at H;simp only[Bool.and_eq_true,bne_iff_ne]at H;have⟨hb1,gR⟩:=H;obtain⟨code,hb3⟩:∃c,fn.body=some c:=by
   cases Av:fn.body with
   |none=>rw[Av]at hb1;cases hb1
   |some c=>exact⟨c,rfl⟩
  simp[callFunc,hfn,gR,hb3]
theorem uJ.calls{BE:Ending->World->Prop}(h:uJ P f vs w BE)(H:iZ P f=true):Calls P f vs w BE:=by
 rcases h with⟨_,h⟩|⟨v,h,_⟩
 ·exact h
 ·rw[Ql H]at h;cases h
theorem uJ.upon{R:Ending->World->Prop}{o:Oper}{next:Act->World->Prop}{BE:Exit->Act->World->Prop}(h:uJ P f vs w R)
 (hm:∀e w',R e w'->match (motive:=Ending->World->Prop) e,w' with|Ending.returned v,w''=>next (a.put o.dst v) w''| .panicked chain,w''=>BE (.panic chain) a w''| .outgrown,_=>LetsOut BE):o.upon P a next BE ((callFunc f vs).run P w):=by
 rcases h with⟨H,h⟩|⟨v,h,hq⟩
 ·rw[Ql H,Oper.upon_enter];exact h.mono hm
 ·rw[h,Oper.upon_value];exact hm _ _ hq
def Spec(P:Program)(G:Gl)(f:FuncId)(args:List D)(st:St)(R:D->St->Prop):Prop:=
 True/\
 ∀(w:World)(μ:Mu)(vs:Array Value),J0 w μ st->Glob G w μ st->vs.size=args.length->(∀j (h:j<args.length),VR w μ st (vs.getD j undef) (args[j]))->
  uJ P f vs w fun e w'=>∃v d st' μ',e= .returned v/\R d st'/\J0 w' μ' st'/\Step w μ st w' μ' st'/\VR w' μ' st' v d
def Pure(P:Program)(G:Gl)(f:FuncId)(args:List D)(r:D):Prop:=∀st,Spec P G f args st fun d st'=>d=r/\st'=st
theorem Spec.mono{st:St}{R':D->St->Prop}(h:Spec P G f args st R)(hr:∀d st',R d st'->R' d st'):Spec P G f args st R':=
 ⟨h.1,fun w μ vs U X h3 h4=>(h.2 w μ vs U X h3 h4).mono fun _ _ ⟨v,d,st',μ',a,b,c⟩=>⟨v,d,st',μ',a,hr _ _ b,c⟩⟩
theorem Pure.to{r:D}(h:Pure P G f args r){st:St}(hr:R r st):Spec P G f args st R:=
 (h st).mono fun _ _ ⟨a,b⟩=>by subst a;subst b;exact hr
structure yk where
 fr:Fr
 st:St
 ok:Prop
def guardOf(ops:Array Oper)(fr:Fr)(o:Oper):Bool:=
 match o.guard with
 |none=>true
 |some (j,want)=>match (ops[j]?).bind (·.dst)with
  |some t=>match fr.get t with
   | .bool b=>b==want
   | .cond c (.bool b)=>c&&(b==want)
   | _=>false
  |none=>false
def mz(ops:Array Oper)(fr:Fr)(o:Oper):Prop:=
 match o.guard with
 |none=>True
 |some (j,_)=>match (ops[j]?).bind (·.dst)with
  |some t=>match fr.get t with
   | .bool _=>True
   | .cond _ (.bool _)=>True
   | _=>False
  |none=>False
def nO(o:Oper)(G:Bool)(fr:Fr)(d:D):Fr:=
 match o.guard with
 |none=>fr.U3 o.dst d
 |some _=>fr.U3 o.dst (.cond G d)
def LR.kc(r:LR)(st:St):St:=
 let s1:=match r.up with|some (o,ob)=>st.set o (some ob)|none=>st
 match r.new with|some ob=>s1++[some ob]|none=>s1
def kd(N:Nat)(o:Oper):Prop:=match o.dst with|some t=>t<N|none=>True
def P9(P:Program)(Gl:Gl)(N:Nat)(ops:Array Oper)(s:yk)(o:Oper):yk:=
 let G:=guardOf ops s.fr o
 let r:=if needs o.op then G2 P Gl G o.op s.fr (look (s.st++[some .resv])) s.st.length else G2 P Gl G o.op s.fr (look s.st) 0
 { fr:=nO o G s.fr r.d,st:=bif G then r.kc s.st else s.st,ok:=s.ok/\kd N o/\mz ops s.fr o/\(G=true->r.ok) }
def gb:Op->Option (Operand×List Operand)
 | .call { callee:=.value f,args,.. }=>some (f,args.toList)
 | _=>none
def Run(P:Program)(Gl:Gl)(N:Nat)(ops:Array Oper):List Oper->yk->(Fr->St->Prop)->Prop
 | [],s,yo=>s.ok/\yo s.fr s.st
 |o::l,s,yo=>
  match gb o.op with
  |none=>Run P Gl N ops l (P9 P Gl N ops s o) yo
  |some (f,xs)=>
   s.ok/\kd N o/\mz ops s.fr o/\K5 Gl (guardOf ops s.fr o) s.fr f/\(∀x∈xs,K5 Gl (guardOf ops s.fr o) s.fr x)/\
   match o.guard with
   |none=>(match F2 Gl s.fr f with
    | .fn g first cap=>Spec P Gl g (first++xs.map (F2 Gl s.fr)++cap) s.st fun d st'=>Run P Gl N ops l ⟨s.fr.U3 o.dst d,st',True⟩ yo
    | _=>False)
   |some _=>(match F2 Gl s.fr f with
    | .fn g first cap=>∃r ups,(guardOf ops s.fr o=true->Spec P Gl g (first++xs.map (F2 Gl s.fr)++cap) s.st fun d st'=>d=r/\st'=puts s.st ups)/\(guardOf ops s.fr o=false->puts s.st ups=s.st)/\Run P Gl N ops l ⟨nO o (guardOf ops s.fr o) s.fr r,puts s.st ups,True⟩ yo
    | _=>False)
structure bp(Gl:Gl)(N:Nat)(w0:World)(μ0:Mu)(st0:St)(fr:Fr)(st:St)(a:Act)(w:World)(μ:Mu):Prop where
 bU:J0 w μ st
 glob:Glob Gl w μ st
 fr:FR w μ st a.tmps fr
 size:a.tmps.size=N
 defers:a.defers=[]
 step:Step w0 μ0 st0 w μ st
def uK(Gl:Gl)(N:Nat)(w0:World)(μ0:Mu)(st0:St)(fr:Fr)(st:St)(a:Act)(w:World):Prop:=∃μ,bp Gl N w0 μ0 st0 fr st a w μ
section
variable {P:Program} {gl:Gl} {N:Nat} {ops:Array Oper} {w0:World} {μ0:Mu} {st0:St}
theorem VR.resv{st:St}(hm:μ st.length=none)(h:VR w μ (st++[some .resv]) v d):VR w μ st v d:=by
 have hl:∀o,o<(st++[some Ob.resv]).length->(st++[some Ob.resv])[o]? ≠some (some .resv)->o<st.length:=by grind
 have lk:∀o,o<st.length->(st++[some Ob.resv])[o]? =st[o]? :=fun o h=>cy h;have ow:∀blk,own μ (st++[some .resv]) blk↔own μ st blk:=by
  intro blk;constructor
  ·rintro⟨o,ob,base,U,X⟩;rcases il o st.length with h|h
   ·rw[lk o h]at U;exact⟨o,ob,base,U,X⟩
   ·grind
  ·rintro⟨o,ob,base,U,X⟩;have h:o<st.length:=(c7.1 U).1;exact⟨o,ob,base,by rw[lk o h];exact U,X⟩
 induction h with
 |any v=>exact .any v
 |tr h=>exact .tr (h.mono (fun blk _ hn=>⟨rfl,fun h=>hn ((ow blk).2 h)⟩) (ae _))
 |agg vs cs hs K ih=>exact .agg vs cs hs ih
 |E8 vs cs hs K ih=>exact .E8 vs cs hs ih
 |fn f vf vc first cap hf K Ah T4 ih1 ih2=>exact .fn f vf vc first cap hf K ih1 ih2
 |ref v full o g off len Q ho hr hg h=>have U7:=hl o ho hr;rw[lk o U7]at hr;exact .ref v full o g off len Q U7 hr (fun g' n b es e=>hg g' n b es (by rw[lk o U7];exact e)) (fun n b es e=>h n b es (by rw[lk o U7];exact e))
 |ptr v o g i c Q ho hr hg h=>have U7:=hl o ho hr;rw[lk o U7]at hr;exact .ptr v o g i c Q U7 hr (fun g' n b es e=>hg g' n b es (by rw[lk o U7];exact e)) (fun n b es e=>h n b es (by rw[lk o U7];exact e))
 |mp v o Q ho hr U X=>have U7:=hl o ho hr;rw[lk o U7]at hr;exact .mp v o Q U7 hr (fun ag es e=>U ag es (by rw[lk o U7];exact e)) (fun ag k es e=>X ag k es (by rw[lk o U7];exact e))
 |it v o Q ho hr h=>have U7:=hl o ho hr;rw[lk o U7]at hr;exact .it v o Q U7 hr (fun s p e=>h s p (by rw[lk o U7];exact e))
 |cond v g d h h0 ih=>exact .cond v g d ih h0
theorem i3h{st:St}(hs:J0 w μ (st++[some .resv])):J0 w μ st/\μ st.length=none:=by
 have hm:μ st.length=none:=hs.obj st.length .resv B5;have lk:∀o ob,st[o]? =some (some ob)->(st++[some Ob.resv])[o]? =some (some ob):=fun o ob h=>by rw[cy (c7.1 h).1];exact h
 refine⟨⟨fun o ob h=>?_,fun o1 o2 bY kL blk b1 b2 U X m1 m2=>hs.inj o1 o2 bY kL blk b1 b2 (lk _ _ U) (lk _ _ X) m1 m2⟩,hm⟩;have:=hs.obj o ob (lk o ob h);cases ob with
 |arr g n b es=>
  have⟨U,X,h3⟩:=(this:bk w μ (st++[some .resv]) (μ o) n b es);refine(⟨U,X,?_⟩:bk w μ st (μ o) n b es);rcases h3 with h3|⟨blk,base,c,ty,em,hh,hsz,K⟩
  ·exact .inl h3
  ·exact .inr ⟨blk,base,c,ty,em,hh,hsz,fun i j u L=>let ⟨v,e,Q,U⟩:=K i j u L;⟨v,e,Q.resv hm,U⟩⟩
 |mps ag es=>
  have⟨blk,ents,clock,ez,em,hh,hsz,K,A⟩:=(this:aW _ ag w μ _ (μ o) es).loc;refine(⟨⟨blk,ents,clock,ez,em,hh,hsz,fun i u=>?_,A⟩⟩:aW _ ag w μ st (μ o) es);have⟨e,e1,e2,e3⟩:=K i u;refine⟨e,e1,e2,?_⟩;cases ag with
  |true=>exact VR.resv hm e3
  |false=>have⟨d,a,b⟩:=e3;exact⟨d,a,b.resv hm⟩
 |T9 ag k es=>
  have⟨blk,ents,clock,ez,em,hh,hsz,K,A⟩:=(this:aW _ ag w μ _ (μ o) es).loc;refine(⟨⟨blk,ents,clock,ez,em,hh,hsz,fun i u=>?_,A⟩⟩:aW _ ag w μ st (μ o) es);have⟨e,e1,e2,e3⟩:=K i u;refine⟨e,e1,e2,?_⟩;cases ag with
  |true=>exact VR.resv hm e3
  |false=>have⟨d,a,b⟩:=e3;exact⟨d,a,b.resv hm⟩
 |V0=>exact this
 |resv=>exact this
theorem i3i{st:St}(_:μ' st'.length=none)(hl:st.length<=st'.length)(h:Step w μ st w' μ' (st'++[some .resv])):Step w μ st w' μ' st' where
 size:=h.size
 os:=h.os
 output:=h.output
 tape:=h.tape
 M7:=h.M7
 own:=fun blk ⟨o,ob,base,U,X⟩=>h.own blk ⟨o,ob,base,by rw[cy (c7.1 U).1];exact U,X⟩
 len:=hl
 keep:=fun o ob' ho U=>h.keep o ob' ho (by rw[cy (c7.1 U).1];exact U)
theorem Ek{st:St}(h:Glob G w μ st)(ho:∀blk,own μ' st' blk->own μ st blk):Glob G w μ' st':=⟨fun g cs e=>(h.tab g cs e).mono (fun blk _ hn=>⟨rfl,fun x=>hn (ho blk x)⟩) (ae _),fun g c e=>let ⟨U,X,h3⟩:=h.all g c e;⟨U,fun x=>X (ho g x),h3⟩,fun g e=>let ⟨U,X,h3⟩:=h.int g e;⟨U,fun x=>X (ho g x),h3⟩⟩
theorem i3j{st:St}(h:r.new=none):r.app q st=r.kc st:=by have⟨d,ok,rd,up,new⟩:=r;simp only at h;subst h;rfl
theorem Qm{fr:Fr}{lk:Look}(hn:needs op=false):(G2 P gl g op fr lk q).new=none:=by
 cases op with
 |move=>rfl
 |assign=>rfl
 |pick=>exact(Qg _ _ _).2
 |alloc=>cases hn
 |box=>cases hn
 |build=>exact(PZ _ _ _).2
 |buildSlice=>cases hn
 |load=>exact(Jd _ _ _).2
 |store=>exact(Qi _ _ _ _).1
 |ready=>rfl
 |waits=>rfl
 |nilCheck=>exact(Qd _).2
 |binOp=>simp only[G2];split<;>first|exact(Qa _ _ _).2|exact(Qb _ _ _ _ _).2
 |unOp=>exact(Qc _ _).2
 |convert=>exact(Qe _ _ _ _).2
 |sliceToArrayPointer=>rfl
 |makeInterface=>rfl
 |makeFunc fn=>cases fn<;>rfl
 |makeMap=>cases hn
 |makeChan=>rfl
 |makeSlice=>cases hn
 |slice=>exact(Jf _ _ _ _ _ _ _).2
 |fieldAddr=>exact(PW _ _ _).2
 |field=>exact(PX _ _ _).2
 |indexAddr=>exact(Je _ _ _ _ _).2
 |index=>exact(PY _ _ _ _).2
 |lookup=>exact(Jg _ _ _ _ _ _ _).2
 |mapUpdate=>exact(Az _ _ _ _ _ _ _).1
 |insert=>exact(Az _ _ _ _ _ _ _).1
 |mapEntry=>rfl
 |entryStore=>rfl
 |range=>cases hn
 |next=>exact d0w _ _ _
 |entry=>rfl
 |typeAssert=>rfl
 |extract=>exact(Qf _ _).2
 |call c=>
  have⟨callee,args,argTypes⟩:=c;cases callee with
  |builtin b=>
   simp only[G2];split
   ·exact(Ei _ _ _).2
   ·cases hn
   ·exact(Jh _ _).2
   ·exact(Ji _ _).2
   ·exact(Ej _ _).2
   ·rfl
  |value=>rfl
  |invoke=>rfl
 |go=>rfl
 |defer=>rfl
 |panic=>rfl
 |send=>rfl
 |recv=>rfl
 |select=>rfl
theorem i3k{lk:Look}{s:D}(h:(cS i e xk lk s x q).up=some (o,ob)):∃g n b es,lk o=some (.arr g n b es):=by
 unfold cS at h;(repeat' split at h)<;>first|(cases h;done)|skip
 rename_i hl;cases h;exact⟨_,_,_,_,hl⟩
theorem i3l{fr:Fr}{st:St}(hn:needs op=true)(h:(G2 P gl g op fr (look (st++[some .resv])) q).up=some (o,ob)):o<st.length:=by
 cases op with
 |alloc=>cases h
 |box=>cases h
 |buildSlice t len ps=>revert h;simp only[G2];cases gl.M7 t<;>(intro h;cases h)
 |makeMap t r=>
  cases r with
  |none=>simp only[G2,d0x]at h;cases h
  |some=>cases h
 |makeSlice=>simp only[G2,LR.and,d0v]at h;cases h
 |range=>simp only[G2,LR.and,Qj]at h;cases h
 |call c=>
  have⟨callee,args,argTypes⟩:=c;cases callee with
  |builtin b=>
   simp only[G2]at h;split at h
   ·rw[show(LR.and _ _).up=_ from(Ei _ _ _).1]at h;cases h
   ·have⟨g,n,b,es,hl⟩:=i3k h;have:=V7 hl;rcases il o st.length with h'|h'
    ·exact h'
    ·grind
   ·rw[show(LR.and _ _).up=_ from(Jh _ _).1]at h;cases h
   ·rw[show(LR.and _ _).up=_ from(Ji _ _).1]at h;cases h
   ·rw[show(LR.and _ _).up=_ from(Ej _ _).1]at h;cases h
   ·cases h
  |value=>cases h
  |invoke=>cases h
 | _=>cases hn
theorem i3m{fr:Fr}{st:St}{a:Act}{w:World}{μ:Mu}{o:Oper}(h:bp gl N w0 μ0 st0 fr st a w μ){r:LR}
 (hr:r=if needs o.op then G2 P gl true o.op fr (look (st++[some .resv])) st.length else G2 P gl true o.op fr (look st) 0) (hok:r.ok) (hd:kd N o):
 ∃nx v w' μ',(execOp a.eval o).run P w= .ok nx w'/\(nx= .value v\/(nx= .skip/\v=undef))/\bp gl N w0 μ0 st0 (fr.U3 o.dst r.d) (r.kc st) (a.put o.dst v) w' μ':=by
 have fin:∀ {w' μ' v st'},J0 w' μ' st'->Step w μ st w' μ' st'->VR w' μ' st' v r.d->bp gl N w0 μ0 st0 (fr.U3 o.dst r.d) st' (a.put o.dst v) w' μ':=by
  intro w' μ' v st' U X h3;refine⟨U,h.glob.step X,?_,?_,?_,h.step.trans X⟩
  ·cases cF:o.dst with
   |none=>exact h.fr.step X
   |some t=>
    have F:t<N:=by simpa[kd,cF]using hd
    exact(h.fr.step X).put h3 (by rw[h.size];exact F)
  ·cases cF:o.dst with
   |none=>exact h.size
   |some t=>simp[nl,h.size]
  ·cases cF:o.dst with
   |none=>exact h.defers
   |some t=>simp[nl,h.defers]
 cases hn:needs o.op with
 |false=>rw[hn]at hr;simp only[ib,if_false]at hr;subst hr;have⟨nx,v,w',μ',U,X,h3,h4,h5⟩:=Qk (P:=P) (G:=gl) (q:=0) h.bU h.fr h.glob (fun e=>by rw[hn]at e;cases e) hok;have hnew:(G2 P gl true o.op fr (look st) 0).new=none:=Qm hn;have e:(G2 P gl true o.op fr (look st) 0).app 0 st=(G2 P gl true o.op fr (look st) 0).kc st:=i3j hnew;rw[e]at h3 h4 h5;exact⟨nx,v,w',μ',U,X,fin h3 h4 h5⟩
 |true=>
  rw[hn]at hr;simp only[if_true]at hr;have⟨k1,k2⟩:=IB h.bU;have hf2:=h.fr.step k2;have hg2:=h.glob.step k2;have:=Qk (P:=P) (G:=gl) (q:=st.length) k1 hf2 hg2 (fun _=>by simp) (by rw[<-hr];exact hok);rw[<-hr]at this;have⟨nx,v,w',μ',U,X,h3,h4,h5⟩:=this;have hup:∀o' ob,r.up=some (o',ob)->o'<st.length:=fun o' ob e=>i3l hn (by rw[<-hr];exact e);have e:(r.new=none/\r.app st.length (st++[some .resv])=r.kc st++[some .resv])\/(r.app st.length (st++[some .resv])=r.kc st):=by
   cases hu:r.up with
   |none=>
    cases gS:r.new with
    |none=>left;simp[LR.app,LR.kc,hu,gS]
    |some ob=>right;simp[LR.app,LR.kc,hu,gS]
   |some p=>
    have⟨o',ob'⟩:=p;have hlt:=hup o' ob' hu;cases gS:r.new with
    |none=>left;simp[LR.app,LR.kc,hu,gS,pc _ _ hlt]
    |some ob=>right;simp[LR.app,LR.kc,hu,gS,pc _ _ hlt]
  have hlen:st.length<=(r.kc st).length:=by
   cases hu:r.up with
   |none=>cases gS:r.new<;>simp[LR.kc,hu,gS]
   |some p=>cases gS:r.new<;>simp[LR.kc,hu,gS]
  rcases e with⟨_,e⟩|e
  ·rw[e]at h3 h4 h5;have⟨s1,s2⟩:=i3h h3;exact⟨nx,v,w',μ',U,X,fin s1 (i3i s2 hlen (k2.trans h4)) (h5.resv s2)⟩
  ·rw[e]at h3 h4 h5;exact⟨nx,v,w',μ',U,X,fin h3 (k2.trans h4) h5⟩
end
section
variable {P:Program} {gl:Gl} {N:Nat} {ops:Array Oper} {w0:World} {μ0:Mu} {st0:St}
theorem Qn{st:St}{fr:Fr}{o:Oper}(hf:FR w μ st tmps fr)(hok:mz ops fr o):Region.wanted o (yielded ops tmps)=guardOf ops fr o:=by
 unfold mz at hok;unfold guardOf Region.wanted;cases hg:o.guard with
 |none=>rfl
 |some p=>
  have⟨j,want⟩:=p;rw[hg]at hok;simp only at hok⊢;cases hd:(ops[j]?).bind (·.dst)with
  |none=>rw[hd]at hok;exact hok.elim
  |some t=>
   rw[hd]at hok;simp only at hok⊢;have F:=hf t;have yes:∀b,VR w μ st (tmps.getD t undef) (.bool b)->yielded ops tmps j=some b:=fun b h=>by
    have:=oO h;unfold yielded;rw[hd];simp only[Option.bind_some];cases hq:tmps[t]? with
    |none=>simp[ca, hq,undef]at this
    |some C'=>simp[ca, hq]at this;subst this;rfl
   have no:tmps.getD t undef=undef->yielded ops tmps j=none:=fun h=>by
    unfold yielded;rw[hd];simp only[Option.bind_some];cases hq:tmps[t]? with
    |none=>rfl
    |some C'=>simp[ca, hq]at h;subst h;rfl
   split at hok
   ·grind
   ·rename_i c b H;rw[H]at F;generalize tmps.getD t undef=C' at F yes no;cases F with
    |tr h=>cases h
    |cond _ _ _ h h0=>grind
   ·exact hok.elim
theorem d0z{yo:Fr->St->Prop}:∀(l:List Oper)(s:yk),Run P gl N ops l s yo->s.ok
 | [],s,h=>h.1
 |o::l,s,h=>by
  simp only[Run]at h;split at h
  ·exact(d0z l _ h).1
  ·exact h.1
theorem Qo{fr:Fr}{st:St}{o:Oper}(h:bp gl N w0 μ0 st0 fr st a w μ)(hd:kd N o)(d:D):
 bp gl N w0 μ0 st0 (fr.U3 o.dst (.cond false d)) st (a.put o.dst undef) w μ:=by
 refine⟨h.bU,h.glob,?_,?_,?_,h.step⟩
 ·cases cF:o.dst with
  |none=>exact h.fr
  |some t=>
   have F:t<N:=by simpa[kd,cF]using hd
   exact h.fr.put (.cond _ _ _ (fun e=>by cases e) (fun _=>rfl)) (by rw[h.size];exact F)
 ·cases cF:o.dst with
  |none=>exact h.size
  |some t=>simp[nl,h.size]
 ·cases cF:o.dst with
  |none=>exact h.defers
  |some t=>simp[nl,h.defers]
theorem Qp{fr:Fr}{st:St}{o:Oper}(h:bp gl N w0 μ0 st0 (fr.U3 o.dst d) st (a.put o.dst v) w μ)(G:Bool)(hG:G=true):bp gl N w0 μ0 st0 (nO o G fr d) st (a.put o.dst v) w μ:=by
 unfold nO;split
 ·exact h
 ·refine⟨h.bU,h.glob,fun t=>?_,h.size,h.defers,h.step⟩;have:=h.fr t;cases cF:o.dst with
  |none=>rw[cF]at this;exact this
  |some t'=>
   rw[cF]at this;simp only[Fr.U3,Fr.Eh]at this⊢;split
   ·rename_i e;rw[if_pos e]at this;exact .cond _ _ _ (fun _=>this) (fun e=>by rw[hG]at e;cases e)
   ·grind
theorem Jk{o:Oper}{st:St}{fr:Fr}{f:Operand}{xs:List Operand}{g:Nat}(K:gb o.op=some (f,xs))(hf:FR w μ st a.tmps fr)(hg:Glob gl w μ st)
 (i3o:K5 gl true fr f) (i3p:∀x∈xs,K5 gl true fr x) (jD:F2 gl fr f= .fn g first cap):
 ∃vs:Array Value,(execOp a.eval o).run P w=(callFunc g vs).run P w/\vs.size=(first++xs.map (F2 gl fr)++cap).length/\
  ∀j (h:j<(first++xs.map (F2 gl fr)++cap).length),VR w μ st (vs.getD j undef) ((first++xs.map (F2 gl fr)++cap)[j]):=by
 have⟨dst,op,type,pos,after,guard⟩:=o
 cases op<;>simp only[gb]at K<;>first|(cases K;done)|skip
 rename_i c
 have⟨callee,args,argTypes⟩:=c
 cases callee<;>simp only at K<;>first|(cases K;done)|skip
 rename_i f'
 cases K
 have Q:=Ay hf hg i3o
 rw[jD]at Q
 have hargs:∀j (h:j<args.size),VR w μ st (a.eval args[j]) (F2 gl fr args[j]):=fun j h=>Ay hf hg (i3p _ B5)
 have key:∃vf vc:Array Value,a.eval f= .func (.func g) vf vc/\vf.size=first.length/\vc.size=cap.length/\(∀j (h:j<first.length),VR w μ st (vf.getD j undef) (first[j]))/\∀j (h:j<cap.length),VR w μ st (vc.getD j undef) (cap[j]):=by
  generalize a.eval f=vv at Q;cases Q with
  |tr h=>cases h
  |fn _ vf vc _ _ U X h3 h4=>grind
 have⟨vf,vc,e,U,X,h3,h4⟩:=key
 refine⟨vf++args.map a.eval++vc,?_,by simp[U,X],fun j L=>?_⟩
 ·simp[execOp,resolve,e,Deferred.ofValue,invoke]
 ·simp only[aa,bc,Array.length_toList]at L;rw[ca];by_cases c1:j<first.length
  ·rw[fg (by simp[U];omega),fg M];simp only[List.append_assoc,px c1];have:=h3 j c1;rwa[ca]at this
  ·by_cases c2:j<first.length+args.size
   ·grind
   ·rw[uv (by simp[U];omega)];have hj2:j-(first.length+args.size)<cap.length:=by omega
    have hg1:(first++args.toList.map (F2 gl fr)++cap)[j]'(by simp;omega)=cap[j-(first.length+args.size)]:=by grind
    rw[hg1];have:=h4 _ hj2;rw[ca]at this;simpa[U]using this
theorem AB{yo:Fr->St->Prop}{BE:Exit->Act->World->Prop}(hQ:∀fr st a w μ,yo fr st->bp gl N w0 μ0 st0 fr st a w μ->BE .normal a w):
 ∀(l:List Oper)(i:Nat),ops.toList.drop i=l->∀(s:yk)(a:Act)(w:World)(μ:Mu),bp gl N w0 μ0 st0 s.fr s.st a w μ->Run P gl N ops l s yo->wpOps P ops BE (fi i l.length) a w
 | [],i,hl,s,a,w,μ,K,h=>hQ _ _ _ _ _ h.2 K
 |o::l,i,hl,s,a,w,μ,K,h=>by
  have hlt:i<ops.size:=by
   rcases il i ops.size with h'|h'
   ·exact h'
   ·rw[List.drop_eq_nil_of_le (by simpa using h')]at hl;cases hl
  have ho:ops[i]? =some o:=by
   have:(ops.toList.drop i)[0]? =some o:=by rw[hl];rfl
   simpa[List.getElem?_drop]using this
  have hl':ops.toList.drop (i+1)=l:=by have:=congrArg List.tail hl;simpa[List.tail_drop]using this
  simp only[List.length_cons,List.range'_succ];rw[wpOps_cons];simp only[wpOp,ho];simp only[Run]at h;split at h
  ·rename_i hcall;have⟨hok,hd,hgo,hr⟩:=d0z l _ h;rw[Qn K.fr hgo];cases hG:guardOf ops s.fr o with
   |true=>
    simp only[if_true];left;rw[hG]at hr;have⟨nx,v,w',μ',U,X,h3⟩:=i3m (P:=P) (o:=o) K rfl (hr rfl) hd;unfold Oper.wp;rw[U];have next:wpOps P ops BE (fi (i+1) l.length) (a.put o.dst v) w':=by refine AB hQ l (i+1) hl' _ _ _ μ' ?_ h;simp only[P9,hG,cond_true];exact Qp h3 true rfl
    rcases X with rfl|⟨rfl,rfl⟩<;>exact next
   |false=>
    simp only[ib,if_false];have xX:∃p,o.guard=some p:=by
     cases hgd:o.guard with
     |none=>simp[guardOf,hgd]at hG
     |some p=>exact⟨p,rfl⟩
    have⟨p,xX⟩:=xX;refine AB hQ l (i+1) hl' _ _ _ μ ?_ h;simp only[P9,hG,cond_false];have e:∀d,nO o false s.fr d=s.fr.U3 o.dst (.cond false d):=fun d=>by simp[nO,xX]
    rw[e];exact Qo K hd _
  ·rename_i f xs hcall;have⟨hok,hd,hgo,iY,Jl,hr⟩:=h;rw[Qn K.fr hgo];cases hgd:o.guard with
   |none=>
    rw[hgd]at hr;simp only at hr;have hG:guardOf ops s.fr o=true:=by simp[guardOf,hgd]
    rw[hG]at iY Jl⊢;simp only[if_true];left;split at hr
    ·rename_i g first cap jD
     have⟨_,hspec⟩:=hr;have⟨vs,U,X,h3⟩:=Jk (P:=P) hcall K.fr K.glob iY Jl jD;unfold Oper.wp;rw[U];refine(hspec w μ vs K.bU K.glob X h3).upon fun e w' ⟨v,d,st',μ',he,hR,hs',kT,Q⟩=>?_;subst he;refine AB hQ l (i+1) hl' ⟨s.fr.U3 o.dst d,st',True⟩ _ _ μ' ?_ hR;refine⟨hs',K.glob.step kT,?_,?_,?_,K.step.trans kT⟩
     ·cases cF:o.dst with
      |none=>exact K.fr.step kT
      |some t=>
       have F:t<N:=by simpa[kd,cF]using hd
       exact(K.fr.step kT).put Q (by rw[K.size];exact F)
     ·cases cF:o.dst with
      |none=>exact K.size
      |some t=>simp[nl,K.size]
     ·cases cF:o.dst with
      |none=>exact K.defers
      |some t=>simp[nl,K.defers]
    ·exact hr.elim
   |some p=>
    rw[hgd]at hr;simp only at hr;cases hG:guardOf ops s.fr o with
    |false=>
     simp only[ib,if_false];split at hr
     ·have⟨r,ups,_,hst,hR⟩:=hr;rw[hst (by assumption)]at hR;refine AB hQ l (i+1) hl' _ _ _ μ ?_ hR;have e:∀d,nO o (guardOf ops s.fr o) s.fr d=s.fr.U3 o.dst (.cond false d):=fun d=>by simp[nO,hgd,hG]
      rw[e];exact Qo K hd _
     ·exact hr.elim
    |true=>
     rw[hG]at iY Jl hr;simp only[if_true];left;split at hr
     ·rename_i g first cap jD
      have⟨r,ups,hp,_,hR⟩:=hr;have⟨_,hspec⟩:=hp rfl;have⟨vs,U,X,h3⟩:=Jk (P:=P) hcall K.fr K.glob iY Jl jD;unfold Oper.wp;rw[U];refine(hspec w μ vs K.bU K.glob X h3).upon fun e w' ⟨v,d,st',μ',he,⟨hd1,hd2⟩,hs',kT,Q⟩=>?_;subst he;subst hd1;subst hd2;refine AB hQ l (i+1) hl' _ _ _ μ' ?_ hR;refine Qp ?_ true rfl;refine⟨hs',K.glob.step kT,?_,?_,?_,K.step.trans kT⟩
      ·cases cF:o.dst with
       |none=>exact K.fr.step kT
       |some t=>
        have F:t<N:=by simpa[kd,cF]using hd
        exact(K.fr.step kT).put Q (by rw[K.size];exact F)
      ·cases cF:o.dst with
       |none=>exact K.size
       |some t=>simp[nl,K.size]
      ·cases cF:o.dst with
       |none=>exact K.defers
       |some t=>simp[nl,K.defers]
     ·exact hr.elim
end
theorem VR.sc{st:St}(h:VR w μ st v d):D.sc st.length d:=by
 induction h with
 |any v=>trivial
 |tr h=>exact h.sc _
 |agg vs cs hs K ih=>exact rU ih
 |E8 vs cs hs K ih=>exact rU ih
 |fn f vf vc first cap hf K Ah T4 ih1 ih2=>exact⟨rU ih1,rU ih2⟩
 |ref v full o g off len Q ho=>exact ho
 |ptr v o g i c Q ho=>exact ho
 |mp v o Q ho=>exact ho
 |it v o Q ho=>exact ho
 |cond v g d h h0 ih=>exact ih
theorem J0.sc{st:St}(h:J0 w μ st):Q8 st.length st:=fun o ob ho=>by
 have:=h.obj o ob ho;cases ob with
 |arr g n b es=>
  have⟨_,_,h3⟩:=(this:bk w μ st (μ o) n b es);intro e he;rcases h3 with⟨_,h3⟩|⟨blk,base,c,ty,em,hh,hsz,K⟩
  ·rw[h3]at he;simp at he
  ·obtain⟨i,u,rfl⟩:=gz he;exact rU fun j L=>by have⟨v,_,Q,_⟩:=K i j u L;exact Q.sc
 |mps ag es=>
  have⟨blk,ents,clock,ez,em,hh,hsz,K,A⟩:=(this:aW _ ag w μ _ (μ o) es).loc;intro e he;obtain⟨i,u,rfl⟩:=gz (A.perm.mem_iff.2 he);have⟨e,_,_,e3⟩:=K i u;cases ag with
  |true=>exact VR.sc e3
  |false=>have⟨d,a,b⟩:=e3;rw[a];exact⟨b.sc,trivial⟩
 |T9 ag k es=>
  have⟨blk,ents,clock,ez,em,hh,hsz,K,A⟩:=(this:aW _ ag w μ _ (μ o) es).loc;intro e he;obtain⟨i,u,rfl⟩:=gz (A.perm.mem_iff.2 he);have⟨e,_,_,e3⟩:=K i u;cases ag with
  |true=>exact VR.sc e3
  |false=>have⟨d,a,b⟩:=e3;rw[a];exact⟨b.sc,trivial⟩
 |V0=>trivial
 |resv=>trivial
inductive Jm where
 |normal
 |exit (id:Nat)
 |ret
abbrev AQ:=Jm->Fr->St->Prop
def AQ.then(next:Fr->St->Prop)(BE:AQ):AQ
 | .normal,fr,st=>next fr st
 |e,fr,st=>BE e fr st
def AQ.block(id:Nat)(BE:AQ):AQ
 | .exit i,fr,st=>if i=id then BE .normal fr st else BE (.exit i) fr st
 |e,fr,st=>BE e fr st
def cq(gl:Gl)(N:Nat)(w0:World)(μ0:Mu)(st0:St)(BE:AQ):Exit->Act->World->Prop
 | .normal,a,w=>∃fr st,BE .normal fr st/\uK gl N w0 μ0 st0 fr st a w
 | .exit id,a,w=>∃fr st,BE (.exit id) fr st/\uK gl N w0 μ0 st0 fr st a w
 | .ret,a,w=>∃fr st,BE .ret fr st/\uK gl N w0 μ0 st0 fr st a w
 | _,_,_=>False
def F4(P:Program)(gl:Gl)(N n0:Nat)(_:List Nat)(c:Code)(BE:AQ)(fr:Fr)(st:St):Prop:=
 ∀(w0:World)(μ0:Mu)(st0:St),st0.length=n0->∀(a:Act)(w:World),uK gl N w0 μ0 st0 fr st a w->c.wp P (cq gl N w0 μ0 st0 BE) a w
section
variable {P:Program} {gl:Gl} {N n0:Nat} {keep:List Nat} {BE:AQ} {fr:Fr} {st:St}
theorem d0A{w0:World}{μ0:Mu}{st0:St}{b:Code}(hl:st0.length=n0){e:Exit}(h:cq gl N w0 μ0 st0 (AQ.then (F4 P gl N n0 keep b BE) BE) e a w):
 Exit.then (b.wp P (cq gl N w0 μ0 st0 BE)) (cq gl N w0 μ0 st0 BE) e a w:=by
 cases e with
 |normal=>have⟨fr,st,U,X⟩:=h;exact U w0 μ0 st0 hl a w X
 |exit id=>exact h
 |ret=>exact h
 |goto=>exact h
 |panic=>exact h
 |outgrown=>exact h
theorem I6{x y:Code}(h:F4 P gl N n0 keep x (AQ.then (F4 P gl N n0 keep y BE) BE) fr st):F4 P gl N n0 keep (.seq x y) BE fr st:=
 fun w0 μ0 st0 hl a w K=>wp_seq (wp_mono (h w0 μ0 st0 hl a w K) fun _ _ _=>d0A hl)
theorem d0B:∀(k k':List Item)(id:Nat),exitTo id k=some k'->k'.length<k.length
 | [],_,_,h=>by simp[exitTo]at h
 |x::k,k',id,h=>by
  by_cases A:x= .inBlock id
  ·subst A;simp[exitTo]at h;subst h;simp
  ·have:exitTo id k=some k':=by
    cases x<;>simp[exitTo]at h<;>first|exact h|skip
    rename_i id';split at h
    ·grind
    ·exact h
   have:=d0B k k' id this
   simp;omega
theorem d0C{b:Frame}{a':Act}{k k':List Item}{cs:List Frame}(h:lone (b.at a k) cs w=lone (b.at a' k') cs w'):k=k':=by simp only[lone,Machine.mk.injEq]at h;have:=h.2.1;simp[Frame.at]at this;exact this.2.1
theorem xY(h:F4 P gl N n0 keep c (AQ.then (F4 P gl N n0 keep (.loop c) BE) BE) fr st):F4 P gl N n0 keep (.loop c) BE fr st:=by
 intro w0 μ0 st0 hl a w K b k cs;have⟨e,a',w',kS,harr⟩:=h w0 μ0 st0 hl a w K b (.inLoop c::k) cs;have hq:=d0A (P:=P) (gl:=gl) (N:=N) (keep:=keep) hl kS;have pass:∀e',e'≠Exit.normal->cq gl N w0 μ0 st0 BE e' a' w'->Arrives P (lone (b.at a (.code c:: .inLoop c::k)) cs w) b (.inLoop c::k) cs e' a' w'->
  ∃e a'' w'',cq gl N w0 μ0 st0 BE e a'' w''/\Arrives P (lone (b.at a (.code (.loop c)::k)) cs w) b k cs e a'' w'':=fun e' hne kR i3r=>
  ⟨e',a',w',kR,.of_steps (.one step_loop) (.pass (x:=.inLoop c) rfl (fun _ _=>.inl hne) i3r)⟩
 cases e with
 |normal=>
  have⟨e2,a2,w2,fq,Qq⟩:=hq b k cs;have V1:step P (lone (b.at a' (.code (.loop c)::k)) cs w')= .next (lone (b.at a' (.code c:: .inLoop c::k)) cs w'):=step_loop;have jc:step P (lone (b.at a' (.inLoop c::k)) cs w')= .next (lone (b.at a' (.code c:: .inLoop c::k)) cs w'):=step_inLoop;have same:∀m,Steps P (lone (b.at a' (.code (.loop c)::k)) cs w') m->m≠lone (b.at a' (.code (.loop c)::k)) cs w'->Steps P (lone (b.at a' (.inLoop c::k)) cs w') m:=by
   intro m ⟨n,hn⟩ hne;cases n with
   |zero=>simp[runN]at hn;exact absurd hn.symm hne
   |succ n=>simp only[runN,V1]at hn;exact⟨n+1,by simp only[runN,jc];exact hn⟩
  refine⟨e2,a2,w2,fq,.of_steps (.head step_loop harr) ?_⟩;cases e2 with
  |normal=>exact same _ Qq (fun e=>by have:=congrArg ph (d0C e);simp at this)
  |exit id=>exact fun k' S=>same _ (Qq k' S) (fun e=>by have:=congrArg ph (d0C e);have:=d0B k k' id S;simp at *; omega)
  |ret=>have⟨todo,hs⟩:=Qq;refine⟨todo,same _ hs (fun e=>?_)⟩;simp only[lone,Machine.mk.injEq]at e;have:=e.2.1;simp[Frame.at]at this
  |goto=>exact fq.elim
  |panic=>exact fq.elim
  |outgrown=>exact fq.elim
 |exit id=>exact pass (.exit id) B5 hq harr
 |ret=>exact pass .ret B5 hq harr
 |goto l=>exact pass (.goto l) B5 hq harr
 |panic ch=>exact pass (.panic ch) B5 hq harr
 |outgrown=>exact pass .outgrown B5 hq harr
theorem Jo(h:BE .normal fr st):F4 P gl N n0 keep .skip BE fr st:=fun _ _ _ _ _ _ K=>wp_skip ⟨fr,st,h,K⟩
theorem xZ(h:BE .ret fr st):F4 P gl N n0 keep .ret BE fr st:=fun _ _ _ _ _ _ K=>wp_ret ⟨fr,st,h,K⟩
theorem uL(h:BE (.exit id) fr st):F4 P gl N n0 keep (.exit id) BE fr st:=fun _ _ _ _ _ _ K=>wp_exit ⟨fr,st,h,K⟩
theorem rV(h:F4 P gl N n0 keep c (AQ.block id BE) fr st):F4 P gl N n0 keep (.block id c) BE fr st:=
 fun w0 μ0 st0 hl a w K=>wp_block (wp_mono (h w0 μ0 st0 hl a w K) fun e a' w' hq=>by
  cases e with
  |normal=>exact hq
  |exit i=>
   have⟨fr',st',U,X⟩:=hq;simp only[AQ.block]at U;simp only[Exit.inBlock];split
   ·rename_i e;rw[if_pos e]at U;exact⟨fr',st',U,X⟩
   ·rename_i e;rw[if_neg e]at U;exact⟨fr',st',U,X⟩
  |ret=>exact hq
  |goto=>exact hq
  |panic=>exact hq
  |outgrown=>exact hq)
theorem AE{c:Operand}{x y:Code}{t:Bool}(K:ev gl fr c= .bool t)(A:t=true->F4 P gl N n0 keep x BE fr st)(hy:t=false->F4 P gl N n0 keep y BE fr st):F4 P gl N n0 keep (.cond c x y) BE fr st:=by intro w0 μ0 st0 hl a w T4;have⟨μ,kN⟩:=T4;have Q:=d0r kN.fr kN.glob c;rw[K]at Q;exact wp_cond_split (oO Q) (fun e=>A e w0 μ0 st0 hl a w ⟨μ,kN⟩) (fun e=>hy e w0 μ0 st0 hl a w ⟨μ,kN⟩)
theorem i3s(h:Run P gl N l.toArray l ⟨fr,st,True⟩ (fun fr st=>BE .normal (Fr.only keep fr) st)):F4 P gl N n0 keep (.region id l.toArray false) BE fr st:=by intro w0 μ0 st0 hl a w ⟨μ,K⟩;refine wp_region ?_;have:=AB (P:=P) (gl:=gl) (N:=N) (ops:=l.toArray) (w0:=w0) (μ0:=μ0) (st0:=st0) (BE:=cq gl N w0 μ0 st0 BE) (fun fr st a w μ S K=>⟨_,_,S,μ,K.bU,K.glob,K.fr.only keep,K.size,K.defers,K.step⟩) l 0 rfl ⟨fr,st,True⟩ a w μ K h;rw[List.range_eq_range'];simpa using this
theorem yc{Q':AQ}(h:F4 P gl N n0 keep c BE fr st)(hq:∀e fr st,BE e fr st->Q' e fr st):F4 P gl N n0 keep c Q' fr st:=
 fun w0 μ0 st0 hl a w K=>wp_mono (h w0 μ0 st0 hl a w K) fun e a' w' kR=>by
  cases e with
  |normal=>have⟨f,s,U,X⟩:=kR;exact⟨f,s,hq _ _ _ U,X⟩
  |exit i=>have⟨f,s,U,X⟩:=kR;exact⟨f,s,hq _ _ _ U,X⟩
  |ret=>have⟨f,s,U,X⟩:=kR;exact⟨f,s,hq _ _ _ U,X⟩
  |goto=>exact kR
  |panic=>exact kR
  |outgrown=>exact kR
theorem i3t{c:Code}{p:Prop}(hp:∀(w:World)(μ:Mu)(tmps:Array Value),J0 w μ st->FR w μ st tmps fr->p)(h:p->F4 P gl N n0 keep c BE fr st):F4 P gl N n0 keep c BE fr st:=
 fun w0 μ0 st0 hl a w ⟨μ,K⟩=>h (hp w μ a.tmps K.bU K.fr) w0 μ0 st0 hl a w ⟨μ,K⟩
def Fr.leq:Fr->Fr->Prop
 | [],_=>True
 |(k,d)::r,fr=>fr.get k=d/\Fr.leq r fr
theorem Fr.d0D:∀(r fr:Fr),Fr.leq r fr->∀t,r.get t=fr.get t\/r.get t= .any
 | [],_,_,_=>.inr rfl
 |(k,d)::r,fr,h,t=>by
  simp only[Fr.get];split
  ·rename_i e;subst e;exact .inl h.1.symm
  ·exact Fr.d0D r fr h.2 t
theorem rW{c:Code}{fr':Fr}(hl:Fr.leq fr' fr)(h:F4 P gl N n0 keep c BE fr' st):F4 P gl N n0 keep c BE fr st:=
 fun w0 μ0 st0 H6 a w ⟨μ,K⟩=>h w0 μ0 st0 H6 a w ⟨μ,K.bU,K.glob,fun t=>by
  rcases Fr.d0D fr' fr hl t with e|e
  ·rw[e];exact K.fr t
  ·rw[e];exact .any _,K.size,K.defers,K.step⟩
def Fr.sc(n:Nat):Fr->Prop
 | []=>True
 |(_,d)::r=>D.sc n d/\Fr.sc n r
theorem Fr.Qr{n:Nat}:∀(fr:Fr),Fr.sc n fr->∀t,D.sc n (fr.get t)
 | [],_,_=>trivial
 |(k,d)::r,h,t=>by
  simp only[Fr.get];split
  ·exact h.1
  ·exact Fr.Qr r h.2 t
def kU(P:Program)(st:St)(fr:Fr):ResultVar->LR
 | .tmp t=>{ d:=fr.get t,ok:=True }
 | .cell a t=>(rG (w8 P t) (look st) (fr.get a)).and ((w8 P t).k≠ .none)
def d0E(P:Program)(fn:Func)(fr:Fr)(st:St):D:=
 match fn.results.toList with
 | [r]=>(kU P st fr r).d
 |B=>.E8 (B.map fun r=>(kU P st fr r).d)
def i3u(P:Program)(fn:Func)(fr:Fr)(st:St):Prop:=∀r∈fn.results.toList,(kU P st fr r).ok
def uM:Nat->List D->Fr
 | _,[]=>[]
 |i,d::r=>(i,d)::uM (i+1) r
theorem d0F:∀(l:List D)(i t:Nat),(uM i l).get t=if h:i<=t/\t-i<l.length then l[t-i]else .any
 | [],i,t=>by simp[uM,Fr.get]
 |d::r,i,t=>by
  simp only[uM,Fr.get];by_cases h:i=t
  ·subst h;simp
  ·rw[if_neg h,d0F r (i+1) t];by_cases X:i+1<=t/\t-(i+1)<r.length
   ·grind
   ·grind
def Jp(tmps:Array Value):ResultVar->Sem Value
 | .tmp t=>pure (tmps.getD t undef)
 | .cell a t=>do loadVar t (<-asAddr (tmps.getD a undef))
theorem i3v{fn:Func}(hs:J0 w μ st)(hf:FR w μ st tmps fr)(hok:i3u P fn fr st):
 ∃v,(results fn tmps).run P w= .ok v w/\VR w μ st v (d0E P fn fr st):=by
 have one:∀r:ResultVar,(kU P st fr r).ok->∃v,(Jp tmps r).run P w= .ok v w/\VR w μ st v (kU P st fr r).d:=by
  intro r hr;cases r with
  |tmp t=>exact⟨_,rfl,hf t⟩
  |cell a t=>
   have⟨S,hok⟩:=hr;have⟨v,U,X⟩:=ZF (P:=P) (t:=t) hs (hf a) hok S;refine⟨v,?_,X⟩;have:∃ad,tmps.getD a undef= .pointer (some ad):=by
    cases hd:fr.get a<;>rw[hd]at hok<;>first|(exact hok.elim)|skip
    ·have:=hf a;rw[hd]at this;have⟨ad,e,_⟩:=ZE this;exact⟨ad,e⟩
    ·have:=hf a;rw[hd]at this;generalize tmps.getD a undef=C' at this;cases this with
     |tr h=>cases h
     |ptr _ _ _ _ _ Q=>exact Q
   have⟨ad,e⟩:=this;simp only[Jp];rw[e]at U⊢;simpa[Instr.loadAt,Instr.sureAddr,asAddr]using U
 have many:∀B:List ResultVar,(∀r∈B,(kU P st fr r).ok)->∃vs:List Value,(B.mapM (Jp tmps)).run P w= .ok vs w/\
  vs.length=B.length/\∀j (h:j<B.length) (X:j<vs.length),VR w μ st (vs[j]) (kU P st fr B[j]).d:=by
  intro B
  induction B with
  |nil=>exact fun _=>⟨[],rfl,rfl,fun j h=>absurd h (co _)⟩
  |cons r B ih=>
   intro h;have⟨v,U,X⟩:=one r (h r B5);have⟨vs,h3,h4,h5⟩:=ih (fun r hr=>h r (by simp[hr]));refine⟨v::vs,by simp only[List.mapM_cons,eQ,U,h3,dm];rfl,by simp[h4],fun j L hj2=>?_⟩;cases j with
   |zero=>exact X
   |succ j=>grind
 have⟨vs,U,X,h3⟩:=many fn.results.toList hok
 have i3w:results fn tmps=(fn.results.mapM (Jp tmps) >>= fun vs=>pure (if h:vs.size=1 then vs[0]else .tuple vs)):=by unfold results;congr 2
 have hrun:(results fn tmps).run P w= .ok (if h:vs.toArray.size=1 then vs.toArray[0]else .tuple vs.toArray) w:=by rw[i3w,Array.mapM_eq_mapM_toList];simp only[eQ,Sem.run_map,U,dm,Sem.run_pure]
 refine⟨_,hrun,?_⟩
 unfold d0E
 by_cases hl:vs.length=1
 ·rw[dif_pos (by simpa using hl)];have⟨r,hr⟩:=List.length_eq_one_iff.1 (X.symm.trans hl);rw[hr]at h3;simp only[hr];exact h3 0 B5 M
 ·rw[dif_neg (by simpa using hl)];have hm:∀B:List ResultVar,B.length≠1->(match B with| [r]=>(kU P st fr r).d|B=>.E8 (B.map fun r=>(kU P st fr r).d))= .E8 (B.map fun r=>(kU P st fr r).d):=by grind
  rw[hm _ (by rw[<-X];exact hl)];refine .E8 _ _ (fun j L _=>by simpa[X]using L) (fun j L=>?_);simp at L;have hj2:j<vs.length:=by rw[X];simpa using L
  rw[qA (v:=vs[j]) (by simp[hj2])];have h4:=h3 j (by simpa using L) hj2;simpa using h4
end
def dD:Op->Nat
 | .call { callee:=.value _,.. }=>2
 | .alloc _| .box _ _| .buildSlice _ _ _| .makeMap _ _| .makeSlice _ _ _| .range _ _| .call { callee:=.builtin .append,.. }=>1
 | _=>0
section
variable {P:Program} {gl:Gl} {N n0:Nat} {ops:Array Oper} {keep:List Nat} {BE:AQ} {fr:Fr} {st:St}
theorem yd(op:Op):(dD op=0->gb op=none/\needs op=false)/\(dD op=1->gb op=none/\needs op=true):=by
 cases op<;>first|exact⟨fun _=>⟨rfl,rfl⟩,fun h=>by cases h⟩|exact⟨fun h=>(by cases h),fun _=>⟨rfl,rfl⟩⟩|skip
 rename_i c;have⟨callee,args,argTypes⟩:=c;cases callee with
 |builtin b=>cases b<;>first|exact⟨fun _=>⟨rfl,rfl⟩,fun h=>by cases h⟩|exact⟨fun h=>(by cases h),fun _=>⟨rfl,rfl⟩⟩
 |value f=>exact⟨fun h=>(by cases h),fun h=>by cases h⟩
 |invoke r m=>exact⟨fun _=>⟨rfl,rfl⟩,fun h=>by cases h⟩
def El(want:Bool):D->Option Bool
 | .bool b=>some (b==want)
 | .cond c (.bool b)=>some (c&&(b==want))
 | _=>none
def eJ(N:Nat):Option Nat->Prop
 |some t=>t<N
 |none=>True
def gslot(ops:Array Oper)(j:Nat):Option Nat:=(ops[j]?).bind (·.dst)
def rX(N:Nat)(dst:Option Nat)(fr:Fr)(st:St)(k:Fr->St->Prop)(r:LR):Prop:=r.ok/\eJ N dst/\k (fr.U3 dst r.d) (r.kc st)
def Jq(P:Program)(gl:Gl)(N:Nat)(dst:Option Nat)(fr:Fr)(st:St)(k:Fr->St->Prop)(ok:Prop)(f:D)(args:List D):Prop:=
 match f with
 | .fn g first cap=>eJ N dst/\ok/\Spec P gl g (first++args++cap) st fun d st'=>k (fr.U3 dst d) st'
 | _=>False
def L1(G:Bool)(p:Prop):Prop:=G=true->p
def Qs(N:Nat)(G:Bool)(dst:Option Nat)(fr:Fr)(st:St)(k:Fr->St->Prop)(r:LR):Prop:=
 L1 G r.ok/\eJ N dst/\k (fr.U3 dst (.cond G r.d)) (bif G then r.kc st else st)
def AG(P:Program)(gl:Gl)(G:Bool)(dst:Option Nat)(fr:Fr)(st:St)(k:Fr->St->Prop)(g:FuncId)(args:List D):Prop:=
 ∃r ups,(G=true->Spec P gl g args st fun d st'=>d=r/\st'=puts st ups)/\(G=false->puts st ups=st)/\k (fr.U3 dst (.cond G r)) (puts st ups)
def Jr(P:Program)(gl:Gl)(N:Nat)(G:Bool)(dst:Option Nat)(fr:Fr)(st:St)(k:Fr->St->Prop)(ok:Prop)(f:D)(args:List D):Prop:=
 match f with
 | .fn g first cap=>eJ N dst/\ok/\AG P gl G dst fr st k g (first++args++cap)
 | _=>False
def AH(P:Program)(gl:Gl)(N:Nat)(k:Fr->St->Prop)(dst:Option Nat)(op:Op)(fr:Fr)(st:St):Nat->Prop
 |0=>rX N dst fr st k (G2 P gl true op fr (look st) 0)
 |1=>rX N dst fr st k (G2 P gl true op fr (look (st++[some .resv])) st.length)
 | _=>match op with
  | .call ⟨.value f,args,_⟩=>Jq P gl N dst fr st k (K5 gl true fr f/\(∀x∈args.toList,K5 gl true fr x)) (F2 gl fr f) (args.toList.map (F2 gl fr))
  | _=>False
def AJ(P:Program)(gl:Gl)(N:Nat)(k:Fr->St->Prop)(dst:Option Nat)(op:Op)(fr:Fr)(st:St):Nat->Option Bool->Prop
 |0,some G=>Qs N G dst fr st k (G2 P gl G op fr (look st) 0)
 |2,some G=>match op with
  | .call ⟨.value f,args,_⟩=>Jr P gl N G dst fr st k (K5 gl G fr f/\(∀x∈args.toList,K5 gl G fr x)) (F2 gl fr f) (args.toList.map (F2 gl fr))
  | _=>False
 | _,_=>False
def rY(fr:Fr)(want:Bool):Option Nat->Option Bool
 |some t=>El want (fr.get t)
 |none=>none
def Ev(P:Program)(gl:Gl)(N:Nat)(ops:Array Oper)(yo:Fr->St->Prop):List Oper->Fr->St->Prop
 | [],fr,st=>yo fr st
 |⟨dst,op,_,_,_,none⟩::l,fr,st=>AH P gl N (Ev P gl N ops yo l) dst op fr st (dD op)
 |⟨dst,op,_,_,_,some (j,want)⟩::l,fr,st=>AJ P gl N (Ev P gl N ops yo l) dst op fr st (dD op) (rY fr want (gslot ops j))
theorem d0G{fr:Fr}{dst:Option Nat}{op:Op}{ty:TypeId}{pos:String}{af:Array Edge}{j:Nat}{want G:Bool}(hg:rY fr want (gslot ops j)=some G):
 guardOf ops fr ⟨dst,op,ty,pos,af,some (j,want)⟩=G/\mz ops fr ⟨dst,op,ty,pos,af,some (j,want)⟩=True:=by
 unfold gslot at hg
 cases L:(ops[j]?).bind (·.dst)with
 |none=>rw[L]at hg;cases hg
 |some t=>
  rw[L]at hg;simp only[guardOf,mz,L];simp only[rY]at hg;cases hd:fr.get t<;>rw[hd]at hg<;>simp only[El]at hg<;>first|(cases hg;done)|skip
  ·cases hg;exact⟨rfl,rfl⟩
  ·grind
theorem Js(h:dD op≠0)(U:dD op≠1):∃f args dF,op= .call ⟨.value f,args,dF⟩:=by
 cases op<;>first|exact absurd rfl h|exact absurd rfl U|skip
 rename_i c;have⟨callee,args,argTypes⟩:=c;cases callee with
 |builtin b=>cases b<;>first|exact absurd rfl h|exact absurd rfl U
 |value f=>grind
 |invoke r m=>exact absurd rfl h
theorem AK{yo:Fr->St->Prop}:∀(l:List Oper)(fr:Fr)(st:St)(ok:Prop),ok->Ev P gl N ops yo l fr st->Run P gl N ops l ⟨fr,st,ok⟩ yo
 | [],fr,st,ok,hok,h=>⟨hok,h⟩
 |⟨dst,op,ty,pos,af,none⟩::l,fr,st,ok,hok,h=>by
  simp only[Ev]at h;by_cases h0:dD op=0
  ·rw[h0]at h;have⟨a,b,c⟩:=h;have⟨U,X⟩:=(yd op).1 h0;simp only[Run,U];have:=AK l _ _ (ok/\kd N ⟨dst,op,ty,pos,af,none⟩/\True/\(true=true->(G2 P gl true op fr (look st) 0).ok)) ⟨hok,b,trivial,fun _=>a⟩ c;simpa only[P9,X,guardOf,mz,nO,cond_true,ib,if_false]using this
  ·by_cases U:dD op=1
   ·rw[U]at h;have⟨a,b,c⟩:=h;have⟨U,X⟩:=(yd op).2 U;simp only[Run,U];have:=AK l _ _ (ok/\kd N ⟨dst,op,ty,pos,af,none⟩/\True/\(true=true->(G2 P gl true op fr (look (st++[some .resv])) st.length).ok)) ⟨hok,b,trivial,fun _=>a⟩ c;simpa only[P9,X,guardOf,mz,nO,cond_true,if_true]using this
   ·obtain⟨f,args,dF,rfl⟩:=Js h0 U;simp only[dD,AH,Jq]at h;simp only[Run,gb,guardOf,mz];cases hf:F2 gl fr f<;>rw[hf]at h<;>first|exact h.elim|skip
    have⟨a,⟨b,c⟩,d⟩:=h;exact⟨hok,a,trivial,b,c,d.mono fun d st' h=>AK l _ _ True trivial h⟩
 |⟨dst,op,ty,pos,af,some (j,want)⟩::l,fr,st,ok,hok,h=>by
  simp only[Ev]at h;cases hg:rY fr want (gslot ops j)with
  |none=>rw[hg]at h;unfold AJ at h;split at h<;>first|exact h.elim|(rename_i e;cases e)
  |some G=>
   rw[hg]at h;have⟨g1,g2⟩:=d0G (dst:=dst) (op:=op) (ty:=ty) (pos:=pos) (af:=af) hg;by_cases h0:dD op=0
   ·rw[h0]at h;have⟨a,b,c⟩:=h;have⟨U,X⟩:=(yd op).1 h0;simp only[Run,U];have:=AK l _ _ (ok/\kd N ⟨dst,op,ty,pos,af,some (j,want)⟩/\True/\(G=true->(G2 P gl G op fr (look st) 0).ok)) ⟨hok,b,trivial,a⟩ c;simpa only[P9,X,g1,g2,nO,ib,if_false]using this
   ·by_cases U:dD op=1
    ·rw[U]at h;exact h.elim
    ·obtain⟨f,args,dF,rfl⟩:=Js h0 U;simp only[dD,AJ,Jr]at h;simp only[Run,gb,g1,g2];cases hf:F2 gl fr f<;>rw[hf]at h<;>first|exact h.elim|skip
     have⟨a,⟨b,c⟩,r,ups,d,d2,e⟩:=h;exact⟨hok,a,trivial,b,c,r,ups,d,d2,AK l _ _ True trivial e⟩
theorem oR(h:Ev P gl N l.toArray (fun fr st=>BE .normal (Fr.only keep fr) st) l fr st):F4 P gl N n0 keep (.region id l.toArray false) BE fr st:=
 i3s (AK _ _ _ _ trivial h)
def Then(P:Program)(gl:Gl)(N n0:Nat)(keep:List Nat)(c:Code)(BE:AQ)(fr:Fr)(st:St):Prop:=F4 P gl N n0 keep c BE (Fr.only keep fr) st
theorem then_eq:Then P gl N n0 keep c BE fr st=F4 P gl N n0 keep c BE (Fr.only keep fr) st:=rfl
@[congr] theorem p5k{fr:Fr}{st:St}(h:fr=fr')(X:st=st'):Ev P gl N ops yo l fr st=Ev P gl N ops yo l fr' st':=by rw[h,X]
@[congr] theorem p5l{dst:Option Nat}{k:Fr->St->Prop}{r':LR}(h:r=r'):rX N dst fr st k r=rX N dst fr st k r':=by rw[h]
@[congr] theorem p5m{fr:Fr}{st:St}(h:fr=fr')(X:st=st'):F4 P gl N n0 keep c BE fr st=F4 P gl N n0 keep c BE fr' st':=by rw[h,X]
@[congr] theorem p5n{args':List D}{st:St}(h:args=args')(X:st=st'):Spec P gl f args st R=Spec P gl f args' st' R:=by rw[h,X]
def rsD(P:Program)(fr:Fr)(st:St):List ResultVar->D
 | [r]=>(kU P st fr r).d
 |B=>.E8 (B.map fun r=>(kU P st fr r).d)
def Jt(P:Program)(fr:Fr)(st:St):List ResultVar->Prop
 | []=>True
 |r::l=>(kU P st fr r).ok/\Jt P fr st l
def ends(n0:Nat)(R:D->St->Prop)(d:D)(st:St):Prop:=∃s t,st=s++t/\n0<=s.length/\D.sc s.length d/\Q8 s.length s/\R d s
theorem d0I{fr:Fr}{st:St}:∀(B:List ResultVar),Jt P fr st B->∀r∈B,(kU P st fr r).ok
 |r::l,h,x,A=>by
  rcases ce.1 A with e|e
  ·subst e;exact h.1
  ·exact d0I l h.2 x e
variable {dst:Option Nat} {k:Fr->St->Prop} {p:Prop} {d:D} {rd:List Nat} {o:Nat} {ob:Ob} {G:Bool} {yo:Fr->St->Prop} {op:Op} {l:List Oper}
@[congr] theorem p5o{args':List D}(h:args=args'):AG P gl G dst fr st k f args=AG P gl G dst fr st k f args':=by rw[h]
theorem p5p:Ev P gl N ops yo [] fr st=yo fr st:=rfl
theorem p5q{o:Oper}{l':List Oper}:Ev P gl N ops yo (r9 (o::l) l') fr st=Ev P gl N ops yo (o::r9 l l') fr st:=rfl
theorem p5r{l':List Oper}:Ev P gl N ops yo (r9 [] l') fr st=Ev P gl N ops yo l' fr st:=rfl
theorem p5s:Ev P gl N ops yo (⟨dst,op,ty,pos,af,none⟩::l) fr st=AH P gl N (Ev P gl N ops yo l) dst op fr st (dD op):=rfl
theorem p5t{j:Nat}:Ev P gl N ops yo (⟨dst,op,ty,pos,af,some (j,want)⟩::l) fr st=AJ P gl N (Ev P gl N ops yo l) dst op fr st (dD op) (rY fr want (gslot ops j)):=rfl
theorem p5u:AH P gl N k dst op fr st 0=rX N dst fr st k (G2 P gl true op fr (look st) 0):=rfl
theorem p5v:AH P gl N k dst op fr st 1=rX N dst fr st k (G2 P gl true op fr (look (st++[some .resv])) st.length):=rfl
theorem p5w{f:Operand}{args:Array Operand}{dF:Array TypeId}:AH P gl N k dst (.call ⟨.value f,args,dF⟩) fr st 2=Jq P gl N dst fr st k (K5 gl true fr f/\(∀x∈args.toList,K5 gl true fr x)) (F2 gl fr f) (args.toList.map (F2 gl fr)):=rfl
theorem p5x:AJ P gl N k dst op fr st 0 (some G)=Qs N G dst fr st k (G2 P gl G op fr (look st) 0):=rfl
theorem p5y{f:Operand}{args:Array Operand}{dF:Array TypeId}:AJ P gl N k dst (.call ⟨.value f,args,dF⟩) fr st 2 (some G)=Jr P gl N G dst fr st k (K5 gl G fr f/\(∀x∈args.toList,K5 gl G fr x)) (F2 gl fr f) (args.toList.map (F2 gl fr)):=rfl
theorem p5z:rY fr want (some t)=El want (fr.get t):=rfl
theorem p5A:El want (.bool b)=some (b==want):=rfl
theorem p5B{c:Bool}:El want (.cond c (.bool b))=some (c&&(b==want)):=rfl
theorem p5C:rX N dst fr st k ⟨d,p,rd,none,none⟩=(p/\eJ N dst/\k (fr.U3 dst d) st):=rfl
theorem p5D:rX N dst fr st k ⟨d,p,rd,some (o,ob),none⟩=(p/\eJ N dst/\k (fr.U3 dst d) (st.set o (some ob))):=rfl
theorem p5E:rX N dst fr st k ⟨d,p,rd,none,some ob⟩=(p/\eJ N dst/\k (fr.U3 dst d) (st++[some ob])):=rfl
theorem p5F:Qs N G dst fr st k ⟨d,p,rd,none,none⟩=(L1 G p/\eJ N dst/\k (fr.U3 dst (.cond G d)) st):=by cases G<;>rfl
theorem p5G{g:FuncId}:Jq P gl N dst fr st k p (.fn g first cap) args=(eJ N dst/\p/\Spec P gl g (first++args++cap) st fun d st'=>k (fr.U3 dst d) st'):=rfl
theorem p5H{g:FuncId}:Jr P gl N G dst fr st k p (.fn g first cap) args=(eJ N dst/\p/\AG P gl G dst fr st k g (first++args++cap)):=rfl
theorem gi{r:D}(h:G=true->Pure P gl f args r)(S:k (fr.U3 dst (.cond G r)) st):
 AG P gl G dst fr st k f args:=
 ⟨r,[],fun e=>h e st,fun _=>rfl,S⟩
theorem p5I:eJ N (some t)=(t<N):=rfl
theorem p5J:eJ N none=True:=rfl
theorem p5K{up:Option (Nat×Ob)}{nw:Option Ob}{q:Prop}:(LR.mk d p rd up nw).and q=⟨d,q/\p,rd,up,nw⟩:=rfl
variable {keep:List Nat}
theorem get_nil:Fr.get [] t= .any:=rfl
theorem p5L{fr:Fr}:Fr.get ((k',d)::fr) t=if k'=t then d else Fr.get fr t:=rfl
theorem p5M:Fr.put [] t d=[(t,d)]:=rfl
theorem p5N{e:D}{fr:Fr}:Fr.put ((k',e)::fr) t d=if k'=t then(k',d)::fr else(k',e)::Fr.put fr t d:=rfl
theorem p5O:Fr.U3 fr (some t) d=fr.put t d:=rfl
theorem p5P:Fr.U3 fr none d=fr:=rfl
theorem p5Q:Fr.only keep []=[]:=rfl
theorem p5R{fr:Fr}:Fr.only keep ((t,d)::fr)=if keep.contains t then(t,d)::Fr.only keep fr else Fr.only keep fr:=rfl
theorem P5{t:St}:look (s++t) (s.length+k')=look t k':=by unfold look;rw[c8 M];congr 2;omega
theorem uN{t:St}:look (s++t) s.length=look t 0:=by unfold look;rw[c8 M];simp
theorem p5S{x:Option Ob}{t:St}:look (x::t) 0=x:=by cases x<;>rfl
theorem p5T{x:Option Ob}{t:St}:look (x::t) (k'+1)=look t k':=rfl
theorem i3x{t:St}{x:Option Ob}:(s++t).set (s.length+k') x=s++t.set k' x:=by grind
theorem p5U{t:St}{x:Option Ob}:(s++t).set s.length x=s++t.set 0 x:=by grind
theorem p5V:D.one (.bool b)=true:=rfl
theorem p5W{k:IntKind}{n:Int}:D.one (.int k n)=true:=rfl
theorem p5X{s:J}:D.one (.str s)=true:=rfl
theorem p5Y:D.one .Z6=true:=rfl
theorem p5Z:D.one .A9=true:=rfl
theorem p6a:D.one .Q7=true:=rfl
theorem p6b:D.one .S8=true:=rfl
theorem p6c{f:Bool}{b:Nat}{es:List (List D)}:D.one (.sl f n b es)=true:=rfl
theorem p6d{f:Nat}{a b:List D}:D.one (.fn f a b)=true:=rfl
theorem p6e:D.one (.bR cs)=true:=rfl
theorem p6f{f:Bool}{g a b:Nat}:D.one (.ref f o g a b)=true:=rfl
theorem p6g{g i c:Nat}:D.one (.ptr o g i c)=true:=rfl
theorem p6h:D.one (.mp o)=true:=rfl
theorem p6i:D.one (.it o)=true:=rfl
theorem p6j:D.one (.agg cs)=false:=rfl
theorem p6k:oF true cs= .agg cs:=rfl
theorem p6l:oF false (x::cs)=x:=rfl
end
attribute [go_sem] p5q p5r p5p p5s p5t p5u p5v p5w p5x p5y p5z p5A p5B p5C p5D p5E p5F p5G p5H p5I p5J p5K then_eq dD G2 F2 ev K5 strip PS get_nil p5L p5M p5N p5O p5P p5Q p5R P5 uN p5S p5T i3x p5U uM DR rG rH IG rI uj jU lZ oJ ur PO IQ nG oK rS oQ nH nI cD gQ ux qt qu uy cS qv uD uE xM uI D.plain cellsOf oG splice DW IJ IK IL rM oL uz xOk DY xJ nz Ao assoc I4 kO uw bn D7 jz p6k p6l p5V p5W p5X p5Y p5Z p6a p6b p6c p6d p6e p6f p6g p6h p6i p6j Ax elemOf Aw keyOf strOf Pk TK.agg AQ.then AQ.block kU rsD Jt IntKind.signed eq_self true_and and_true and_self implies_true forall_const List.map_cons List.map_nil List.length_cons List.length_nil List.take_succ_cons List.take_zero List.drop_succ_cons List.drop_zero p5g List.cons_append List.nil_append List.append_nil List.all_cons List.all_nil Bool.and_self Bool.and_true Bool.true_and Bool.and_false Bool.false_and List.getD_cons_zero List.getD_cons_succ List.getD_nil List.set_cons_zero List.set_cons_succ List.getElem?_cons_zero List.getElem?_cons_succ ne_eq not_false_eq_true Bool.false_eq_true if_true if_false cond_true cond_false List.mem_cons List.not_mem_nil or_false forall_eq forall_eq_or_imp List.append_assoc List.length_append List.replicate_zero List.replicate_succ not_true_eq_false beq_self_eq_true Bool.not_true Bool.not_false List.contains_cons List.contains_nil Bool.or_true Bool.true_or Bool.or_false Bool.false_or
section
variable {P:Program} {gl:Gl} {fr fr':Fr} {lk ft:Look} {q:Nat} {g:Bool} {op:Op}
theorem i3y(xv:∀x∈op.operands,ev gl fr x=ev gl fr' x):G2 P gl g op fr lk q=G2 P gl g op fr' lk q:=by
 have H1:∀x∈op.operands,F2 gl fr x=F2 gl fr' x:=fun x h=>by simp only[F2,xv x h]
 have H2:∀g x,x∈op.operands->K5 gl g fr x=K5 gl g fr' x:=fun g x h=>by simp only[K5,xv x h]
 cases op with
 |pick c a b=>have k1:=H1 c (by simp[df]);have k2:=H1 a (by simp[df]);have k3:=H1 b (by simp[df]);simp only[G2,k1,k2,k3,fun g=>H2 g c (by simp[df]),fun g=>H2 g a (by simp[df]),fun g=>H2 g b (by simp[df])]
 |build t ps=>
  have U:(ps.toList.map fun p=>(p.1,F2 gl fr p.2))=ps.toList.map fun p=>(p.1,F2 gl fr' p.2):=e8 fun p hp=>by rw[H1 p.2 (by simp only[df,k9,bj];exact⟨p,hp,rfl⟩)]
  have X:(∀p∈ps.toList,K5 gl g fr p.2)= ∀p∈ps.toList,K5 gl g fr' p.2:=forall_congr fun p=>propext ⟨fun h hp=>by rw[<-H2 g p.2 (by simp only[df,k9,bj];exact⟨p,hp,rfl⟩)];exact h hp,fun h hp=>by rw[H2 g p.2 (by simp only[df,k9,bj];exact⟨p,hp,rfl⟩)];exact h hp⟩;simp only[G2,U,X]
 |buildSlice t len ps=>
  have U:(ps.toList.map fun p=>(p.1,F2 gl fr p.2))=ps.toList.map fun p=>(p.1,F2 gl fr' p.2):=e8 fun p hp=>by rw[H1 p.2 (by simp only[df,k9,bj];exact⟨p,hp,rfl⟩)]
  have X:(∀p∈ps.toList,K5 gl g fr p.2)= ∀p∈ps.toList,K5 gl g fr' p.2:=forall_congr fun p=>propext ⟨fun h hp=>by rw[<-H2 g p.2 (by simp only[df,k9,bj];exact⟨p,hp,rfl⟩)];exact h hp,fun h hp=>by rw[H2 g p.2 (by simp only[df,k9,bj];exact⟨p,hp,rfl⟩)];exact h hp⟩;simp only[G2,U,X]
 |makeFunc f a b=>
  cases f with
  |func f=>
   have U:∀c:Array Operand,(∀x∈c.toList,x∈(vt (.func f) a b).operands)->c.toList.map (F2 gl fr)=c.toList.map (F2 gl fr'):=fun c K=>e8 fun x A=>H1 x (K x A);have X:∀c:Array Operand,(∀x∈c.toList,x∈(vt (.func f) a b).operands)->(∀x∈c.toList,K5 gl g fr x)= ∀x∈c.toList,K5 gl g fr' x:=fun c K=>forall_congr fun x=>propext ⟨fun h A=>by rw[<-H2 g x (K x A)];exact h A,fun h A=>by rw[H2 g x (K x A)];exact h A⟩
   have ha:∀x∈a.toList,x∈(vt (.func f) a b).operands:=fun x A=>by simp only[df,A6];exact .inl (by simpa using A)
   have H:∀x∈b.toList,x∈(vt (.func f) a b).operands:=fun x A=>by simp only[df,A6];exact .inr (by simpa using A)
   simp only[G2,U a ha,U b H,X a ha,X b H]
  | _=>rfl
 |makeMap t r=>cases r<;>rfl
 |slice t x lo u mx=>
  have A:=H1 x (by simp[df]);have V3:=H2 g x (by simp[df]);have key:∀z:Option Operand,(∀y∈z,y∈(Op.slice t x lo u mx).operands)->z.map (F2 gl fr)=z.map (F2 gl fr')/\(∀y∈z,K5 gl g fr y)= ∀y∈z,K5 gl g fr' y:=fun z hz=>by
   cases z with
   |none=>simp
   |some y=>grind
  have⟨I,a2⟩:=key lo (fun y hy=>by cases hy;simp[df]);have⟨b1,b2⟩:=key u (fun y hy=>by cases hy;simp[df]);have⟨c1,c2⟩:=key mx (fun y hy=>by cases hy;simp[df]);simp only[G2,A,V3,I,a2,b1,b2,c1,c2]
 |call c=>
  have⟨callee,args,dF⟩:=c;cases callee with
  |value f=>rfl
  |invoke r m=>rfl
  |builtin b=>
   have U:∀x∈args.toList,F2 gl fr x=F2 gl fr' x:=fun x A=>H1 x (by simp only[df,q6];simpa using A);have X:∀x∈args.toList,K5 gl g fr x=K5 gl g fr' x:=fun x A=>H2 g x (by simp only[df,q6];simpa using A);simp only[G2];generalize args.toList=l at U X;split
   ·grind
   ·grind
   ·grind
   ·grind
   ·grind
   ·rfl
 | _=>first|rfl|(simp only[df,k9,ce,uB,or_false,forall_eq_or_imp,forall_eq]at H1 H2;simp only[G2,H1,H2 g])
end
def D.top:D->Option Nat
 | .ref _ o _ _ _=>some o
 | .ptr o _ _ _=>some o
 | .mp o=>some o
 | .it o=>some o
 | _=>none
def Loc(f:Look->LR)(ds:List D):Prop:=
 ∀lk,(f lk).ok->(∀o∈(f lk).rd,(∃d∈ds,d.top=some o)/\∃ob,lk o=some ob/\ob≠ .resv)/\∀ft,(∀o∈(f lk).rd,ft o=lk o)->f ft=f lk
theorem cT(h:r.rd=[]):Loc (fun _=>r) ds:=fun _ _=>⟨fun o ho=>(by simp only at ho;rw[h]at ho;cases ho),fun _ _=>rfl⟩
theorem Loc.and{f:Look->LR}(h:Loc f ds)(p:Prop):Loc (fun lk=>(f lk).and p) ds:=fun lk hok=>⟨(h lk hok.2).1,fun ft h'=>by show(f ft).and p=(f lk).and p;rw[(h lk hok.2).2 ft h']⟩
theorem Loc.sub{f:Look->LR}{ds':List D}(h:Loc f ds)(hd:∀d∈ds,d∈ds'):Loc f ds':=fun lk hok=>⟨fun o ho=>by have⟨⟨d,U,X⟩,h3⟩:=(h lk hok).1 o ho;exact⟨⟨d,hd d U,X⟩,h3⟩,(h lk hok).2⟩
section
variable {i e:TI} {d x key:D} {n q:Nat}
theorem d0J:Loc (fun lk=>rG i lk d) [d]:=fun lk hok=>by
 cases d with
 |ptr o g k c=>
  simp only[rG]at hok⊢;cases h:lk o with
  |none=>rw[h]at hok;exact hok.elim
  |some ob=>
   rw[h]at hok;cases ob with
   |arr g' n' b es=>simp only[ao,forall_eq];exact⟨⟨⟨_,rfl,rfl⟩,_,h,Ob.noConfusion⟩,fun ft h'=>by rw[h',h]⟩
   | _=>exact hok.elim
 |bR cs=>exact⟨fun o ho=>(by cases ho),fun _ _=>rfl⟩
 | _=>exact hok.elim
theorem d0K:Loc (fun lk=>rH i lk x d) [d]:=fun lk hok=>by
 cases d with
 |ptr o g k c=>
  simp only[rH]at hok⊢;cases h:lk o with
  |none=>rw[h]at hok;exact hok.elim
  |some ob=>
   rw[h]at hok;cases ob with
   |arr g' n' b es=>simp only[ao,forall_eq];exact⟨⟨⟨_,rfl,rfl⟩,_,h,Ob.noConfusion⟩,fun ft h'=>by rw[h',h]⟩
   | _=>exact hok.elim
 | _=>exact hok.elim
theorem d0L:Loc (fun lk=>jU i e lk x y) [x]:=fun lk hok=>by
 cases y with
 |int kk m=>
  simp only[jU]at hok⊢;generalize i.k=ik at hok⊢;cases ik with
  |slice e=>
   cases x with
   |ref full o g off len=>
    simp only at hok⊢;cases h:lk o with
    |none=>rw[h]at hok;exact hok.elim
    |some ob=>
     rw[h]at hok;cases ob with
     |arr g' n' b es=>simp only[ao,forall_eq];exact⟨⟨⟨_,rfl,rfl⟩,_,h,Ob.noConfusion⟩,fun ft h'=>by rw[h',h]⟩
     | _=>exact hok.elim
   |sl full n' b es=>grind
   | _=>exact hok.elim
  |arr len e=>
   cases x with
   |ptr o g k c=>grind
   |bR cs=>grind
   | _=>exact hok.elim
  | _=>exact hok.elim
 | _=>exact hok.elim
theorem d0M{lo u mx:Option D}:Loc (fun lk=>oJ i n lk x lo u mx) [x]:=fun lk hok=>by
 cases x with
 |ref full o g off len=>
  simp only[oJ]at hok⊢;cases h:lk o with
  |none=>rw[h]at hok;exact hok.elim
  |some ob=>
   rw[h]at hok;cases ob with
   |arr g' n' b es=>simp only[ao,forall_eq];exact⟨⟨⟨_,rfl,rfl⟩,_,h,Ob.noConfusion⟩,fun ft h'=>by rw[h',h]⟩
   | _=>exact hok.elim
 |str s=>exact⟨fun o ho=>(by cases ho),fun _ _=>rfl⟩
 |sl full n' b es=>exact⟨fun o ho=>(by cases ho),fun _ _=>rfl⟩
 |A9=>exact⟨fun o ho=>(by cases ho),fun _ _=>rfl⟩
 | _=>exact hok.elim
theorem d0N{ki vi:TI}{c:Bool}:Loc (fun lk=>nH i ki vi lk c key d) [d]:=fun lk hok=>by
 cases d with
 |S8=>simp only[nH]at hok⊢;cases key<;>first|(exact hok.elim)|exact⟨fun o ho=>(by cases ho),fun _ _=>by first|rfl|trivial|simp⟩
 |mp o=>
  simp only[nH]at hok⊢;cases h:lk o with
  |none=>rw[h]at hok;exact hok.elim
  |some ob=>
   rw[h]at hok;cases ob<;>first|(exact hok.elim)|skip
   all_goals
    cases key<;>first|(exact hok.elim)|skip
    simp only[ao,forall_eq]
    exact⟨⟨⟨_,rfl,rfl⟩,_,h,Ob.noConfusion⟩,fun ft h'=>by rw[h',h]⟩
 | _=>exact hok.elim
theorem d0O:Loc (fun lk=>oQ lk b d) [d]:=fun lk hok=>by
 cases b with
 |false=>exact hok.elim
 |true=>
  cases d with
  |it o=>
   simp only[oQ]at hok⊢;cases h:lk o with
   |none=>rw[h]at hok;exact hok.elim
   |some ob=>
    rw[h]at hok;cases ob<;>first|(exact hok.elim)|skip
    all_goals
     simp only[ao,forall_eq]
     exact⟨⟨⟨_,rfl,rfl⟩,_,h,Ob.noConfusion⟩,fun ft h'=>by rw[h',h]⟩
  | _=>exact hok.elim
theorem Ju{ki vi:TI}:Loc (fun lk=>nI i ki vi lk key x d) [d]:=fun lk hok=>by
 cases d with
 |mp o=>
  simp only[nI]at hok⊢;cases h:lk o with
  |none=>rw[h]at hok;exact hok.elim
  |some ob=>
   rw[h]at hok;cases ob<;>first|(exact hok.elim)|skip
   all_goals
    cases key<;>first|(exact hok.elim)|skip
    simp only[ao,forall_eq]
    exact⟨⟨⟨_,rfl,rfl⟩,_,h,Ob.noConfusion⟩,fun ft h'=>by rw[h',h]⟩
 | _=>exact hok.elim
theorem d0P:Loc (fun lk=>qv i lk d) [d]:=fun lk hok=>by
 cases d with
 |ref full o g off len=>
  simp only[qv]at hok⊢;cases h:lk o with
  |none=>rw[h]at hok;exact hok.elim
  |some ob=>
   rw[h]at hok;cases ob with
   |arr g' n' b es=>simp only[ao,forall_eq];exact⟨⟨⟨_,rfl,rfl⟩,_,h,Ob.noConfusion⟩,fun ft h'=>by rw[h',h]⟩
   | _=>exact hok.elim
 |mp o=>
  simp only[qv]at hok⊢;cases h:lk o with
  |none=>rw[h]at hok;exact hok.elim
  |some ob=>
   rw[h]at hok;cases ob<;>first|(exact hok.elim)|skip
   all_goals
    simp only[ao,forall_eq]
    exact⟨⟨⟨_,rfl,rfl⟩,_,h,Ob.noConfusion⟩,fun ft h'=>by rw[h',h]⟩
 |str s=>exact⟨fun o ho=>(by cases ho),fun _ _=>rfl⟩
 |sl full n' b es=>exact⟨fun o ho=>(by cases ho),fun _ _=>rfl⟩
 |A9=>exact⟨fun o ho=>(by cases ho),fun _ _=>rfl⟩
 |S8=>exact⟨fun o ho=>(by cases ho),fun _ _=>rfl⟩
 | _=>exact hok.elim
theorem i3z{lk:Look}{news:List (List D)}(h:oL lk e x=some news):(∀o∈uz x,x.top=some o/\∃ob,lk o=some ob/\ob≠ .resv)/\∀ft,(∀o∈uz x,ft o=lk o)->oL ft e x=some news:=by
 cases x with
 |ref full o g off len=>
  simp only[oL]at h;simp only[uz,ao,forall_eq];cases hl:lk o with
  |none=>rw[hl]at h;cases h
  |some ob=>
   rw[hl]at h;cases ob with
   |arr g' n' b es=>exact⟨⟨rfl,_,rfl,Ob.noConfusion⟩,fun ft h'=>by simp only[oL,h'];exact h⟩
   | _=>cases h
 | _=>exact⟨fun o ho=>(by cases ho),fun _ _=>h⟩
theorem d0Q{s:D}:Loc (fun lk=>cS i e xk lk s x q) [s,x]:=fun lk hok=>by
 simp only[cS]at hok⊢;cases hn:oL lk e x with
 |none=>rw[hn]at hok;exact hok.elim
 |some news=>
  rw[hn]at hok;have⟨n1,n2⟩:=i3z hn;have A:∀o∈uz x,(∃d∈ [s,x],d.top=some o)/\∃ob,lk o=some ob/\ob≠ .resv:=fun o ho=>⟨⟨x,by simp,(n1 o ho).1⟩,(n1 o ho).2⟩;cases s with
  |A9=>grind
  |sl full n' b es=>
   cases full with
   |true=>grind
   |false=>exact hok.elim
  |ref full o g off len=>
   cases full<;>
   ·simp only at hok⊢;cases hl:lk o with
    |none=>rw[hl]at hok;exact hok.elim
    |some ob=>
     rw[hl]at hok;cases ob with
     |arr g' n' b es=>simp only[ce,forall_eq_or_imp];exact⟨⟨⟨⟨_,.inl rfl,rfl⟩,_,hl,Ob.noConfusion⟩,fun o ho=>by simpa using A o ho⟩,fun ft h'=>by simp only[n2 ft h'.2,h'.1,hl]⟩
     | _=>exact hok.elim
  | _=>exact hok.elim
theorem Qt{parts:List (Nat×D)}:(ur i e parts).rd=[]:=by unfold ur;split<;>rfl
theorem Qu{f:Nat}:(uj i f x).rd=[]:=by unfold uj;(repeat' split)<;>rfl
theorem Qv{f:Nat}:(rI i f x).rd=[]:=by unfold rI;(repeat' split)<;>rfl
theorem Qw:(lZ i e x y).rd=[]:=by unfold lZ;(repeat' split)<;>rfl
theorem Qx{o:BinOp}:(cD o x y).rd=[]:=by
 unfold cD;split
 ·split<;>first|rfl|skip
  split<;>first|rfl|skip
  split<;>first|rfl
 ·split<;>rfl
 ·rfl
theorem Qy{fl:Option (List Nat)}:(gQ i fl b x y).rd=[]:=by unfold gQ;(repeat' split)<;>rfl
theorem Qz{o:UnOp}:(ux o x).rd=[]:=by
 unfold ux;split
 ·rfl
 ·rfl
 ·rfl
theorem QA:(qu x).rd=[]:=by unfold qu;(repeat' split)<;>rfl
theorem QB{e2:TI}:(qt i e e2 x).rd=[]:=by unfold qt;(repeat' split)<;>rfl
theorem QC{ix:Nat}:(uy ix x).rd=[]:=by unfold uy;(repeat' split)<;>rfl
theorem QD:(xM i x).rd=[]:=by unfold xM;split<;>rfl
theorem QE:(uD x y).rd=[]:=by unfold uD;split<;>rfl
theorem QF:(uE x y).rd=[]:=by unfold uE;split<;>rfl
theorem QG{z:D}:(uI x y z).rd=[]:=by unfold uI;split<;>rfl
theorem QH:(rS i q x).rd=[]:=by unfold rS;split<;>rfl
theorem QI:(oK i e b q).rd=[]:=by unfold oK;(repeat' split)<;>rfl
theorem QJ:(nG i e x y q).rd=[]:=by unfold nG;split<;>rfl
end
theorem d0R{gl:Gl}{fr:Fr}:Loc (fun lk=>G2 P gl g op fr lk q) (op.operands.toList.map (F2 gl fr)):=by
 have mem:∀x,x∈op.operands.toList->F2 gl fr x∈op.operands.toList.map (F2 gl fr):=fun x A=>bj.2 ⟨x,A,rfl⟩;have one:∀ {f:Look->LR} {x:Operand},x∈op.operands.toList->Loc f [F2 gl fr x]->Loc f (op.operands.toList.map (F2 gl fr)):=fun A h=>h.sub fun d hd=>by grind
 cases op with
 |load t a=>exact one (by simp[df]) (d0J.and _)
 |store t a x=>exact one (x:=a) (by simp[df]) (d0K.and _)
 |indexAddr t x y=>exact one (x:=x) (by simp[df]) (d0L.and _)
 |slice t x lo u mx=>exact one (x:=x) (by simp[df]) (d0M.and _)
 |lookup t m k c=>exact one (x:=m) (by simp[df]) (d0N.and _)
 |mapUpdate t m k x=>exact one (x:=m) (by simp[df]) (Ju.and _)
 |insert t m k x=>exact one (x:=m) (by simp[df]) (Ju.and _)
 |call c=>
  have⟨callee,args,dF⟩:=c;cases callee with
  |value f=>exact cT rfl
  |invoke r m=>exact cT rfl
  |builtin b=>
   have hmem:∀x,x∈args.toList->x∈(Op.call ⟨.builtin b,args,dF⟩).operands.toList:=fun x A=>by simp only[df,q6];simpa using A
   simp only[G2];generalize hl:args.toList=l at hmem;split
   ·exact one (hmem _ B5) (d0P.and _)
   ·rename_i s x t C' _;exact(d0Q.and _).sub fun d hd=>by grind
   ·exact(cT QE).and _
   ·exact(cT QF).and _
   ·exact(cT QD).and _
   ·exact cT rfl
 |pick c a b=>exact(cT QG).and _
 |box t x=>exact(cT rfl).and _
 |build t ps=>exact(cT Qt).and _
 |buildSlice t len ps=>simp only[G2];cases gl.M7 t<;>exact(cT rfl).and _
 |binOp o t x y C'=>simp only[G2];split<;>first|exact(cT Qy).and _|exact(cT Qx).and _
 |unOp o t x=>exact(cT Qz).and _
 |nilCheck x=>exact(cT QA).and _
 |convert s t x=>exact(cT QB).and _
 |makeFunc f a b=>cases f<;>exact cT rfl
 |makeMap t r=>cases r with
  |none=>exact cT QI
  |some r=>exact cT rfl
 |makeSlice t l c=>exact(cT QJ).and _
 |range t x=>exact(cT QH).and _
 |next x b=>exact one (x:=x) (by simp[df]) (d0O.and _)
 |fieldAddr t x f=>exact(cT Qv).and _
 |field t x f=>exact(cT Qu).and _
 |index t x y=>exact(cT Qw).and _
 |extract x j=>exact(cT QC).and _
 | _=>exact cT rfl
section
variable {P:Program} {gl:Gl} {fr fr':Fr} {q:Nat} {g:Bool} {op:Op} {lk:Look}
theorem rZ{f:Look->LR}(h:Loc f [d])(hok:(f lk).ok)(ho:o∈(f lk).rd):d.top=some o:=by have⟨⟨e,U,X⟩,_⟩:=(h lk hok).1 o ho;rw[ao]at U;subst U;exact X
theorem i3A(hok:(G2 P gl g op fr lk q).ok)(ho:o∈(G2 P gl g op fr lk q).rd):∃x∈op.operands.toList,K5 gl g fr x/\(F2 gl fr x).top=some o:=by
 have none:∀ {r:LR},r.rd=[]->o∈r.rd->∃x∈op.operands.toList,K5 gl g fr x/\(F2 gl fr x).top=some o:=fun h ho=>by rw[h]at ho;cases ho
 cases op with
 |load t a=>exact⟨a,by simp[df],hok.1.1,rZ d0J hok.2 ho⟩
 |store t a x=>exact⟨a,by simp[df],hok.1.1,rZ (d0K) hok.2 ho⟩
 |indexAddr t x y=>exact⟨x,by simp[df],hok.1.1,rZ (d0L) hok.2 ho⟩
 |slice t x lo u mx=>exact⟨x,by simp[df],hok.1.1,rZ (d0M) hok.2 ho⟩
 |lookup t m k c=>exact⟨m,by simp[df],hok.1.1,rZ (d0N) hok.2 ho⟩
 |mapUpdate t m k x=>exact⟨m,by simp[df],hok.1.1,rZ (Ju) hok.2 ho⟩
 |insert t m k x=>exact⟨m,by simp[df],hok.1.1,rZ (Ju) hok.2 ho⟩
 |next x b=>exact⟨x,by simp[df],hok.1,rZ (d0O) hok.2 ho⟩
 |range t x=>exact none QH ho
 |call c=>
  have⟨callee,args,dF⟩:=c;cases callee with
  |value f=>cases ho
  |invoke r m=>cases ho
  |builtin b=>
   have hmem:∀x,x∈args.toList->x∈(Op.call ⟨.builtin b,args,dF⟩).operands.toList:=fun x A=>by simp only[df,q6];simpa using A
   simp only[G2]at hok ho;generalize args.toList=l at hmem hok ho;revert hok ho;split<;>intro hok ho
   ·exact⟨_,hmem _ B5,hok.1,rZ d0P hok.2 ho⟩
   ·have⟨⟨d,U,X⟩,_⟩:=(d0Q _ hok.2).1 o ho;simp only[ce,uB,or_false]at U;rcases U with rfl|rfl
    ·exact⟨_,hmem _ B5,hok.1.1,X⟩
    ·exact⟨_,hmem _ B5,hok.1.2,X⟩
   ·exact none QE ho
   ·exact none QF ho
   ·exact none QD ho
   ·cases ho
 |pick c a b=>exact none QG ho
 |box t x=>cases ho
 |build t ps=>exact none Qt ho
 |buildSlice t len ps=>revert ho;simp only[G2];cases gl.M7 t<;>(intro ho;cases ho)
 |binOp o' t x y C'=>simp only[G2]at ho;split at ho<;>first|exact none Qy ho|exact none Qx ho
 |unOp o t x=>exact none Qz ho
 |nilCheck x=>exact none QA ho
 |convert s t x=>exact none QB ho
 |makeFunc f a b=>cases f<;>cases ho
 |makeMap t r=>cases r with
  |none=>exact none QI ho
  |some r=>cases ho
 |makeSlice t l c=>exact none QJ ho
 |fieldAddr t x f=>exact none Qv ho
 |field t x f=>exact none Qu ho
 |index t x y=>exact none Qw ho
 |extract x j=>exact none QC ho
 | _=>cases ho
theorem VR.d0S{st:St}(h:VR w μ st v d)(F:d.top=some o):st[o]? ≠some (some .resv):=by
 cases h with
 |tr h=>cases h<;>cases F
 |ref=>cases F;assumption
 |ptr=>cases F;assumption
 |mp=>cases F;assumption
 |it=>cases F;assumption
 | _=>cases F
def kV(r:LR):Prop:=∀o ob,r.up=some (o,ob)->o∈r.rd
theorem iz(h:r.up=none):kV r:=fun o ob e=>by rw[h]at e;cases e
theorem ke(h:r.still):kV (r.and p):=iz (by simp only[LR.and];exact h.1)
theorem Jv:kV (G2 P gl g op fr lk q):=by
 cases op with
 |store t a x=>
  refine fun o ob e=>?_;simp only[G2,LR.and,rH]at e⊢;revert e;cases F2 gl fr a<;>try (intro e;cases e;done)
  rename_i o' g' k c;simp only;cases lk o' with
  |none=>intro e;cases e
  |some ob'=>cases ob'<;>(intro e;cases e)<;>simp
 |mapUpdate t m k x=>
  refine fun o ob e=>?_;simp only[G2,LR.and,nI]at e⊢;revert e;cases F2 gl fr m<;>try (intro e;cases e;done)
  rename_i o';simp only;cases lk o' with
  |none=>intro e;cases e
  |some ob'=>cases ob'<;>try (intro e;cases e;done)
             all_goals (cases F2 gl fr k<;>(intro e;cases e)<;>simp)
 |insert t m k x=>
  refine fun o ob e=>?_;simp only[G2,LR.and,nI]at e⊢;revert e;cases F2 gl fr m<;>try (intro e;cases e;done)
  rename_i o';simp only;cases lk o' with
  |none=>intro e;cases e
  |some ob'=>cases ob'<;>try (intro e;cases e;done)
             all_goals (cases F2 gl fr k<;>(intro e;cases e)<;>simp)
 |next x b=>
  refine fun o ob e=>?_;simp only[G2,LR.and]at e⊢;cases b with
  |false=>cases e
  |true=>
   revert e;cases F2 gl fr x<;>try (intro e;cases e;done)
   simp only[oQ];rename_i o';cases lk o' with
   |none=>intro e;cases e
   |some ob'=>cases ob'<;>(intro e;cases e)<;>simp
 |range t x=>exact iz (Qj _ _ _)
 |call c=>
  have⟨callee,args,dF⟩:=c;cases callee with
  |value f=>exact iz rfl
  |invoke r m=>exact iz rfl
  |builtin b=>
   simp only[G2];generalize args.toList=l;split
   ·refine iz ?_;simp only[LR.and];exact(Ei _ _ _).1
   ·refine fun o ob e=>?_;rename_i s x t C' _;simp only[LR.and,cS]at e⊢;revert e;cases oL lk (w8 P (elemOf (w8 P t))) (F2 gl fr x)with
    |none=>intro e;cases e
    |some news=>
     simp only;cases F2 gl fr s<;>try (intro e;cases e;done)
     ·rename_i full _ _ _;cases full<;>(intro e;cases e)
     ·rename_i full o' _ _ _;cases full<;>simp only
      ·cases lk o' with
       |none=>intro e;cases e
       |some ob'=>cases ob'<;>(intro e;cases e)<;>simp
      ·cases lk o' with
       |none=>intro e;cases e
       |some ob'=>cases ob'<;>(intro e;cases e)
   ·refine iz ?_;simp only[LR.and];exact(Jh _ _).1
   ·refine iz ?_;simp only[LR.and];exact(Ji _ _).1
   ·refine iz ?_;simp only[LR.and];exact(Ej _ _).1
   ·exact iz rfl
 |pick c a b=>exact ke (Qg _ _ _)
 |box t x=>exact iz rfl
 |build t ps=>exact ke (PZ _ _ _)
 |buildSlice t len ps=>simp only[G2];cases gl.M7 t<;>exact iz rfl
 |load t a=>exact ke (Jd _ _ _)
 |binOp o t x y C'=>simp only[G2];split<;>first|exact ke (Qb _ _ _ _ _)|exact ke (Qa _ _ _)
 |unOp o t x=>exact ke (Qc _ _)
 |nilCheck x=>exact ke (Qd _)
 |convert s t x=>exact ke (Qe _ _ _ _)
 |makeFunc f a b=>cases f<;>exact iz rfl
 |makeMap t r=>cases r with
  |none=>simp only[G2,oK];(repeat' split)<;>exact iz rfl
  |some r=>exact iz rfl
 |makeSlice t l c=>simp only[G2,nG];split<;>exact iz rfl
 |slice t x lo u mx=>exact ke (Jf _ _ _ _ _ _ _)
 |fieldAddr t x f=>exact ke (PW _ _ _)
 |field t x f=>exact ke (PX _ _ _)
 |indexAddr t x y=>exact ke (Je _ _ _ _ _)
 |index t x y=>exact ke (PY _ _ _ _)
 |lookup t m k c=>exact ke (Jg _ _ _ _ _ _ _)
 |extract x j=>exact ke (Qf _ _)
 | _=>exact iz rfl
end
