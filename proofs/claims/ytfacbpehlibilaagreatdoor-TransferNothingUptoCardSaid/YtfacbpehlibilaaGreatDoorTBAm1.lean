/-
 AM, part 16: append.
-/
import Derived.MapKept
import Derived.Test.YtfacbpehlibilaaGreatDoorTBAm0
set_option linter.unusedVariables false
set_option linter.unusedSimpArgs false
namespace Go.Am
open Go
theorem ZU{P:Program}(w:World)(t u ty e:TypeId)(i:TypeInfo)(z:Value)(d:TypeDesc)(ht:P.underlying t=some (.slice e))(hu:P.underlying u=some d)(hd:∀k,d≠ .int k)(hi:P.info? e=some i)(hz:i.zero=some z)
 (base:Option Addr) (sLen sCap n:Nat) (x:Value) (i0e xs:Array Value) (hlen:∀w,(Builtin.lenOf x).run P w= .ok n w)
 (hfo:(Builtin.firstCells i.size sLen (.slice base sLen sCap)).run P w.drew= .ok i0e w.drew) (hf:(Builtin.firstCells i.size n x).run P w.drew= .ok xs w.drew)
 (hg:sCap<sLen+n) (h63:sLen+n≤top) (hfit:(sLen+n)*i.bytes≤top):
 (Builtin.append_ #[t,u] ty #[.slice base sLen sCap,x]).run P w=
  .ok (.slice (some ⟨w.heap.size,0,none⟩) (sLen+n) (grownCap w (sLen+n) sCap e))
   (w.drew.alloc (.cells (i0e++xs++Builtin.zeroCells z.cells (grownCap w (sLen+n) sCap e-(sLen+n))) e)):=by
 have hn:¬(sLen+n≤sCap):=by omega
 have t1:top=140737488355328:=rfl
 have h63':¬(9223372036854775807<((sLen:Int)+(n:Int))):=by omega
 have h48':¬(281474976710656<Builtin.nextslicecap (sLen+n) sCap*i.bytes):=by
  have:=growslice_fits (bytes:=i.bytes) hg (by rw[←t1];exact hfit)
  omega
 have hzb:(match d with| .int _=>true| _=>false)=false:=by cases d<;>first|rfl|exact absurd rfl (hd _)
 simp[Builtin.append_,run_underlying ht,run_underlying hu,hzb,sizeOf,typeInfo,zeroValue,hi,hz,hlen,hn,h63',h48',Question.forced,hf,hfo,newRow,grownCap]
theorem Wz{P:Program}(w w':World)(t u ty e:TypeId)(i:TypeInfo)(d:TypeDesc)(ht:P.underlying t=some (.slice e))(hu:P.underlying u=some d)(hd:∀k,d≠ .int k)(hi:P.info? e=some i)
 (base:Option Addr) (sLen sCap n:Nat) (x:Value) (xs:Array Value) (hlen:∀w,(Builtin.lenOf x).run P w= .ok n w)
 (hf:(Builtin.firstCells i.size n x).run P w= .ok xs w) (hg:sLen+n≤sCap)
 (hst:∀a,base=some a→(storeCells (a.add (sLen*i.size)) xs.toList).run P w= .ok () w') (hb:base=none→w'=w):
 (Builtin.append_ #[t,u] ty #[.slice base sLen sCap,x]).run P w= .ok (.slice base (sLen+n) sCap) w':=by
 have hzb:(match d with| .int _=>true| _=>false)=false:=by cases d<;>first|rfl|exact absurd rfl (hd _)
 cases base with
 |none=>
  have:=hb rfl;subst this
  simp[Builtin.append_,run_underlying ht,run_underlying hu,hzb,sizeOf,typeInfo,hi,hlen,hg,hf]
 |some a=>
  have h:=hst a rfl
  simp[Builtin.append_,run_underlying ht,run_underlying hu,hzb,sizeOf,typeInfo,hi,hlen,hg,hf,h]
structure d5N(P:Program)(w:World)(μ:Mu)(st:St)(size:Nat)(x:Value)(news:List (List D)):Prop where
 len:∀w,(Builtin.lenOf x).run P w= .ok news.length w
 cells:∃xs:Array Value,(∀w2:World,(∀a,w2.cell? a=w.cell? a)→(Builtin.firstCells size news.length x).run P w2= .ok xs w2)∧d1W w μ st size xs news
theorem TR.i0f{w:World}{own:Nat→Prop}{v:Value}{d:D}(h:TR w own v d):v.oneCell'=true:=by
 cases h<;>first|rfl|assumption
theorem WY{P:Program}{w:World}{μ:Mu}{st:St}{n:Nat}{a:Option Addr}{len cap:Nat}{es:List (List D)}{cv:Nat→Nat→Value}(hn:∀e∈es,e.length=n)(hlen:len=es.length)
 (ha:es=[]∨∃blk off,a=some ⟨blk,off,none⟩∧∀i j,i<es.length→j<n→w.cell? ⟨blk,off+(i*n+j),none⟩=some (cv i j))
 (hv:∀i j (hi:i<es.length) (hj:j<(es[i]).length),VR w μ st (cv i j) ((es[i])[j])∧(cv i j).oneCell'=true):
 d5N P w μ st n (.slice a len cap) es:=by
 subst hlen
 refine⟨fun _=>rfl,?_⟩
 by_cases hne:es=[]
 ·subst hne
  refine⟨#[],fun w2 _=>?_,by simp,fun _ h=>absurd h (by simp),fun i j hi=>absurd hi (by simp)⟩
  cases a with
  |none=>rfl
  |some a=>simp[Builtin.firstCells,loadCells,loadCellsFrom]
 ·rcases ha with ha|⟨blk,off,rfl,hc⟩
  ·exact absurd ha hne
  ·by_cases hn0:n=0
   ·subst hn0
    refine⟨#[],fun w2 _=>by simp[Builtin.firstCells,loadCells,loadCellsFrom],by simp[d1W],hn,fun i j hi hj=>?_⟩
    rw[hn _ (List.getElem_mem hi)]at hj;omega
   ·have hdm:∀q,q<es.length*n→q / n<es.length∧q%n<n:=fun q hq=>⟨(Nat.div_lt_iff_lt_mul (by omega)).2 hq,Nat.mod_lt _ (by omega)⟩
    refine⟨((List.range (es.length*n)).map fun q=>cv (q / n) (q%n)).toArray,fun w2 h2=>?_,by simp,hn,fun i j hi hj=>?_⟩
    ·simp only[Builtin.firstCells]
     refine run_loadCells (P:=P) w2 ⟨blk,off,none⟩ (es.length*n) (fun q=>cv (q / n) (q%n)) (fun q hq=>?_)
     rw[Yf,h2]
     obtain⟨d1,d2⟩:=hdm q hq
     have:=hc _ _ d1 d2
     rwa[Nat.div_add_mod' q n]at this
    ·have hjn:j<n:=by rw[←hn _ (List.getElem_mem hi)];exact hj
     have hlt:i*n+j<es.length*n:=by
      have:(i+1)*n≤es.length*n:=Nat.mul_le_mul_right n hi
      rw[Nat.add_mul]at this;omega
     obtain⟨v1,v2⟩:=hv i j hi hj
     refine⟨cv i j,?_,v1,v2⟩
     have e1:(i*n+j) / n=i:=by rw[Nat.add_comm,Nat.add_mul_div_right _ _ (by omega)];simp[Nat.div_eq_of_lt hjn]
     have e2:(i*n+j)%n=j:=by rw[Nat.add_comm,Nat.add_mul_mod_self_right];exact Nat.mod_eq_of_lt hjn
     simp[hlt,e1,e2]
theorem d4S{P:Program}{w:World}{μ:Mu}{st:St}{full:Bool}{o g off len n b:Nat}{es:List (List D)}{v:Value}(hs:Sim w μ st)(hv:VR w μ st v (.ref full o g off len))
 (hl:look st o=some (.arr g n b es)) (hle:off+len≤es.length):
 ∃a cap,v= .slice a len cap∧len≤cap∧(full=true→cap=len)∧d5N P w μ st n v ((es.drop off).take len)∧
  (cap=0∨∃blk base c ty,μ o=some (blk,base)∧a=some ⟨blk,base+off*n,none⟩∧w.heap[blk]? =some (.cells c ty (0,0))∧base+(off+cap)*n≤c.size):=by
 have ho:=Px hl
 obtain⟨hb,hn,i4q⟩:=(hs.obj o _ ho:d0b w μ st (μ o) n b es)
 cases hv with
 |tr h=>cases h
 |ref _ _ _ _ _ _ hvv hol hr hg h=>
  obtain⟨a,cap,ev,c1,c2,c3,c4⟩:=h _ _ _ ho
  subst ev
  refine⟨a,cap,rfl,c1,c3,?_,?_⟩
  ·have i4u:((es.drop off).take len).length=len:=by simp;omega
   by_cases hz:len=0
   ·have:(es.drop off).take len=[]:=by rw[hz];simp
    rw[this]
    exact WY (n:=n) (cv:=fun _ _=>undef) (by simp) (by simp[hz]) (.inl rfl) (fun i j hi=>absurd hi (by simp))
   ·rcases c4 with c4|⟨blk,base,em,ea,c,ty,hh,hsz⟩
    ·omega
    ·rcases i4q with⟨e,_⟩|⟨d1b,base',c',ty',em',hh',hsz',hc'⟩
     ·rw[em]at e;cases e
     ·rw[em]at em';cases em'
      rw[hh]at hh';cases hh'
      have hex:∀i j,∃v,∀(hi:i<es.length) (hj:j<(es[i]).length),c[base+(i*n+j)]? =some v∧VR w μ st v ((es[i])[j])∧v.oneCell'=true:=fun i j=>by
       by_cases h:∃hi:i<es.length,j<(es[i]).length
       ·obtain⟨hi,hj⟩:=h
        obtain⟨v,h⟩:=hc' i j hi hj
        exact⟨v,fun _ _=>h⟩
       ·exact⟨undef,fun hi hj=>absurd ⟨hi,hj⟩ h⟩
      obtain⟨cv,hcv⟩:=Classical.axiomOfChoice (fun i=>Classical.axiomOfChoice (hex i))
      refine WY (n:=n) (cv:=fun i j=>cv (off+i) j) (fun e he=>hn e (List.mem_of_mem_drop (List.mem_of_mem_take he))) i4u.symm (.inr ⟨blk,_,ea,fun i j hi hj=>?_⟩) (fun i j hi hj=>?_)
      ·rw[i4u]at hi
       have hil:off+i<es.length:=by omega
       have:=(hcv (off+i) j hil (by rw[hn _ (List.getElem_mem hil)];exact hj)).1
       simp only[World.cell?, hh]
       rw[show base+off*n+(i*n+j)=base+((off+i)*n+j)by rw[Nat.add_mul];omega]
       simpa using this
      ·rw[i4u]at hi
       have hil:off+i<es.length:=by omega
       simp only[List.getElem_take,List.getElem_drop]at hj⊢
       exact(hcv (off+i) j hil hj).2
  ·rcases c4 with c4|⟨blk,base,em,ea,c,ty,hh,hsz⟩
   ·exact .inl c4
   ·exact .inr ⟨blk,base,c,ty,em,ea,hh,hsz⟩
theorem d9c{P:Program}{w:World}{μ:Mu}{st:St}{x:D}{vx:Value}{e:TI}{news:List (List D)}(hs:Sim w μ st)(hx:VR w μ st vx x)(hn:YN (look st) e x=some news)(h1:∀s,x= .str s→e.size=1):d5N P w μ st e.size vx news:=by
 cases x with
 |sl full n b es=>
  simp only[YN]at hn
  split at hn
  ·rename_i he
   cases hn
   cases hx with
   |tr h=>
    cases h with
    |sl _ _ _ _ a len cap cv hlen hcap d2w hb hb1 hnn ha hc=>
     rw[←he]
     refine WY (cv:=cv) hnn hlen ?_ (fun i j hi hj=>⟨.tr (hc i j hi hj),(hc i j hi hj).i0f⟩)
     rcases ha with ha|⟨blk,off,ea,_,_,hcell⟩
     ·exact .inl ha
     ·exact .inr ⟨blk,off,ea,hcell⟩
  ·cases hn
 |OI=>
  cases hn
  have:=Yw hx;subst this
  exact WY (cv:=fun _ _=>undef) (by simp) rfl (.inl rfl) (fun i j hi=>absurd hi (by simp))
 |ref full o g off len=>
  simp only[YN]at hn
  split at hn
  ·rename_i g' n b es hl
   split at hn
   ·rename_i hc
    obtain⟨rfl,rfl,hle⟩:=hc
    cases hn
    obtain⟨a,cap,ev,_,_,hnr,_⟩:=d4S (P:=P) hs hx hl hle
    exact hnr
   ·cases hn
  ·cases hn
 |str s=>
  cases hn
  have:=Xc hx;subst this
  rw[h1 s rfl]
  refine⟨fun _=>by simp[Builtin.lenOf,XQ],((s.map fun c=>Value.int .u8 (c.toNat:Int))).toArray,fun w2 _=>?_,by simp,by simp,fun i j hi hj=>?_⟩
  ·simp only[Builtin.firstCells,d4n,List.length_map]
   simp[bs]
  ·simp at hi
   simp at hj
   subst hj
   refine⟨.int .u8 ((s[i]).toNat:Int),by simp[hi],by simpa using Sw _ _ _ _ _,rfl⟩
 | _=>cases hn
theorem d1W.append{w:World}{μ:Mu}{st:St}{n:Nat}{a b:Array Value}{x y:List (List D)}(h1:d1W w μ st n a x)(h2:d1W w μ st n b y):d1W w μ st n (a++b) (x++y):=by
 refine⟨by rw[Array.size_append,h1.1,h2.1,List.length_append,Nat.add_mul],fun e he=>?_,fun i j hi hj=>?_⟩
 ·rcases List.mem_append.1 he with h|h
  ·exact h1.2.1 e h
  ·exact h2.2.1 e h
 ·by_cases hil:i<x.length
  ·simp only[List.getElem_append_left hil]at hj⊢
   obtain⟨v,e,r⟩:=h1.2.2 i j hil hj
   have hlt:i*n+j<a.size:=(Array.getElem?_eq_some_iff.1 e).1
   exact⟨v,by rw[Array.getElem?_append_left hlt];exact e,r⟩
  ·have hir:x.length≤i:=by omega
   simp only[List.getElem_append_right hir]at hj⊢
   have hi2:i-x.length<y.length:=by simp at hi;omega
   obtain⟨v,e,r⟩:=h2.2.2 (i-x.length) j hi2 hj
   have e1:i*n+j-a.size=(i-x.length)*n+j:=by
    rw[h1.1,Nat.sub_mul]
    have:x.length*n≤i*n:=Nat.mul_le_mul_right n hir
    omega
   refine⟨v,?_,r⟩
   rw[Array.getElem?_append_right (by rw[h1.1];have:x.length*n≤i*n:=Nat.mul_le_mul_right n hir;omega),e1]
   exact e
def LR.app(r:LR)(q:Nat)(st:St):St:=
 let s1:=match r.up with|some (o,ob)=>st.set o (some ob)|none=>st
 match r.new with|some ob=>s1.set q (some ob)|none=>s1
theorem d1e{P:Program}{t u ty el:TypeId}{i:TypeInfo}{z:Value}{d:TypeDesc}{w:World}{μ:Mu}{st:St}{q sLen sCap:Nat}{base:Option Addr}{vx:Value}{es news:List (List D)}(hs:Sim w μ st)(hq:st[q]? =some (some .resv))
 (ht:P.underlying t=some (.slice el)) (hu:P.underlying u=some d) (hd:∀k,d≠ .int k) (hi:P.info? el=some i) (hz:i.zero=some z) (hzl:z.cells.size=i.size)
 (hb:d5N P w μ st i.size (.slice base sLen sCap) es) (hx:d5N P w μ st i.size vx news) (hl:sLen=es.length) (hg:sCap<sLen+news.length)
 (h63:sLen+news.length≤top) (hfit:(sLen+news.length)*i.bytes≤top):
 ∃v w' μ',(Builtin.append_ #[t,u] ty #[.slice base sLen sCap,vx]).run P w= .ok v w'∧Sim w' μ' (st.set q (some (.arr 0 i.size i.bytes (es++news))))∧
  Step w μ st w' μ' (st.set q (some (.arr 0 i.size i.bytes (es++news))))∧VR w' μ' (st.set q (some (.arr 0 i.size i.bytes (es++news)))) v (.ref false q 0 0 (sLen+news.length)):=by
 obtain⟨i0e,ho1,ho2⟩:=hb.cells
 obtain⟨xs,hx1,hx2⟩:=hx.cells
 subst hl
 have hrun:=ZU (P:=P) w t u ty el i z d ht hu hd hi hz base es.length sCap news.length vx i0e xs hx.len (ho1 w.drew (fun _=>rfl)) (hx1 w.drew (fun _=>rfl)) hg h63 hfit
 have d0f:=ho2.append hx2
 have hlt:q<st.length:=(List.getElem?_eq_some_iff.1 hq).1
 have hcap:es.length+news.length≤grownCap w (es.length+news.length) sCap el:=by simp[grownCap,Question.cut]
 have hd0:Sim w.drew μ st∧Step w μ st w.drew μ st:=by
  have step:Step w μ st w.drew μ st:=⟨Nat.le_refl _,rfl,rfl,⟨rfl,Nat.le_succ _⟩,fun _ _ _=>rfl,fun _ h=>.inl h,Nat.le_refl _,fun _ ob' _ h=>⟨ob',h,by
   cases ob' with
   |arr g n b es=>exact⟨Nat.le_refl _,fun _=>⟨rfl,rfl,rfl,rfl,fun blk base c ty _ hh=>⟨c,hh,rfl⟩⟩⟩
   |mps=>exact⟨rfl,rfl⟩
   |mpi=>exact⟨rfl,rfl,rfl⟩
   |sit=>rfl
   |resv=>trivial⟩⟩
  exact⟨⟨fun o ob h=>(hs.obj o ob h).step step (fun _ _ _=>rfl),hs.inj⟩,step⟩
 have h:=WR (w:=w.drew) (x:=.cells (i0e++xs++Builtin.zeroCells z.cells (grownCap w (es.length+news.length) sCap el-(es.length+news.length))) el) (ob:=.arr 0 i.size i.bytes (es++news)) hd0.1 hq
  (fun s=>d1c (fun a b ha hb'=>by
   obtain⟨v,e,h1,h2⟩:=d0f.2.2 a b ha hb'
   have hlt2:a*i.size+b<(i0e++xs).size:=(Array.getElem?_eq_some_iff.1 e).1
   exact⟨v,by rw[Array.getElem?_append_left hlt2];exact e,h1.step hd0.2,h2⟩) (by rw[Array.size_append];have:=d0f.1;omega) d0f.2.1 (by simpa using hfit) s)
 refine⟨_,_,_,hrun,h.1,hd0.2.trans h.2,?_⟩
 refine .ref _ false q 0 0 _ ⟨_,_,_,rfl⟩ (by simpa using hlt) (by simp[hlt]) (fun g' n b es e=>Nat.zero_le _) (fun n b es' e=>?_)
 rw[List.getElem?_set_self hlt]at e
 cases e
 refine⟨_,_,rfl,hcap,by simp,fun hf=>(by cases hf),.inr ⟨w.heap.size,0,by rw[Pv];rfl,by simp,_,el,heap_alloc_new _ _,?_⟩⟩
 have hzs:∀m,(Builtin.zeroCells z.cells m).size=m*z.cells.size:=fun m=>by simp[Builtin.zeroCells]
 rw[Array.size_append,hzs,d0f.1,hzl,List.length_append, ←Nat.add_mul]
 refine Nat.le_of_eq ?_
 rw[Nat.zero_add,Nat.zero_add]
 congr 1
 omega
theorem i8P{P:Program}{u:TypeId}(h:(OD P u).k= .str∨∃t,(OD P u).k= .slice t):∃d,P.underlying u=some d∧∀k,d≠ .int k:=by
 rcases h with h|⟨t,h⟩
 ·exact⟨_,d0u h,fun k e=>by cases e⟩
 ·exact⟨_,TB h,fun k e=>by cases e⟩
theorem d5O{P:Program}{t u ty el:TypeId}{w:World}{μ:Mu}{st:St}{vs vx:Value}{src x:D}{q:Nat}{r:LR}(hs:Sim w μ st)(i8m:VR w μ st vs src)(hx:VR w μ st vx x)
 (hel:(OD P t).k= .slice el) (hr:r=QT (OD P t) (OD P el) (OD P u).k (look st) src x q) (hok:r.ok) (hq:st[q]? =some (some .resv)):
 ∃v w' μ',(Builtin.append_ #[t,u] ty #[vs,vx]).run P w= .ok v w'∧Sim w' μ' (r.app q st)∧Step w μ st w' μ' (r.app q st)∧VR w' μ' (r.app q st) v r.d:=by
 have ht:=TB hel
 have hlt:q<st.length:=(List.getElem?_eq_some_iff.1 hq).1
 cases hn:YN (look st) (OD P el) x with
 |none=>rw[hr]at hok;simp only[QT,hn]at hok;exact hok.elim
 |some news=>
  have fine:∀n,d9a (OD P t) (OD P el) (OD P u).k x n→
   ∃i z d,P.info? el=some i∧i.zero=some z∧z.cells.size=i.size∧P.underlying u=some d∧(∀k,d≠ .int k)∧(OD P el).size=i.size∧(OD P el).bytes=i.bytes∧i.size≠0∧n*i.bytes≤top∧n≤top∧d5N P w μ st i.size vx news:=by
   intro n ⟨_,h1,h2,h3,h4,h5,h6⟩
   obtain⟨i,z,hi,hz,hc⟩:=Yi (w:=w) (μ:=μ) (st:=st) h1 h2
   have hsz:(OD P el).size=i.size:=by simp[OD,hi]
   have hby:(OD P el).bytes=i.bytes:=by simp[OD,hi]
   have hxk:(OD P u).k= .str∨∃t,(OD P u).k= .slice t:=by
    cases x<;>first|exact .inl h6.1|exact .inr h6
   obtain⟨d,hu,hd⟩:=i8P hxk
   have hnr:=d9c (P:=P) hs hx hn (fun s e=>by subst e;exact h6.2)
   rw[hsz]at hnr h2
   refine⟨i,z,d,hi,hz,by rw[hc.1,h1,hsz],hu,hd,hsz,hby,h2,by rw[←hby];exact h4,h5,hnr⟩
  have empty:∀(a:Option Addr) (d:TypeDesc) (i:TypeInfo),P.underlying u=some d→(∀k,d≠ .int k)→P.info? el=some i→d5N P w μ st i.size vx []→news=[]→
   ∃v w' μ',(Builtin.append_ #[t,u] ty #[.slice a 0 0,vx]).run P w= .ok v w'∧Sim w' μ' (st.set q (some (.arr 0 i.size i.bytes [])))∧
    Step w μ st w' μ' (st.set q (some (.arr 0 i.size i.bytes [])))∧VR w' μ' (st.set q (some (.arr 0 i.size i.bytes []))) v (.ref false q 0 0 0):=by
   intro a d i hu hd hi hnr _
   obtain⟨xs,hx1,hx2⟩:=hnr.cells
   have hxs:xs= #[]:=by
    have:=hx2.1
    simp at this
    exact this
   have hrun:=Wz (P:=P) w w t u ty el i d ht hu hd hi a 0 0 0 vx xs hnr.len (hx1 w (fun _=>rfl)) (by simp) (fun a _=>by rw[hxs];rfl) (fun _=>rfl)
   have h:=Ut (w:=w) (w':=w) (μ':=upd μ q none) (ob':=.arr 0 i.size i.bytes []) hs hq (fun o' h=>Ru _ _ _ h) (fun _ _ _=>rfl) (Nat.le_refl _) rfl rfl ⟨rfl,Nat.le_refl _⟩ (fun blk base e=>by rw[Pv]at e;cases e) trivial
    (fun s=>(⟨by simp,by simp,.inl ⟨Pv _ _ _,rfl⟩⟩:d0b _ _ _ _ _ _ _))
   refine⟨_,w,_,hrun,h.1,h.2,.ref _ false q 0 0 0 ⟨_,_,_,rfl⟩ (by simpa using hlt) (by simp[hlt]) (fun g' n b es e=>Nat.zero_le _) (fun n b es' e=>?_)⟩
   rw[List.getElem?_set_self hlt]at e
   cases e
   exact⟨_,_,rfl,Nat.le_refl _,by simp,fun hf=>(by cases hf),.inl rfl⟩
  cases src with
  |OI=>
   have:=Yw i8m;subst this
   have hr':r=QT (OD P t) (OD P el) (OD P u).k (look st) .OI x q:=hr
   simp only[QT,hn]at hr'
   subst hr'
   obtain⟨i,z,d,hi,hz,hzl,hu,hd,hsz,hby,h0,h4,h5,hnr⟩:=fine _ hok
   simp only[LR.app]
   rw[hsz,hby]
   by_cases hne:news=[]
   ·subst hne
    exact empty none d i hu hd hi hnr rfl
   ·have hpos:0<news.length:=List.length_pos_iff.2 hne
    have h:=d1e (P:=P) (ty:=ty) (q:=q) (sLen:=0) (sCap:=0) (base:=none) (es:=[]) hs hq ht hu hd hi hz hzl (WY (cv:=fun _ _=>undef) (by simp) rfl (.inl rfl) (fun i j hi=>absurd hi (by simp))) hnr rfl (by simpa using hpos) (by simpa using h5) (by simpa using h4)
    simpa using h
  |sl full n b es=>
   cases full with
   |false=>rw[hr]at hok;simp only[QT,hn]at hok;exact hok.elim
   |true=>
    have hr':r=QT (OD P t) (OD P el) (OD P u).k (look st) (.sl true n b es) x q:=hr
    simp only[QT,hn]at hr'
    subst hr'
    obtain⟨hok,hne,hor⟩:=hok
    obtain⟨i,z,d,hi,hz,hzl,hu,hd,hsz,hby,h0,h4,h5,hnr⟩:=fine _ hok
    simp only[LR.app]
    rw[hsz,hby]
    cases i8m with
    |tr h=>
     cases h with
     |sl _ _ _ _ a len cap cv hlen hcap d2w hb hb1 hnn ha hc=>
      subst hlen
      have hcl:cap=es.length:=d2w rfl
      subst hcl
      have hbr:d5N P w μ st i.size (.slice a es.length es.length) es:=by
       rw[←hsz, ←hne]
       refine WY (cv:=cv) hnn rfl ?_ (fun i j hi hj=>⟨.tr (hc i j hi hj),(hc i j hi hj).i0f⟩)
       rcases ha with ha|⟨blk,off,ea,_,_,hcell⟩
       ·exact .inl ha
       ·exact .inr ⟨blk,off,ea,hcell⟩
      by_cases i8Q:news=[]
      ·rcases hor with h|h
       ·subst h;subst i8Q
        exact empty a d i hu hd hi hnr rfl
       ·exact absurd i8Q h
      ·have hpos:0<news.length:=List.length_pos_iff.2 i8Q
       exact d1e (P:=P) (ty:=ty) (q:=q) hs hq ht hu hd hi hz hzl hbr hnr rfl (by omega) h5 h4
  |ref full o g off len=>
   cases hl:look st o with
   |none=>rw[hr]at hok;cases full<;>(simp only[QT,hn,hl]at hok;exact hok.elim)
   |some ob=>
    cases ob with
    |arr g' n b es=>
     cases full with
     |true=>
      have hr':r=QT (OD P t) (OD P el) (OD P u).k (look st) (.ref true o g off len) x q:=hr
      simp only[QT,hn,hl]at hr'
      subst hr'
      obtain⟨hok,rfl,hne,hle,hnn⟩:=hok
      obtain⟨i,z,d,hi,hz,hzl,hu,hd,hsz,hby,h0,h4,h5,hnr⟩:=fine _ hok
      simp only[LR.app]
      rw[hsz,hby]
      obtain⟨a,cap,ev,c1,c2,hbr,_⟩:=d4S (P:=P) hs i8m hl hle
      subst ev
      rw[hne,hsz]at hbr
      have hcl:=c2 rfl
      by_cases hn0:news=[]
      ·have h0l:len=0:=hnn.elim id (fun h=>absurd hn0 h)
       subst hn0;subst h0l
       have:cap=0:=by omega
       subst this
       simpa using empty a d i hu hd hi hnr rfl
      have hpos:0<news.length:=List.length_pos_iff.2 hn0
      exact d1e (P:=P) (ty:=ty) (q:=q) hs hq ht hu hd hi hz hzl hbr hnr (by simp;omega) (by omega) h5 h4
     |false=>
      have hr':r=QT (OD P t) (OD P el) (OD P u).k (look st) (.ref false o g off len) x q:=hr
      simp only[QT,hn,hl]at hr'
      subst hr'
      obtain⟨hok,rfl,hne,hbe,hle⟩:=hok
      obtain⟨i,z,d,hi,hz,hzl,hu,hd,hsz,hby,h0,h4,h5,hnr⟩:=fine _ hok
      simp only[LR.app]
      have ho:=Px hl
      have hol:o<st.length:=(List.getElem?_eq_some_iff.1 ho).1
      obtain⟨a,cap,ev,c1,c2,hbr,i6u⟩:=d4S (P:=P) hs i8m hl hle
      subst ev
      have hnz:n=i.size:=by rw[hne,hsz]
      subst hnz
      have hl2:((es.drop off).take len).length=len:=by simp;omega
      obtain⟨i0e,ho1,ho2⟩:=hbr.cells
      obtain⟨xs,hx1,hx2⟩:=hnr.cells
      rw[hl2]at ho1
      have d0f:=ho2.append hx2
      have hbb:((es.drop off).take len++news).length*b≤top:=by rw[List.length_append,hl2,hbe,hby];exact h4
      have hnew:∀e∈(es.drop off).take len++news,e.length=i.size:=d0f.2.1
      by_cases hfit:len+news.length≤cap
      ·by_cases hz0:cap=0
       ·have hlz:len=0:=by omega
        have hnw:news=[]:=List.length_eq_zero_iff.1 (by omega)
        subst hlz;subst hnw
        have hxs:xs= #[]:=by have:=hx2.1;simp at this;exact this
        have hrun:=Wz (P:=P) w w t u ty el i d ht hu hd hi a 0 cap 0 vx xs hnr.len (hx1 w (fun _=>rfl)) (by omega) (fun a _=>by rw[hxs];rfl) (fun _=>rfl)
        have h:=Ut (w:=w) (w':=w) (μ':=upd μ o none) (ob':=.arr (g'+1) i.size b ((es.drop off).take 0++[])) hs ho (fun o' h=>Ru _ _ _ h) (fun _ _ _=>rfl) (Nat.le_refl _) rfl rfl ⟨rfl,Nat.le_refl _⟩
         (fun blk base e=>by rw[Pv]at e;cases e) ⟨by omega,fun e=>by omega⟩ (fun s=>(⟨by simp,by simp,.inl ⟨Pv _ _ _,by simp⟩⟩:d0b _ _ _ _ _ _ _))
        refine⟨_,w,_,hrun,h.1,h.2,.ref _ false o (g'+1) 0 0 ⟨_,_,_,rfl⟩ (by simpa using hol) (by simp[hol]) (fun g2 n2 b2 es2 e=>?_) (fun n b es' e=>?_)⟩
        ·rw[List.getElem?_set_self hol]at e;cases e;exact Nat.le_refl _
        ·rw[List.getElem?_set_self hol]at e;cases e
         exact⟨_,_,rfl,by omega,by simp,fun hf=>(by cases hf),.inl hz0⟩
       ·rcases i6u with h0|⟨blk,base,c,ty',em,ea,hh,i8O⟩
        ·omega
        ·subst ea
         have p1e:xs.size=news.length*i.size:=hx2.1
         have i8R:(off+len+news.length)*i.size≤(off+cap)*i.size:=Nat.mul_le_mul_right _ (by omega)
         rw[Nat.add_mul,Nat.add_mul]at i8R
         have i3G:∀v∈xs.toList,v.oneCell'=true:=fun v hv=>by
          obtain⟨q',hq',e⟩:=List.getElem_of_mem hv
          have hq2:q'<news.length*i.size:=by rw[←p1e];simpa using hq'
          have h1:q' / i.size<news.length:=(Nat.div_lt_iff_lt_mul (by omega)).2 hq2
          have h2:q'%i.size<i.size:=Nat.mod_lt _ (by omega)
          obtain⟨u',eu,_,hu1⟩:=hx2.2.2 (q' / i.size) (q'%i.size) h1 (by rw[hx2.2.1 _ (List.getElem_mem h1)];exact h2)
          rw[Nat.div_add_mod' q' i.size]at eu
          have:xs[q']? =some v:=by rw[←e];simp at hq';simp[hq']
          rw[this]at eu;cases eu;exact hu1
         have hst:=run_storeCells_at (P:=P) blk (base+off*i.size+len*i.size) ty' xs.toList 0 c w hh (by simp;omega) i3G
         have hrun:=Wz (P:=P) w _ t u ty el i d ht hu hd hi (some ⟨blk,base+off*i.size,none⟩) len cap news.length vx xs hnr.len (hx1 w (fun _=>rfl)) hfit (fun a ea=>by cases ea;rw[Yf];exact hst) (fun e=>by cases e)
         let c':Array Value:=(c.toList.take (base+off*i.size+len*i.size+0)++xs.toList++c.toList.drop (base+off*i.size+len*i.size+0+xs.toList.length)).toArray
         have hsize':c'.size=c.size:=by simp[c'];omega
         have hh':(w.setRow blk c').heap[blk]? =some (.cells c' ty' (0,0)):=setRow_heap w blk c c' ty' (0,0) hh
         have hget:∀q,c'[q]? =if base+off*i.size+len*i.size≤q∧q<base+off*i.size+len*i.size+xs.size then xs[q-(base+off*i.size+len*i.size)]? else c[q]? :=fun q=>by
          have:=d6J c.toList xs.toList (base+off*i.size+len*i.size) q (by simp;omega)
          simp only[c',List.getElem?_toArray,Nat.add_zero]
          rw[this];simp
         obtain⟨hb0,hn0,i4q⟩:=(hs.obj o _ ho:d0b w μ st (μ o) i.size b es)
         have h:=Ut (w:=w) (w':=w.setRow blk c') (μ':=upd μ o (some (blk,base+off*i.size))) (ob':=.arr (g'+1) i.size b ((es.drop off).take len++news)) hs ho (fun o' h=>Ru _ _ _ h)
          (fun d1b hb' hne=>setRow_other w _ _ _ (fun e=>hne base (by rw[e];exact em))) (by rw[setRow_size];exact Nat.le_refl _) rfl rfl ⟨rfl,Nat.le_refl _⟩
          (fun d1b base' e=>by rw[Pv]at e;cases e;exact .inl ⟨base,em⟩) ⟨by omega,fun e=>by omega⟩ (fun s=>by
           change d0b _ _ _ _ _ _ _
           refine⟨hbb,hnew,.inr ⟨blk,base+off*i.size,c',ty',Pv _ _ _,hh',by rw[hsize',List.length_append,hl2,Nat.add_mul];omega,fun k j hk hj=>?_⟩⟩
           rw[hget]
           by_cases hkl:k<len
           ·have hko:k<((es.drop off).take len).length:=by rw[hl2];exact hkl
            simp only[List.getElem_append_left hko,List.getElem_take,List.getElem_drop]at hj⊢
            have hjn:j<i.size:=by have:=hn0 _ (List.getElem_mem (show off+k<es.length by omega));omega
            have p3a:k*i.size+i.size≤len*i.size:=by
             have:(k+1)*i.size≤len*i.size:=Nat.mul_le_mul_right _ hkl
             rw[Nat.add_mul]at this;omega
            rw[if_neg (by omega)]
            rcases i4q with⟨e,_⟩|⟨p0Z,i8N,c2,ty2,em2,hh2,_,hc2⟩
            ·rw[em]at e;cases e
            ·rw[em]at em2;cases em2
             rw[hh]at hh2;cases hh2
             obtain⟨u',eu,hu',hu1⟩:=hc2 (off+k) j (by omega) hj
             refine⟨u',?_,hu'.step s,hu1⟩
             rw[←eu,Nat.add_mul];congr 1;omega
           ·have hko:((es.drop off).take len).length≤k:=by rw[hl2];omega
            have hk2:k-((es.drop off).take len).length<news.length:=by simp at hk;omega
            simp only[List.getElem_append_right hko]at hj⊢
            obtain⟨u',eu,hu',hu1⟩:=hx2.2.2 _ j hk2 hj
            rw[hl2]at eu
            have hlt2:(k-len)*i.size+j<xs.size:=(Array.getElem?_eq_some_iff.1 eu).1
            have e1:len*i.size+(k-len)*i.size=k*i.size:=by rw[←Nat.add_mul];congr 1;omega
            refine⟨u',?_,hu'.step s,hu1⟩
            rw[if_pos (by omega), ←eu];congr 1;omega)
         refine⟨_,_,_,hrun,h.1,h.2,.ref _ false o (g'+1) 0 _ ⟨_,_,_,rfl⟩ (by simpa using hol) (by simp[hol]) (fun g2 n2 b2 es2 e=>?_) (fun n b es' e=>?_)⟩
         ·rw[List.getElem?_set_self hol]at e;cases e;exact Nat.le_refl _
         ·rw[List.getElem?_set_self hol]at e;cases e
          refine⟨_,_,rfl,hfit,by rw[List.length_append,hl2];omega,fun hf=>(by cases hf),.inr ⟨blk,base+off*i.size,Pv _ _ _,by simp,c',ty',hh',?_⟩⟩
          rw[hsize',Nat.zero_add]
          rw[Nat.add_mul]at i8O;omega
      ·have hrun:=ZU (P:=P) w t u ty el i z d ht hu hd hi hz a len cap news.length vx i0e xs hnr.len (ho1 w.drew (fun _=>rfl)) (hx1 w.drew (fun _=>rfl)) (by omega) h5 h4
       have hcap:len+news.length≤grownCap w (len+news.length) cap el:=by simp[grownCap,Question.cut]
       have d5F:∀k j (hk:k<((es.drop off).take len++news).length) (hj:j<(((es.drop off).take len++news)[k]).length),∃v,
        (i0e++xs++Builtin.zeroCells z.cells (grownCap w (len+news.length) cap el-(len+news.length)))[k*i.size+j]? =some v∧VR w μ st v ((((es.drop off).take len++news)[k])[j])∧v.oneCell'=true:=fun k j hk hj=>by
        obtain⟨v,e,h1,h2⟩:=d0f.2.2 k j hk hj
        have hlt2:k*i.size+j<(i0e++xs).size:=(Array.getElem?_eq_some_iff.1 e).1
        exact⟨v,by rw[Array.getElem?_append_left hlt2];exact e,h1,h2⟩
       have h:=Ut (w:=w) (w':=w.drew.alloc (.cells (i0e++xs++Builtin.zeroCells z.cells (grownCap w (len+news.length) cap el-(len+news.length))) el)) (μ':=upd μ o (some (w.heap.size,0))) (ob':=.arr (g'+1) i.size b ((es.drop off).take len++news)) hs ho (fun o' h=>Ru _ _ _ h)
        (fun d1b hb' hne=>WQ (w:=w.drew) hb') (by simp) rfl rfl ⟨rfl,Nat.le_succ _⟩
        (fun d1b base' e=>by rw[Pv]at e;cases e;exact .inr (Nat.le_refl _)) ⟨by omega,fun e=>by omega⟩ (fun s=>by
         change d0b _ _ _ _ _ _ _
         refine⟨hbb,hnew,.inr ⟨w.heap.size,0,_,el,Pv _ _ _,heap_alloc_new w.drew _,?_,fun k j hk hj=>?_⟩⟩
         ·rw[Array.size_append];have:=d0f.1;omega
         ·obtain⟨v,e,h1,h2⟩:=d5F k j hk hj
          exact⟨v,by rw[Nat.zero_add];exact e,h1.step s,h2⟩)
       refine⟨_,_,_,hrun,h.1,h.2,.ref _ false o (g'+1) 0 _ ⟨_,_,_,rfl⟩ (by simpa using hol) (by simp[hol]) (fun g2 n2 b2 es2 e=>?_) (fun n b es' e=>?_)⟩
       ·rw[List.getElem?_set_self hol]at e;cases e;exact Nat.le_refl _
       ·rw[List.getElem?_set_self hol]at e;cases e
        refine⟨_,_,rfl,hcap,by rw[List.length_append,hl2];omega,fun hf=>(by cases hf),.inr ⟨w.heap.size,0,Pv _ _ _,by simp,_,el,heap_alloc_new w.drew _,?_⟩⟩
        have hzs:∀m,(Builtin.zeroCells z.cells m).size=m*z.cells.size:=fun m=>by simp[Builtin.zeroCells]
        rw[Array.size_append,hzs,d0f.1,hzl,List.length_append,hl2, ←Nat.add_mul]
        refine Nat.le_of_eq ?_
        rw[Nat.zero_add,Nat.zero_add]
        congr 1
        omega
    |mps=>rw[hr]at hok;cases full<;>(simp only[QT,hn,hl]at hok;exact hok.elim)
    |mpi=>rw[hr]at hok;cases full<;>(simp only[QT,hn,hl]at hok;exact hok.elim)
    |sit=>rw[hr]at hok;cases full<;>(simp only[QT,hn,hl]at hok;exact hok.elim)
    |resv=>rw[hr]at hok;cases full<;>(simp only[QT,hn,hl]at hok;exact hok.elim)
  | _=>rw[hr]at hok;simp only[QT,hn]at hok;exact hok.elim
end Go.Am
namespace Go.Am
open Go Go.MapKept
def rune(s:Bs)(p:Nat):Int:=((Utf8.decode (bs s) p).1:Nat)
def d4T(s:Bs)(p:Nat):Nat:=if p<s.length then(Utf8.decode (bs s) p).2 else 0
def ZV(i:TI)(q:Nat)(x:D):LR:=
 match i.k,x with
 | .str,.str s=>{ d:=.it q,ok:=True,new:=some (.sit s 0) }
 | _,_=>.bad
def d1Z(lk:Look)(s:Bool)(x:D):LR:=
 match s,x with
 |true,.it o=>match lk o with
  |some (.sit s p)=>{ d:=.tup [.bool (decide (p<s.length)),.cond (decide (p<s.length)) (.int .i64 (p:Nat)),.cond (decide (p<s.length)) (.int .i32 (rune s p))],
                      ok:=True,rd:=[o],up:=some (o,.sit s (p+d4T s p)) }
  | _=>.bad
 | _,_=>.bad
theorem d6Y{P:Program}{t:TypeId}{w:World}{μ:Mu}{st:St}{vx:Value}{x:D}{q:Nat}(hs:Sim w μ st)(hx:VR w μ st vx x)(hok:(ZV (OD P t) q x).ok)(hq:st[q]? =some (some .resv)):
 ∃v w' μ' ob,(Instr.range t vx).run P w= .ok v w'∧(ZV (OD P t) q x).new=some ob∧Sim w' μ' (st.set q (some ob))∧Step w μ st w' μ' (st.set q (some ob))∧
  VR w' μ' (st.set q (some ob)) v (ZV (OD P t) q x).d:=by
 have hlt:q<st.length:=(List.getElem?_eq_some_iff.1 hq).1
 unfold ZV at hok⊢
 split at hok
 ·rename_i s hk
  have:=Xc hx;subst this
  have hu:=d0u hk
  have h:=WR (x:=.stringIter (bs s) 0) (ob:=.sit s 0) hs hq (fun _=>⟨w.heap.size,rfl,heap_alloc_new _ _⟩)
  refine⟨.pointer (some ⟨w.heap.size,0,none⟩),_,_,_,?_,rfl,h.1,h.2,?_⟩
  ·simp[Instr.range,run_underlying hu]
  ·exact .it _ q ⟨_,rfl⟩ (by simpa using hlt) (by simp[hlt]) (fun s' p e=>by
    refine⟨w.heap.size,by rw[Pv],rfl⟩)
 ·exact hok.elim
theorem ZW{P:Program}{w:World}{r p:Nat}{s:ByteArray}{ob:Obj}(hb:w.heap[r]? =some ob)(hn:ob= .stringIter s p):(getObj r).run P w= .ok ob w:=by
 subst hn
 simp[getObj,Sem.run,hb]
theorem d3V{P:Program}{w:World}{r p:Nat}{s:ByteArray}(o:Obj)(hb:w.heap[r]? =some (.stringIter s p)):(setObj r o).run P w= .ok () { w with heap:=w.heap.setIfInBounds r o }:=by
 simp[setObj,Sem.run,hb]
theorem d9d{P:Program}{t:TypeId}{w:World}{μ:Mu}{st:St}{vx:Value}{x:D}{b:Bool}(hs:Sim w μ st)(hx:VR w μ st vx x)(hok:(d1Z (look st) b x).ok):
 ∃v w' o ob,(Instr.next vx b t).run P w= .ok v w'∧(d1Z (look st) b x).up=some (o,ob)∧Sim w' μ (st.set o (some ob))∧Step w μ st w' μ (st.set o (some ob))∧
  VR w' μ (st.set o (some ob)) v (d1Z (look st) b x).d:=by
 unfold d1Z at hok⊢
 split at hok
 ·rename_i o
  split at hok
  ·rename_i s p hl
   have ho:=Px hl
   have hlt:o<st.length:=(List.getElem?_eq_some_iff.1 ho).1
   obtain⟨blk,em,ev⟩:∃blk,μ o=some (blk,0)∧vx= .pointer (some ⟨blk,0,none⟩):=by
    cases hx with
    |tr h=>cases h
    |it _ _ _ _ _ h=>exact h s p ho
   subst ev
   have hh:w.heap[blk]? =some (.stringIter (bs s) p):=by
    obtain⟨d1b,e1,e2⟩:=hs.obj o _ ho
    rw[em]at e1;cases e1;exact e2
   by_cases hp:p<s.length
   ·have hr:d4T s p=(Utf8.decode (bs s) p).2:=by simp[d4T,hp]
    obtain⟨hs1,hs2⟩:=heap_set (w:=w) (o':=.stringIter (bs s) (p+d4T s p)) hh
    have m:=Ut (w':={ w with heap:=w.heap.setIfInBounds blk (.stringIter (bs s) (p+d4T s p)) }) (ob':=.sit s (p+d4T s p)) hs ho (fun _ _=>rfl) (fun b hb hne=>hs2 b (fun e=>hne 0 (e▸em))) (by simp) rfl rfl ⟨rfl,Nat.le_refl _⟩
     (fun b base e=>.inl ⟨base,e⟩) rfl (fun _=>⟨blk,em,hs1⟩)
    refine⟨.tuple #[.bool true,goInt p,.int .i32 (rune s p)],_,o,_,?_,rfl,m.1,m.2,?_⟩
    ·simp[Instr.next,ZW hh rfl,XQ,hp,d3V _ hh,hr,rune]
    ·show VR _ _ _ _ (.tup _)
     refine .tup _ _ (fun j hj _=>by simpa using hj) (fun j hj=>?_)
     match j,hj with
     |0,_=>simp[hp];exact Rv _ _ _ _
     |1,_=>exact .cond _ _ _ (fun _=>Sw _ _ _ _ _) (fun e=>by simp[hp]at e)
     |2,_=>exact .cond _ _ _ (fun _=>Sw _ _ _ _ _) (fun e=>by simp[hp]at e)
   ·have hr:d4T s p=0:=by simp[d4T,hp]
    have m:=Ut (w':=w) (μ':=μ) (ob':=.sit s (p+d4T s p)) hs ho (fun _ _=>rfl) (fun b hb hne=>rfl) (Nat.le_refl _) rfl rfl ⟨rfl,Nat.le_refl _⟩
     (fun b base e=>.inl ⟨base,e⟩) rfl (fun _=>⟨blk,em,by rw[hr];exact hh⟩)
    refine⟨.tuple #[.bool false],_,o,_,?_,rfl,m.1,m.2,?_⟩
    ·simp[Instr.next,ZW hh rfl,XQ,hp]
    ·show VR _ _ _ _ (.tup _)
     refine .tup _ _ (fun j hj h=>?_) (fun j hj=>?_)
     ·match j,hj with
      |0,_=>simp
      |1,_=>simp[D.live,hp]at h
      |2,_=>simp[D.live,hp]at h
     ·match j,hj with
      |0,_=>simp[hp];exact Rv _ _ _ _
      |1,_=>exact .cond _ _ _ (fun e=>by simp[hp]at e) (fun _=>rfl)
      |2,_=>exact .cond _ _ _ (fun e=>by simp[hp]at e) (fun _=>rfl)
  ·exact hok.elim
 ·exact hok.elim
end Go.Am
namespace Go.Am
open Go
def D.plain:D→Bool
 | .any| .agg _| .tup _| .fn _ _ _| .ref _ _ _ _ _| .ptr _ _ _ _| .mp _| .it _| .cond _ _=>false
 | _=>true
def d0x(i:TI)(e:TI)(len:Nat)(parts:List (Nat×D)):LR:=
 let rows:=XP (List.replicate len e.zero) (parts.map fun p=>(p.1,cellsOf e p.2))
 { d:=.sl false e.size e.bytes rows,ok:=(∃t,i.k= .slice t)∧e.zero.length=e.size∧e.size≠0∧e.zero.all D.one=true∧(∀p∈parts,Ww e p.2∧p.1<len)∧len*e.size≤2^24∧len*e.bytes≤top∧1≤e.bytes∧(rows.all fun r=>r.all D.plain)=true }
theorem i2o{w:World}{μ:Mu}{st:St}{v:Value}{d:D}(h:VR w μ st v d)(hi:d.plain=true):TR w (own μ st) v d:=by
 cases h<;>first|(cases hi;done)|assumption
theorem i2p{st:St}{q:Nat}(hq:st[q]? =some (some .resv)):st.set q (some .resv)=st:=by
 apply List.ext_getElem?
 intro i
 by_cases h:q=i
 ·subst h
  rw[List.getElem?_set_self (List.getElem?_eq_some_iff.1 hq).1,hq]
 ·rw[List.getElem?_set_ne h]
theorem i0g{w:World}{μ:Mu}{st:St}{q:Nat}(hs:Sim w μ st)(hq:st[q]? =some (some .resv))(x:Obj):Sim (w.alloc x) μ st∧Step w μ st (w.alloc x) μ st:=by
 have h:=Ut (w':=w.alloc x) (μ':=μ) (ob':=.resv) hs hq (fun _ _=>rfl) (fun blk hb _=>WQ hb) (by simp) rfl rfl ⟨rfl,Nat.le_refl _⟩ (fun blk base e=>.inl ⟨base,e⟩) trivial (fun _=>hs.obj q _ hq)
 rwa[i2p hq]at h
theorem d3W{P:Program}{t el:TypeId}{w:World}{μ:Mu}{st:St}{ps:Array (Nat×Value)}{ds:List (Nat×D)}{len q:Nat}(hs:Sim w μ st)(hps:d2F w μ st ps.toList ds)
 (hel:(OD P t).k= .slice el) (hok:(d0x (OD P t) (OD P el) len ds).ok) (hq:st[q]? =some (some .resv)):
 ∃v w',(Instr.buildSlice t len ps).run P w= .ok v w'∧Sim w' μ st∧Step w μ st w' μ st∧VR w' μ st v (d0x (OD P t) (OD P el) len ds).d:=by
 obtain⟨_,h1,h2,h3,h4,h5,h6,h7,h8⟩:=hok
 have hu:=TB hel
 obtain⟨inf,z,hi,hz,hc⟩:=Yi (w:=w) (μ:=μ) (st:=st) h1 h2
 obtain⟨inf',hi',hsz⟩:=Qx h2
 rw[hi]at hi';cases hi'
 have hz0:=d2I (len:=len) hc h3 (by rw[h1];exact h2)
 rw[h1]at hz0
 obtain⟨vs',e1,e2⟩:=d2J (len:=len) ps.toList ds _ _ hps hz0 (by simp) h4
 have hlen:(XP (List.replicate len (OD P el).zero) (ds.map fun p=>(p.1,cellsOf (OD P el) p.2))).length=len:=by rw[ZT];simp
 have h:=i0g hs hq (.cells vs' el)
 refine⟨.slice (some ⟨w.heap.size,0,none⟩) len len,_,?_,h.1,h.2,?_⟩
 ·have h5':¬(2^24<len*inf.size):=by rw[←hsz];omega
  have d6S:Instr.fill (fun i=>some (i*inf.size,inf.size)) ((Array.range (len*inf.size)).map (z.cells[· %z.cells.size]!)) ps.toList=some vs':=by
   rw[←hsz];exact e1
  by_cases hl0:len*inf.size=0
  ·have:len=0:=by
    rcases Nat.mul_eq_zero.1 hl0 with h|h
    ·exact h
    ·rw[←hsz]at h;exact absurd h h2
   subst this
   have r0:Array.range 0=(#[]:Array Nat):=rfl
   simp[r0]at d6S
   simp[Instr.buildSlice,run_underlying hu,Pt hi,newRow,r0,d6S]
  ·simp only[Instr.buildSlice,run_underlying hu,Sem.run_bind,Result.andThen_ok,Pt hi]
   simp[h5',hl0,zeroValue,typeInfo,hi,hz,newRow]
   rw[d6S]
   simp
 ·refine .tr (.sl false (OD P el).size (OD P el).bytes _ _ len len (fun i j=>vs'.getD (i*(OD P el).size+j) undef) hlen.symm (Nat.le_refl _) (fun e=>by cases e) (by rw[hlen];exact h6) h7 e2.2.1
   (.inr ⟨w.heap.size,0,rfl,by simp,fun ho=>?_,fun i j hi hj=>?_⟩) (fun i j hi hj=>?_))
  ·exact absurd (d4g hs ho) (Nat.lt_irrefl _)
  ·obtain⟨v,hv,_,_⟩:=e2.2.2 i j hi (by rw[e2.2.1 _ (List.getElem_mem hi)];exact hj)
   have e:(w.alloc (.cells vs' el)).heap[w.heap.size]? =some (.cells vs' el):=heap_alloc_new _ _
   simp only[World.cell?, e,Nat.zero_add,Array.getD_eq_getD_getElem?, hv,Option.getD_some]
   rfl
  ·obtain⟨v,hv,hr,_⟩:=e2.2.2 i j hi hj
   have hp:=List.all_eq_true.1 h8 _ (List.getElem_mem hi)
   have:=(i2o hr (List.all_eq_true.1 hp _ (List.getElem_mem hj))).step h.2
   simpa[Array.getD_eq_getD_getElem?, hv]using this
def strip:D→D
 | .cond _ d=>d
 |d=>d
def d4U(g:Bool):D→Prop
 | .cond c _=>g=true→c=true
 | _=>True
theorem d6Z{w:World}{μ:Mu}{st:St}{v:Value}{d:D}(h:VR w μ st v d)(hok:d4U true d):VR w μ st v (strip d):=by
 cases d with
 |cond c d=>
  cases h with
  |tr h=>cases h
  |cond _ _ _ h _=>exact h (hok rfl)
 | _=>exact h
def ev1(G:Gl)(fr:Fr)(x:Operand):D:=strip (ev G fr x)
def eok(G:Gl)(g:Bool)(fr:Fr)(x:Operand):Prop:=d4U g (ev G fr x)
def LR.and(r:LR)(p:Prop):LR:={ r with ok:=p∧r.ok }
def elemOf(i:TI):Nat:=match i.k with
 | .slice e=>e
 | .arr _ e=>e
 | .map _ e=>e
 | .ptr e=>e
 | _=>0
def d2S(s t:TI):Nat:=match t.k with
 | .str=>elemOf s
 | _=>elemOf t
def keyOf(i:TI):Nat:=match i.k with
 | .map k _=>k
 | _=>0
def d2T:D→Bool
 | .bool b=>b
 | _=>false
def d0y(c a b:D):LR:=
 match c,a,b with
 | .bool c,.bool a,.bool b=>d0d (bif c then a else b)
 | _,_,_=>.bad
def aop(P:Program)(G:Gl)(g:Bool)(o:Op)(fr:Fr)(lk:Look)(q:Nat):LR:=
 let E:=ev1 G fr
 let K:=eok G g fr
 match o with
 | .move x| .assign x=>{ d:=E x,ok:=K x }
 | .pick c a b=>(d0y (E c) (E a) (E b)).and (K c∧eok G (g&&d2T (E c)) fr a∧eok G (g&& !d2T (E c)) fr b)
 | .alloc t=>d4h (OD P t) q
 | .box t x=>(i6p (OD P t) q (E x)).and (K x∧(OD P t).k≠ .none)
 | .build t ps=>(d0s (OD P t) (OD P (elemOf (OD P t))) (ps.toList.map fun p=>(p.1,E p.2))).and ((∀p∈ps.toList,K p.2)∧(OD P t).k.agg=true∧(∀n e,(OD P t).k≠ .arr n e))
 | .buildSlice t len ps=>(bif G.imm t then d0x (OD P t) (OD P (elemOf (OD P t))) len (ps.toList.map fun p=>(p.1,E p.2))else Xb (OD P t) (OD P (elemOf (OD P t))) len (ps.toList.map fun p=>(p.1,E p.2)) q).and (∀p∈ps.toList,K p.2)
 | .load t a=>(d3R (OD P t) lk (E a)).and (K a∧(OD P t).k≠ .none)
 | .store t a x=>(ZQ (OD P t) lk (E x) (E a)).and (K a∧K x∧(OD P t).k≠ .none)
 | .binOp op t x y _=>match op,E x with
  | .eql,.bool _| .eql,.agg _| .eql,.OI=>(aEq (OD P t) (Pu P t) false (E x) (E y)).and (K x∧K y)
  | .neq,.bool _| .neq,.agg _| .neq,.OI=>(aEq (OD P t) (Pu P t) true (E x) (E y)).and (K x∧K y)
  |op,_=>(d1d op (E x) (E y)).and (K x∧K y)
 | .unOp op _ x=>(aUn op (E x)).and (K x)
 | .convert s t x=>(Vf (OD P s) (OD P t) (OD P (d2S (OD P s) (OD P t))) (E x)).and (K x)
 | .nilCheck x=>(TA (E x)).and (K x)
 | .makeFunc (.func f) a b=>{ d:=.fn f (a.toList.map E) (b.toList.map E),ok:=(∀x∈a.toList,K x)∧∀x∈b.toList,K x }
 | .makeMap t none=>Uh (OD P t) (OD P (keyOf (OD P t))) (OD P (elemOf (OD P t))).k.agg q
 | .makeSlice t l c=>(Rr (OD P t) (OD P (elemOf (OD P t))) (E l) (E c) q).and (K l∧K c)
 | .slice t x lo hi mx=>(YM (OD P t) (OD P (elemOf (OD P t))).size lk (E x) (lo.map E) (hi.map E) (mx.map E)).and (K x∧(∀y∈lo,K y)∧(∀y∈hi,K y)∧∀y∈mx,K y)
 | .fieldAddr t x f=>(Tf (OD P t) f (E x)).and (K x)
 | .field t x f=>(d0q (OD P t) f (E x)).and (K x)
 | .indexAddr t x i=>(Qw (OD P t) (OD P (elemOf (OD P t))) lk (E x) (E i)).and (K x∧K i)
 | .index t x i=>(XC (OD P t) (OD P (elemOf (OD P t))) (E x) (E i)).and (K x∧K i)
 | .lookup t m k c=>(VQ (OD P t) (OD P (keyOf (OD P t))) (OD P (elemOf (OD P t))) lk c (E k) (E m)).and (K m∧K k)
 | .mapUpdate t m k x=>(RJ (OD P t) (OD P (keyOf (OD P t))) (OD P (elemOf (OD P t))) lk (E k) (E x) (E m)).and (K m∧K k∧K x)
 | .range t x=>(ZV (OD P t) q (E x)).and (K x)
 | .next x b=>(d1Z lk b (E x)).and (K x)
 | .extract x i=>(WS i (E x)).and (K x)
 | .call { callee:=.builtin b,args,argTypes }=>match b,args.toList,argTypes.toList with
  | .len,[x],[t]=>(d9S (OD P t) lk (E x)).and (K x)
  | .append,[s,x],[t,u]=>(QT (OD P t) (OD P (elemOf (OD P t))) (OD P u).k lk (E s) (E x) q).and (K s∧K x)
  | .max,[x,y],_=>(i2j (E x) (E y)).and (K x∧K y)
  | .min,[x,y],_=>(i2k (E x) (E y)).and (K x∧K y)
  | .cap,[x],[t]=>(i3I (OD P t) (E x)).and (K x)
  | _,_,_=>.bad
 | _=>.bad
def FR(w:World)(μ:Mu)(st:St)(tmps:Array Value)(fr:Fr):Prop:=∀t,VR w μ st (tmps.getD t undef) (fr.get t)
def Glob(G:Gl)(w:World)(μ:Mu)(st:St):Prop:=
 (∀g cs,G g=some cs→TR w (own μ st) (.pointer (some ⟨g,0,none⟩)) (.d1a cs))∧∀g c,G.whole g=some c→g<w.heap.size∧¬own μ st g∧∃ty fr,w.heap[g]? =some (.cells c ty fr)
theorem Glob.tab{G:Gl}{w:World}{μ:Mu}{st:St}(h:Glob G w μ st):∀g cs,G g=some cs→TR w (own μ st) (.pointer (some ⟨g,0,none⟩)) (.d1a cs):=h.1
theorem Glob.all{G:Gl}{w:World}{μ:Mu}{st:St}(h:Glob G w μ st):∀g c,G.whole g=some c→g<w.heap.size∧¬own μ st g∧∃ty fr,w.heap[g]? =some (.cells c ty fr):=h.2
theorem Fr.d2U(fr:Fr)(t t':Nat)(d:D):(fr.put t d).get t'=if t'=t then d else fr.get t':=by
 induction fr with
 |nil=>
  simp only[Fr.put,Fr.get]
  by_cases h:t=t'
  ·simp[h]
  ·simp[h,Ne.symm h]
 |cons p fr ih=>
  obtain⟨k,e⟩:=p
  simp only[Fr.put]
  by_cases h:k=t
  ·subst h
   simp only[if_true,Fr.get]
   by_cases h2:k=t'
   ·subst h2;simp
   ·simp[h2,Ne.symm h2]
  ·simp only[if_neg h,Fr.get,ih]
   by_cases h2:k=t'
   ·subst h2;simp[h]
   ·simp[h2]
theorem Fr.i2q(keep:List Nat)(fr:Fr)(t:Nat):(Fr.only keep fr).get t=fr.get t∨(Fr.only keep fr).get t= .any:=by
 induction fr with
 |nil=>exact .inl rfl
 |cons p fr ih=>
  obtain⟨k,e⟩:=p
  simp only[Fr.only]
  split
  ·simp only[Fr.get]
   split
   ·exact .inl rfl
   ·exact ih
  ·rename_i hk
   simp only[Fr.get]
   split
   ·rename_i h;subst h
    right
    have:∀fr:Fr,(Fr.only keep fr).get k= .any:=fun fr=>by
     induction fr with
     |nil=>rfl
     |cons p fr ih=>
      obtain⟨k',e'⟩:=p
      simp only[Fr.only]
      split
      ·rename_i hk'
       simp only[Fr.get]
       rw[if_neg (fun h=>hk (by rw[←h];exact hk'))]
       exact ih
      ·exact ih
    exact this fr
   ·exact ih
theorem FR.put{w:World}{μ:Mu}{st:St}{tmps:Array Value}{fr:Fr}{t:Nat}{v:Value}{d:D}(h:FR w μ st tmps fr)(hv:VR w μ st v d)(ht:t<tmps.size):FR w μ st (tmps.setIfInBounds t v) (fr.put t d):=fun t'=>by
 rw[Fr.d2U]
 by_cases e:t'=t
 ·subst e
  rw[if_pos rfl,XR (v:=v) (by simp[ht])]
  exact hv
 ·rw[if_neg e]
  have:(tmps.setIfInBounds t v).getD t' undef=tmps.getD t' undef:=by simp[Array.getD_eq_getD_getElem?, Array.getElem?_setIfInBounds_ne (Ne.symm e)]
  rw[this]
  exact h t'
theorem FR.only{w:World}{μ:Mu}{st:St}{tmps:Array Value}{fr:Fr}(keep:List Nat)(h:FR w μ st tmps fr):FR w μ st tmps (Fr.only keep fr):=fun t=>by
 rcases Fr.i2q keep fr t with e|e
 ·rw[e];exact h t
 ·rw[e];exact .any _
theorem FR.step{w w':World}{μ μ':Mu}{st st':St}{tmps:Array Value}{fr:Fr}(h:FR w μ st tmps fr)(s:Step w μ st w' μ' st'):FR w' μ' st' tmps fr:=fun t=>(h t).step s
theorem Glob.step{G:Gl}{w w':World}{μ μ':Mu}{st st':St}(h:Glob G w μ st)(s:Step w μ st w' μ' st'):Glob G w' μ' st':=
 ⟨fun g cs e=>(h.tab g cs e).step s,fun g c e=>let ⟨h1,h2,ty,fr,h3⟩:=h.all g c e;⟨Nat.lt_of_lt_of_le h1 s.size,fun ho=>(s.own g ho).elim h2 (fun h=>absurd h (by omega)),ty,fr,(s.imm g h1 h2).trans h3⟩⟩
theorem d7Q{G:Gl}{w:World}{μ:Mu}{st:St}{a:Act}{fr:Fr}(hf:FR w μ st a.tmps fr)(hg:Glob G w μ st)(x:Operand):VR w μ st (a.eval x) (ev G fr x):=by
 cases x with
 |tmp t=>exact hf t
 |const v=>exact d2x _ _ _ _
 |global g=>
  simp only[ev]
  cases h:G g with
  |none=>exact .any _
  |some cs=>exact .tr (hg.tab g cs h)
 |func f=>exact .fn f #[] #[] [] [] rfl rfl (fun j h=>absurd h (Nat.not_lt_zero _)) (fun j h=>absurd h (Nat.not_lt_zero _))
theorem Yj{G:Gl}{w:World}{μ:Mu}{st:St}{a:Act}{fr:Fr}(hf:FR w μ st a.tmps fr)(hg:Glob G w μ st){x:Operand}(hok:eok G true fr x):VR w μ st (a.eval x) (ev1 G fr x):=
 d6Z (d7Q hf hg x) hok
theorem d2k{G:Gl}{w:World}{μ:Mu}{st:St}{a:Act}{fr:Fr}(hf:FR w μ st a.tmps fr)(hg:Glob G w μ st):∀(ps:List (Nat×Operand)),(∀p∈ps,eok G true fr p.2)→
 d2F w μ st (ps.map fun(i,x)=>(i,a.eval x)) (ps.map fun p=>(p.1,ev1 G fr p.2))
 | [],_=>trivial
 |(i,x)::ps,h=>⟨rfl,Yj hf hg (h (i,x) (by simp)),d2k hf hg ps (fun p hp=>h p (by simp[hp]))⟩
theorem i0h{G:Gl}{w:World}{μ:Mu}{st:St}{a:Act}{fr:Fr}(hf:FR w μ st a.tmps fr)(hg:Glob G w μ st)(x:Option Operand)(h:∀y∈x,eok G true fr y):i4s w μ st (x.map a.eval) (x.map (ev1 G fr)):=by
 cases x with
 |none=>trivial
 |some x=>exact Yj hf hg (h x rfl)
theorem Ui{r:LR}{q:Nat}{st:St}(h1:r.up=none)(h2:r.new=none):r.app q st=st:=by simp[LR.app,h1,h2]
theorem i3L{r:LR}{q o:Nat}{st:St}{ob:Ob}(h1:r.up=some (o,ob))(h2:r.new=none):r.app q st=st.set o (some ob):=by simp[LR.app,h1,h2]
theorem d7a{r:LR}{q:Nat}{st:St}{ob:Ob}(h1:r.up=none)(h2:r.new=some ob):r.app q st=st.set q (some ob):=by simp[LR.app,h1,h2]
def LR.still(r:LR):Prop:=r.up=none∧r.new=none
theorem Yz(i:TI)(lk:Look)(a:D):(d3R i lk a).still:=by unfold d3R;(repeat' split)<;>exact⟨rfl,rfl⟩
theorem WA(i:TI)(f:Nat)(a:D):(Tf i f a).still:=by unfold Tf;(repeat' split)<;>exact⟨rfl,rfl⟩
theorem YW(i:TI)(f:Nat)(a:D):(d0q i f a).still:=by unfold d0q;(repeat' split)<;>exact⟨rfl,rfl⟩
theorem Uj(i:TI)(e:TI)(lk:Look)(x y:D):(Qw i e lk x y).still:=by unfold Qw;(repeat' split)<;>exact⟨rfl,rfl⟩
theorem YX(i e:TI)(x y:D):(XC i e x y).still:=by unfold XC;(repeat' split)<;>exact⟨rfl,rfl⟩
theorem XD(i:TI)(e:Nat)(lk:Look)(x:D)(lo hi mx:Option D):(YM i e lk x lo hi mx).still:=by unfold YM;(repeat' split)<;>exact⟨rfl,rfl⟩
theorem YZ(i e:TI)(ps:List (Nat×D)):(d0s i e ps).still:=by unfold d0s;(repeat' split)<;>exact⟨rfl,rfl⟩
theorem WT(i k e:TI)(lk:Look)(c:Bool)(x y:D):(VQ i k e lk c x y).still:=by unfold VQ;(repeat' split)<;>exact⟨rfl,rfl⟩
theorem d2V(k:IntKind)(n:Int):(arith k n).still:=⟨rfl,rfl⟩
theorem d1f(op:BinOp)(x y:D):(d1d op x y).still:=by unfold d1d;(repeat' split)<;>first|exact⟨rfl,rfl⟩|exact d2V _ _
theorem d2W(i:TI)(f:Option (List Nat))(n:Bool)(x y:D):(aEq i f n x y).still:=by unfold aEq;(repeat' split)<;>exact⟨rfl,rfl⟩
theorem d2X(op:UnOp)(x:D):(aUn op x).still:=by unfold aUn;(repeat' split)<;>first|exact⟨rfl,rfl⟩|exact d2V _ _
theorem Xd(x:D):(TA x).still:=by unfold TA;(repeat' split)<;>exact⟨rfl,rfl⟩
theorem XS(s t e:TI)(x:D):(Vf s t e x).still:=by unfold Vf;(repeat' split)<;>exact⟨rfl,rfl⟩
theorem XT(i:Nat)(x:D):(WS i x).still:=by unfold WS;(repeat' split)<;>exact⟨rfl,rfl⟩
theorem Yk(i:TI)(lk:Look)(x:D):(d9S i lk x).still:=by unfold d9S;(repeat' split)<;>exact⟨rfl,rfl⟩
theorem Yl(i:TI)(x:D):(i3I i x).still:=by unfold i3I;(repeat' split)<;>exact⟨rfl,rfl⟩
theorem Zx(x y:D):(i2j x y).still:=by unfold i2j;(repeat' split)<;>exact⟨rfl,rfl⟩
theorem Zy(x y:D):(i2k x y).still:=by unfold i2k;(repeat' split)<;>exact⟨rfl,rfl⟩
theorem Za(x y z:D):(d0y x y z).still:=by unfold d0y;(repeat' split)<;>exact⟨rfl,rfl⟩
section
variable {P:Program} {G:Gl} {o:Oper} {a:Act} {w:World} {μ:Mu} {st:St} {fr:Fr} {q:Nat}
def Does(P:Program)(s:Sem Next)(w:World)(μ:Mu)(st:St)(r:LR)(q:Nat):Prop:=
 ∃nx v w' μ',s.run P w= .ok nx w'∧(nx= .value v∨(nx= .skip∧v=undef))∧Sim w' μ' (r.app q st)∧Step w μ st w' μ' (r.app q st)∧VR w' μ' (r.app q st) v r.d
theorem Rc{s:Sem Value}{r:LR}{p:Prop}(hs:Sim w μ st)(hst:r.still)(h:∃v,s.run P w= .ok v w∧VR w μ st v r.d):Does P (do pure (.value (←s))) w μ st (r.and p) q:=by
 obtain⟨v,h1,h2⟩:=h
 refine⟨.value v,v,w,μ,by simp[h1],.inl rfl,?_,?_,?_⟩<;>rw[Ui (st:=st) (r:=r.and p) hst.1 hst.2]
 ·exact hs
 ·exact Step.refl _ _ _
 ·exact h2
theorem d2l{s:Sem Value}{r:LR}{p:Prop}(hu:r.up=none)(h:∃v w' μ' ob,s.run P w= .ok v w'∧r.new=some ob∧Sim w' μ' (st.set q (some ob))∧Step w μ st w' μ' (st.set q (some ob))∧VR w' μ' (st.set q (some ob)) v r.d):
 Does P (do pure (.value (←s))) w μ st (r.and p) q:=by
 obtain⟨v,w',μ',ob,h1,h2,h3,h4,h5⟩:=h
 have e:=d7a (r:=r.and p) (q:=q) (st:=st) (ob:=ob) hu h2
 exact⟨.value v,v,w',μ',by simp[h1],.inl rfl,by rw[e];exact h3,by rw[e];exact h4,by rw[e];exact h5⟩
theorem i0i{s:Sem Unit}{r:LR}{p:Prop}(hn:r.new=none)(hd:r.d= .any)(h:∃w' o ob,s.run P w= .ok () w'∧r.up=some (o,ob)∧Sim w' μ (st.set o (some ob))∧Step w μ st w' μ (st.set o (some ob))):
 Does P (do s;pure .skip) w μ st (r.and p) q:=by
 obtain⟨w',o,ob,h1,h2,h3,h4⟩:=h
 have e:=i3L (r:=r.and p) (q:=q) (st:=st) (ob:=ob) h2 hn
 exact⟨.skip,undef,w',μ,by simp[h1],.inr ⟨rfl,rfl⟩,by rw[e];exact h3,by rw[e];exact h4,by rw[e,show(r.and p).d=r.d from rfl,hd];exact .any _⟩
theorem d7b{i:TI}{e:TI}{lk:Look}{x y:D}(h:(Qw i e lk x y).ok):(∃t,i.k= .slice t)∨∃n t,i.k= .arr n t:=by
 unfold Qw at h
 (repeat' split at h)<;>first|exact h.elim|exact .inl ⟨_,by assumption⟩|exact .inr ⟨_,_,by assumption⟩
theorem i4v{i e:TI}{x y:D}(h:(XC i e x y).ok):i.k= .str∨∃n t,i.k= .arr n t:=by
 unfold XC at h
 (repeat' split at h)<;>first|exact h.elim|exact .inl (by assumption)|exact .inr ⟨_,_,by assumption⟩
theorem i2r{i k e:TI}{lk:Look}{c:Bool}{x y:D}(h:(VQ i k e lk c x y).ok):∃a b,i.k= .map a b:=by
 unfold VQ at h
 (repeat' split at h)<;>first|exact h.elim|exact h.1
theorem d7c{i k e:TI}{lk:Look}{x y z:D}(h:(RJ i k e lk x y z).ok):∃a b,i.k= .map a b:=by
 unfold RJ at h
 (repeat' split at h)<;>first|exact h.elim|exact h.1
theorem d7d{i e:TI}{l c:D}{q:Nat}(h:(Rr i e l c q).ok):∃t,i.k= .slice t:=by
 unfold Rr at h
 split at h
 ·exact h.1
 ·exact h.elim
theorem i2s{i e:TI}{xk:TK}{lk:Look}{s x:D}{q:Nat}(h:(QT i e xk lk s x q).ok):∃t,i.k= .slice t:=by
 unfold QT at h
 (repeat' split at h)<;>first|exact h.elim|exact h.1|exact h.1.1
theorem d1g(i:TI)(lk:Look)(x a:D):(ZQ i lk x a).new=none∧(ZQ i lk x a).d= .any:=by unfold ZQ;(repeat' split)<;>exact⟨rfl,rfl⟩
theorem XU(i k e:TI)(lk:Look)(x y z:D):(RJ i k e lk x y z).new=none∧(RJ i k e lk x y z).d= .any:=by unfold RJ;(repeat' split)<;>exact⟨rfl,rfl⟩
theorem d0z(i e:TI)(l c:D)(q:Nat):(Rr i e l c q).up=none:=by unfold Rr;split<;>rfl
theorem d2Y(i:TI)(q:Nat)(x:D):(ZV i q x).up=none:=by unfold ZV;split<;>rfl
theorem d5P(lk:Look)(b:Bool)(x:D):(d1Z lk b x).new=none:=by unfold d1Z;(repeat' split)<;>rfl
theorem d2Z(i k:TI)(ag:Bool)(q:Nat):(Uh i k ag q).up=none:=by unfold Uh;split<;>rfl
theorem d7e{vc va vb:Value}{c a b:D}(hc:VR w μ st vc c)(ha:d2T c=true→VR w μ st va a)(hb:d2T c=false→VR w μ st vb b)(hok:(d0y c a b).ok):
 ∃v,(do pure (.value (if ←asBool vc then va else vb)):Sem Next).run P w= .ok (.value v) w∧VR w μ st v (d0y c a b).d:=by
 unfold d0y at hok⊢
 split at hok
 ·rename_i c a b
  have:=Wx hc;subst this
  refine⟨.bool (bif c then a else b),?_,Rv _ _ _ _⟩
  cases c
  ·have:=Wx (hb rfl);subst this;simp[asBool]
  ·have:=Wx (ha rfl);subst this;simp[asBool]
 ·exact hok.elim
theorem RN{i:TI}{t:Nat}(h:i.k= .slice t):elemOf i=t:=by simp[elemOf,h]
theorem d4q{i:TI}{n t:Nat}(h:i.k= .arr n t):elemOf i=t:=by simp[elemOf,h]
theorem Zz{i:TI}{n t:Nat}(h:i.k= .map n t):elemOf i=t∧keyOf i=n:=by simp[elemOf,keyOf,h]
theorem i4w{op:BinOp}{t:TypeId}{x y:Operand}{vx vy:Value}{v:Value}(h1:(binOp op t vx vy).run P w= .ok v w)(h2:(∃k a k' b,vx= .int k a∧vy= .int k' b)∨∃a b,vx= .string a∧vy= .string b):
 (do eqGuard op t x y vx vy;binOp op t vx vy:Sem Value).run P w= .ok v w:=by
 rcases h2 with⟨k,a,k',b,rfl,rfl⟩|⟨a,b,rfl,rfl⟩
 ·simp only[Sem.run_bind,d6U,Result.andThen_ok];exact h1
 ·simp only[Sem.run_bind,d6V,Result.andThen_ok];exact h1
def needs:Op→Bool
 | .alloc _| .box _ _| .buildSlice _ _ _| .makeMap _ _| .makeSlice _ _ _| .range _ _| .call { callee:=.builtin .append,.. }=>true
 | _=>false
set_option maxHeartbeats 1000000 in
theorem d3a(hs:Sim w μ st)(hf:FR w μ st a.tmps fr)(hg:Glob G w μ st)(hq0:needs o.op=true→st[q]? =some (some .resv))
 (hok:(aop P G true o.op fr (look st) q).ok):Does P (execOp a.eval o) w μ st (aop P G true o.op fr (look st) q) q:=by
 have E:∀x,eok G true fr x→VR w μ st (a.eval x) (ev1 G fr x):=fun x h=>Yj hf hg h
 obtain⟨dst,op,type,pos,after,guard⟩:=o
 cases op with
 |move x=>exact⟨.value (a.eval x),_,w,μ,rfl,.inl rfl,by rw[Ui rfl rfl];exact hs,by rw[Ui rfl rfl];exact Step.refl _ _ _,by rw[Ui rfl rfl];exact E x hok⟩
 |assign x=>exact⟨.value (a.eval x),_,w,μ,rfl,.inl rfl,by rw[Ui rfl rfl];exact hs,by rw[Ui rfl rfl];exact Step.refl _ _ _,by rw[Ui rfl rfl];exact E x hok⟩
 |pick c x y=>
  obtain⟨⟨k1,k2,k3⟩,hok⟩:=hok
  have hx:d2T (ev1 G fr c)=true→VR w μ st (a.eval x) (ev1 G fr x):=fun h=>E x (by simpa[h]using k2)
  have hy:d2T (ev1 G fr c)=false→VR w μ st (a.eval y) (ev1 G fr y):=fun h=>E y (by simpa[h]using k3)
  obtain⟨v,h1,h2⟩:=d7e (P:=P) (E c k1) hx hy hok
  have hst:=Za (ev1 G fr c) (ev1 G fr x) (ev1 G fr y)
  refine⟨.value v,v,w,μ,h1,.inl rfl,?_,?_,?_⟩<;>simp only[aop]<;>rw[Ui (r:=LR.and _ _) hst.1 hst.2]
  ·exact hs
  ·exact Step.refl _ _ _
  ·exact h2
 |alloc t=>
  have hq:=hq0 rfl
  obtain⟨v,w',μ',ob,h1,h2,h3,h4,h5⟩:=d6L (P:=P) hs hok hq
  have e:=d7a (r:=d4h (OD P t) q) (q:=q) (st:=st) (ob:=ob) rfl h2
  simp only[aop]
  exact⟨.value v,v,w',μ',by simp[execOp,h1],.inl rfl,by rw[e];exact h3,by rw[e];exact h4,by rw[e];exact h5⟩
 |box t x=>
  have hq:=hq0 rfl
  obtain⟨⟨k1,_⟩,hok⟩:=hok
  exact d2l rfl (d9R (P:=P) hs (E x k1) hok hq)
 |build t ps=>
  obtain⟨⟨k1,k2,k3⟩,hok⟩:=hok
  have hk:∃fs,(OD P t).k= .struct fs:=by
   cases hkk:(OD P t).k<;>rw[hkk]at k2<;>simp[TK.agg]at k2
   ·exact⟨_,rfl⟩
   ·exact absurd hkk (k3 _ _)
  exact Rc hs (YZ _ _ _) (d6R (ps:=ps.map fun(i,x)=>(i,a.eval x)) (by simpa using d2k hf hg ps.toList k1) (.inl hk) hok)
 |buildSlice t len ps=>
  have hq:=hq0 rfl
  obtain⟨k1,hok⟩:=hok
  cases hi:G.imm t with
  |true=>
  rw[hi]at hok
  obtain⟨el,hel⟩:=hok.1
  simp only[cond_true]at hok
  rw[RN hel]at hok
  obtain⟨v,w',h1,h2,h3,h4⟩:=d3W (P:=P) (t:=t) (el:=el) (len:=len) (q:=q) (ps:=ps.map fun(i,x)=>(i,a.eval x)) hs (by simpa using d2k hf hg ps.toList k1) hel hok hq
  simp only[aop,hi,cond_true]
  rw[RN hel]
  refine⟨.value v,v,w',μ,by simp[execOp,h1],.inl rfl,?_,?_,?_⟩<;>rw[Ui rfl rfl]
  ·exact h2
  ·exact h3
  ·exact h4
  |false=>
  rw[hi]at hok
  simp only[cond_false]at hok
  obtain⟨el,hel⟩:=hok.1
  rw[RN hel]at hok
  have:=d1X (P:=P) (t:=t) (el:=el) (len:=len) (q:=q) (ps:=ps.map fun(i,x)=>(i,a.eval x)) hs (by simpa using d2k hf hg ps.toList k1) hel hok hq
  simp only[aop,hi,cond_false]
  rw[RN hel]
  exact d2l rfl this
 |insert=>exact hok.elim
 |load t x=>
  obtain⟨⟨k1,k2⟩,hok⟩:=hok
  exact Rc hs (Yz _ _ _) (d4k (P:=P) hs (E x k1) hok k2)
 |store t x y=>
  obtain⟨⟨k1,k2,k3⟩,hok⟩:=hok
  exact i0i (d1g _ _ _ _).1 (d1g _ _ _ _).2 (d6K (P:=P) hs (E x k1) (E y k2) rfl hok k3)
 |ready=>exact hok.elim
 |waits=>exact hok.elim
 |nilCheck x=>
  obtain⟨k1,hok⟩:=hok
  have hx:=E x k1
  have hst:=Xd (ev1 G fr x)
  obtain⟨⟨ad,h1⟩,h2⟩:=d3U hx hok
  show Does P _ w μ st ((TA (ev1 G fr x)).and (eok G true fr x)) q
  refine⟨.value (a.eval x),a.eval x,w,μ,by simp only[execOp];rw[h1];rfl,.inl rfl,?_,?_,?_⟩<;>rw[Ui (r:=(TA (ev1 G fr x)).and (eok G true fr x)) hst.1 hst.2]
  ·exact hs
  ·exact Step.refl _ _ _
  ·exact h2
 |binOp op t x y ty=>
  have plain:∀(_:eok G true fr x∧eok G true fr y) (_:(d1d op (ev1 G fr x) (ev1 G fr y)).ok),Does P (execOp a.eval ⟨dst,.binOp op t x y ty,type,pos,after,guard⟩) w μ st ((d1d op (ev1 G fr x) (ev1 G fr y)).and (eok G true fr x∧eok G true fr y)) q:=by
   intro⟨k1,k2⟩ hok
   obtain⟨v,h1,h2,h3⟩:=d9V (P:=P) (t:=t) (E x k1) (E y k2) hok
   exact Rc hs (d1f _ _ _) ⟨v,i4w h1 h3,h2⟩
  have eqs:∀neg,(op=if neg then .neq else .eql)→∀(_:eok G true fr x∧eok G true fr y) (_:(aEq (OD P t) (Pu P t) neg (ev1 G fr x) (ev1 G fr y)).ok),
   Does P (execOp a.eval ⟨dst,.binOp op t x y ty,type,pos,after,guard⟩) w μ st ((aEq (OD P t) (Pu P t) neg (ev1 G fr x) (ev1 G fr y)).and (eok G true fr x∧eok G true fr y)) q:=by
   intro neg hop ⟨k1,k2⟩ hok
   obtain⟨v,h1,h2⟩:=i2m (P:=P) (t:=t) (ox:=x) (oy:=y) (E x k1) (E y k2) hok
   rw[←hop]at h1
   exact Rc hs (d2W _ _ _ _ _) ⟨v,h1,h2⟩
  have key:(aop P G true (.binOp op t x y ty) fr (look st) q=(d1d op (ev1 G fr x) (ev1 G fr y)).and (eok G true fr x∧eok G true fr y))∨∃neg,(op=if neg then .neq else .eql)∧
   aop P G true (.binOp op t x y ty) fr (look st) q=(aEq (OD P t) (Pu P t) neg (ev1 G fr x) (ev1 G fr y)).and (eok G true fr x∧eok G true fr y):=by
   simp only[aop]
   split<;>first|exact .inl rfl|exact .inr ⟨false,rfl,rfl⟩|exact .inr ⟨true,rfl,rfl⟩
  rcases key with key|⟨neg,hop,key⟩
  ·rw[key]at hok ⊢; exact plain hok.1 hok.2
  ·rw[key]at hok ⊢; exact eqs neg hop hok.1 hok.2
 |unOp op t x=>
  obtain⟨k1,hok⟩:=hok
  exact Rc hs (d2X _ _) (i2n (P:=P) (E x k1) hok)
 |convert s t x=>
  obtain⟨k1,hok⟩:=hok
  have hst:=XS (OD P s) (OD P t) (OD P (d2S (OD P s) (OD P t))) (ev1 G fr x)
  obtain⟨v,w',h1,h2,h3,h4⟩:=d4Q (P:=P) hs (E x k1) (fun e he=>by simp[d2S,elemOf,he]) (fun h e he=>by simp[d2S,elemOf,h,he]) hok
  show Does P _ w μ st ((Vf (OD P s) (OD P t) (OD P (d2S (OD P s) (OD P t))) (ev1 G fr x)).and (eok G true fr x)) q
  refine⟨.value v,v,w',μ,by simp[execOp,h1],.inl rfl,?_,?_,?_⟩<;>rw[Ui (r:=(Vf (OD P s) (OD P t) (OD P (d2S (OD P s) (OD P t))) (ev1 G fr x)).and (eok G true fr x)) hst.1 hst.2]
  ·exact h2
  ·exact h3
  ·exact h4
 |sliceToArrayPointer=>exact hok.elim
 |makeInterface=>exact hok.elim
 |makeFunc fn first cap=>
  cases fn with
  |func f=>
   obtain⟨k1,k2⟩:=hok
   refine⟨.value (.func (.func f) (first.map a.eval) (cap.map a.eval)),_,w,μ,rfl,.inl rfl,?_,?_,?_⟩<;>rw[Ui rfl rfl]
   ·exact hs
   ·exact Step.refl _ _ _
   ·refine .fn f _ _ _ _ (by simp) (by simp) (fun j hj=>?_) (fun j hj=>?_)
    ·simp at hj
     rw[XR (v:=a.eval first[j]) (by simp[hj])]
     simpa using E first[j] (k1 _ (by simp))
    ·simp at hj
     rw[XR (v:=a.eval cap[j]) (by simp[hj])]
     simpa using E cap[j] (k2 _ (by simp))
  | _=>exact hok.elim
 |makeMap t r=>
  have hq:=hq0 rfl
  cases r with
  |none=>
   obtain⟨v,w',μ',ob,h1,h2,h3,h4,h5⟩:=d4N (P:=P) hs hok hq
   have e:=d7a (r:=Uh (OD P t) (OD P (keyOf (OD P t))) (OD P (elemOf (OD P t))).k.agg q) (q:=q) (st:=st) (ob:=ob) (d2Z _ _ _ _) h2
   simp only[aop]
   exact⟨.value v,v,w',μ',by simp[execOp,h1],.inl rfl,by rw[e];exact h3,by rw[e];exact h4,by rw[e];exact h5⟩
  |some _=>exact hok.elim
 |makeChan=>exact hok.elim
 |makeSlice t l c=>
  have hq:=hq0 rfl
  obtain⟨⟨k1,k2⟩,hok⟩:=hok
  obtain⟨el,hel⟩:=d7d hok
  rw[RN hel]at hok
  simp only[aop]
  rw[RN hel]
  exact d2l (d0z _ _ _ _ _) (d2K (P:=P) hs (E l k1) (E c k2) hel hok hq)
 |slice t x lo hi mx=>
  obtain⟨⟨k1,k2,k3,k4⟩,hok⟩:=hok
  exact Rc hs (XD _ _ _ _ _ _ _) (d6Q (P:=P) hs (E x k1) (i0h hf hg lo k2) (i0h hf hg hi k3) (i0h hf hg mx k4) (fun el h=>by rw[RN h]) hok)
 |fieldAddr t x f=>
  obtain⟨k1,hok⟩:=hok
  exact Rc hs (WA _ _ _) (d2B (P:=P) (E x k1) hok)
 |field t x f=>
  obtain⟨k1,hok⟩:=hok
  exact Rc hs (YW _ _ _) (d6O (P:=P) (E x k1) hok)
 |indexAddr t x i=>
  obtain⟨⟨k1,k2⟩,hok⟩:=hok
  have hel:(OD P t).k= .slice (elemOf (OD P t))∨∃n,(OD P t).k= .arr n (elemOf (OD P t)):=by
   rcases d7b hok with⟨e,h⟩|⟨n,e,h⟩
   ·rw[RN h];exact .inl h
   ·rw[d4q h];exact .inr ⟨n,h⟩
  exact Rc hs (Uj _ _ _ _ _) (d2C (P:=P) hs (E x k1) (E i k2) hel hok)
 |index t x i=>
  obtain⟨⟨k1,k2⟩,hok⟩:=hok
  have hel:(OD P t).k= .str∨∃n,(OD P t).k= .arr n (elemOf (OD P t)):=by
   rcases i4v hok with h|⟨n,e,h⟩
   ·exact .inl h
   ·rw[d4q h];exact .inr ⟨n,h⟩
  exact Rc hs (YX _ _ _ _) (d6P (P:=P) (E x k1) (E i k2) hel hok)
 |lookup t m k c=>
  obtain⟨⟨k1,k2⟩,hok⟩:=hok
  obtain⟨kt,et,h⟩:=i2r hok
  have e1:=(Zz h).1
  have e2:=(Zz h).2
  simp only[aop]
  rw[e1,e2]at hok⊢
  exact Rc hs (WT _ _ _ _ _ _ _) (d5L (P:=P) hs (E m k1) (E k k2) h hok)
 |mapUpdate t m k x=>
  obtain⟨⟨k1,k2,k3⟩,hok⟩:=hok
  obtain⟨kt,et,h⟩:=d7c hok
  have e1:=(Zz h).1
  have e2:=(Zz h).2
  simp only[aop]
  rw[e1,e2]at hok⊢
  exact i0i (XU _ _ _ _ _ _ _).1 (XU _ _ _ _ _ _ _).2 (d2O (P:=P) hs (E m k1) (E k k2) (E x k3) h rfl hok)
 |mapEntry=>exact hok.elim
 |entryStore=>exact hok.elim
 |range t x=>
  have hq:=hq0 rfl
  obtain⟨k1,hok⟩:=hok
  exact d2l (d2Y _ _ _) (d6Y (P:=P) hs (E x k1) hok hq)
 |next x b=>
  obtain⟨k1,hok⟩:=hok
  obtain⟨v,w',o,ob,h1,h2,h3,h4,h5⟩:=d9d (P:=P) (t:=type) hs (E x k1) hok
  have e:=i3L (r:=(d1Z (look st) b (ev1 G fr x)).and (eok G true fr x)) (q:=q) (st:=st) (ob:=ob) h2 (d5P _ _ _)
  exact⟨.value v,v,w',μ,by simp[execOp,h1],.inl rfl,by simp only[aop];rw[e];exact h3,by simp only[aop];rw[e];exact h4,by simp only[aop];rw[e];exact h5⟩
 |entry=>exact hok.elim
 |typeAssert=>exact hok.elim
 |extract x i=>
  obtain⟨k1,hok⟩:=hok
  exact Rc hs (XT _ _) (d4R (P:=P) (E x k1) hok)
 |call c=>
  obtain⟨callee,args,argTypes⟩:=c
  cases callee with
  |builtin b=>
   simp only[aop]at hok⊢
   split at hok
   ·rename_i x t ha ht
    obtain⟨k1,hok⟩:=hok
    obtain⟨v,h1,h2⟩:=i0a (P:=P) (ty:=type) hs (E x k1) hok
    have e1:args= #[x]:=by rw[←Array.toArray_toList (xs:=args),ha]
    have e2:argTypes= #[t]:=by rw[←Array.toArray_toList (xs:=argTypes),ht]
    subst e1;subst e2
    have:=Rc (q:=q) (p:=eok G true fr x) hs (Yk (OD P t) (look st) (ev1 G fr x)) ⟨v,h1,h2⟩
    simpa[execOp,resolve,invoke,builtin]using this
   ·rename_i s x t u ha ht
    have hq:=hq0 rfl
    obtain⟨⟨k1,k2⟩,hok⟩:=hok
    obtain⟨el,hel⟩:=i2s hok
    rw[RN hel]at hok⊢
    obtain⟨v,w',μ',h1,h2,h3,h4⟩:=d5O (P:=P) (ty:=type) hs (E s k1) (E x k2) hel rfl hok hq
    have e1:args= #[s,x]:=by rw[←Array.toArray_toList (xs:=args),ha]
    have e2:argTypes= #[t,u]:=by rw[←Array.toArray_toList (xs:=argTypes),ht]
    subst e1;subst e2
    exact⟨.value v,v,w',μ',by simp[execOp,resolve,invoke,builtin,h1],.inl rfl,h2,h3,h4⟩
   ·rename_i x y ha
    obtain⟨⟨k1,k2⟩,hok⟩:=hok
    obtain⟨v,h1,h2⟩:=i0c (P:=P) (ts:=argTypes) (ty:=type) (E x k1) (E y k2) hok
    have e1:args= #[x,y]:=by rw[←Array.toArray_toList (xs:=args),ha]
    subst e1
    have:=Rc (q:=q) (p:=eok G true fr x∧eok G true fr y) hs (Zx (ev1 G fr x) (ev1 G fr y)) ⟨v,h1,h2⟩
    simpa[execOp,resolve,invoke,builtin]using this
   ·rename_i x y ha
    obtain⟨⟨k1,k2⟩,hok⟩:=hok
    obtain⟨v,h1,h2⟩:=i0d (P:=P) (ts:=argTypes) (ty:=type) (E x k1) (E y k2) hok
    have e1:args= #[x,y]:=by rw[←Array.toArray_toList (xs:=args),ha]
    subst e1
    have:=Rc (q:=q) (p:=eok G true fr x∧eok G true fr y) hs (Zy (ev1 G fr x) (ev1 G fr y)) ⟨v,h1,h2⟩
    simpa[execOp,resolve,invoke,builtin]using this
   ·rename_i x t ha ht
    obtain⟨k1,hok⟩:=hok
    obtain⟨v,h1,h2⟩:=i0b (P:=P) (ty:=type) (E x k1) hok
    have e1:args= #[x]:=by rw[←Array.toArray_toList (xs:=args),ha]
    have e2:argTypes= #[t]:=by rw[←Array.toArray_toList (xs:=argTypes),ht]
    subst e1;subst e2
    have:=Rc (q:=q) (p:=eok G true fr x) hs (Yl (OD P t) (ev1 G fr x)) ⟨v,h1,h2⟩
    simpa[execOp,resolve,invoke,builtin]using this
   ·exact hok.elim
  |value f=>exact hok.elim
  |invoke r m=>exact hok.elim
 |go=>exact hok.elim
 |defer=>exact hok.elim
 |panic=>exact hok.elim
 |send=>exact hok.elim
 |recv=>exact hok.elim
 |select=>exact hok.elim
end
mutual
def D.sc(n:Nat):D→Prop
 | .agg cs=>D.scs n cs
 | .tup cs=>D.scs n cs
 | .fn _ a b=>D.scs n a∧D.scs n b
 | .ref _ o _ _ _=>o<n
 | .ptr o _ _ _=>o<n
 | .mp o=>o<n
 | .it o=>o<n
 | .cond g d=>g=true→D.sc n d
 | _=>True
def D.scs(n:Nat):List D→Prop
 | []=>True
 |d::r=>D.sc n d∧D.scs n r
end
theorem Tm{n:Nat}:∀ {cs:List D},D.scs n cs→∀j (h:j<cs.length),D.sc n (cs[j])
 |d::r,h,0,_=>h.1
 |d::r,h,j+1,hj=>Tm (cs:=r) h.2 j (by simpa using hj)
theorem d0A{n:Nat}:∀ {cs:List D},(∀j (h:j<cs.length),D.sc n (cs[j]))→D.scs n cs
 | [],_=>trivial
 |d::r,h=>⟨h 0 (by simp),d0A fun j hj=>h (j+1) (by simpa using hj)⟩
def Ob.sc(n:Nat):Ob→Prop
 | .arr _ _ _ es=>∀e∈es,D.scs n e
 | .mps _ es=>∀e∈es,D.scs n e.2
 | .mpi _ _ es=>∀e∈es,D.scs n e.2
 | _=>True
def YO(n:Nat)(st:St):Prop:=∀(o:Nat) (ob:Ob),st[o]? =some (some ob)→ob.sc n
theorem TR.sc{w:World}{own:Nat→Prop}{v:Value}{d:D}(h:TR w own v d)(n:Nat):D.sc n d:=by cases h<;>trivial
abbrev WM(P:Program)(f:FuncId):Bool:=match P.funcs[f]? with|some fn=>fn.body.isSome&&fn.name != "runtime.NumGoroutine" |none=>false
def d5Q(P:Program)(f:FuncId)(vs:Array Value)(w:World)(Q:Ending→World→Prop):Prop:=
 (WM P f=true∧Calls P f vs w Q)∨∃v,(callFunc f vs).run P w= .ok (.value v) w∧Q (Ending.returned v) w
theorem d5Q.mono{P:Program}{f:FuncId}{vs:Array Value}{w:World}{Q Q':Ending→World→Prop}(h:d5Q P f vs w Q)(hq:∀e w',Q e w'→Q' e w'):d5Q P f vs w Q':=by
 rcases h with⟨a,b⟩|⟨v,a,b⟩
 ·exact .inl ⟨a,b.mono hq⟩
 ·exact .inr ⟨v,a,hq _ _ b⟩
theorem d3b{P:Program}{f:FuncId}(hb:WM P f=true)(vs:Array Value)(w:World):(callFunc f vs).run P w= .ok (.enter f vs) w:=by
 unfold WM at hb
 cases hfn:P.funcs[f]? with
 |none=>rw[hfn]at hb;cases hb
 |some fn=>
  rw[hfn]at hb
  simp only[Bool.and_eq_true,bne_iff_ne]at hb
  obtain⟨hb1,hb2⟩:=hb
  obtain⟨code,hb3⟩:∃c,fn.body=some c:=by
   cases hbb:fn.body with
   |none=>rw[hbb]at hb1;cases hb1
   |some c=>exact⟨c,rfl⟩
  simp[callFunc,hfn,hb2,hb3]
theorem d5Q.calls{P:Program}{f:FuncId}{vs:Array Value}{w:World}{Q:Ending→World→Prop}(h:d5Q P f vs w Q)(hb:WM P f=true):Calls P f vs w Q:=by
 rcases h with⟨_,h⟩|⟨v,h,_⟩
 ·exact h
 ·rw[d3b hb]at h;cases h
theorem d5Q.upon{P:Program}{f:FuncId}{vs:Array Value}{w:World}{R:Ending→World→Prop}{o:Oper}{a:Act}{next:Act→World→Prop}{Q:Exit→Act→World→Prop}(h:d5Q P f vs w R)
 (hm:∀e w',R e w'→match (motive:=Ending→World→Prop) e,w' with|Ending.returned v,w''=>next (a.put o.dst v) w''| .panicked chain,w''=>Q (.panic chain) a w''| .outgrown,_=>LetsOut Q):o.upon P a next Q ((callFunc f vs).run P w):=by
 rcases h with⟨hb,h⟩|⟨v,h,hq⟩
 ·rw[d3b hb,Oper.upon_enter]
  exact h.mono hm
 ·rw[h,Oper.upon_value]
  exact hm _ _ hq
def Spec(P:Program)(G:Gl)(f:FuncId)(args:List D)(st:St)(R:D→St→Prop):Prop:=
 True∧
 ∀(w:World) (μ:Mu) (vs:Array Value),Sim w μ st→Glob G w μ st→vs.size=args.length→(∀j (h:j<args.length),VR w μ st (vs.getD j undef) (args[j]))→
  d5Q P f vs w fun e w'=>∃v d st' μ',e= .returned v∧R d st'∧Sim w' μ' st'∧Step w μ st w' μ' st'∧VR w' μ' st' v d
def Pure(P:Program)(G:Gl)(f:FuncId)(args:List D)(r:D):Prop:=∀st,Spec P G f args st fun d st'=>d=r∧st'=st
theorem Spec.mono{P:Program}{G:Gl}{f:FuncId}{args:List D}{st:St}{R R':D→St→Prop}(h:Spec P G f args st R)(hr:∀d st',R d st'→R' d st'):Spec P G f args st R':=
 ⟨h.1,fun w μ vs h1 h2 h3 h4=>(h.2 w μ vs h1 h2 h3 h4).mono fun _ _ ⟨v,d,st',μ',a,b,c⟩=>⟨v,d,st',μ',a,hr _ _ b,c⟩⟩
theorem Pure.to{P:Program}{G:Gl}{f:FuncId}{args:List D}{r:D}(h:Pure P G f args r){st:St}{R:D→St→Prop}(hr:R r st):Spec P G f args st R:=
 (h st).mono fun _ _ ⟨a,b⟩=>by subst a;subst b;exact hr
structure S where
 fr:Fr
 st:St
 ok:Prop
def guardOf(ops:Array Oper)(fr:Fr)(o:Oper):Bool:=
 match o.guard with
 |none=>true
 |some (j,want)=>match (ops[j]?).bind (·.dst)with
  |some t=>match fr.get t with
   | .bool b=>b==want
   | .cond c (.bool b)=>c&&(b==want)
   | _=>false
  |none=>false
def VT(ops:Array Oper)(fr:Fr)(o:Oper):Prop:=
 match o.guard with
 |none=>True
 |some (j,_)=>match (ops[j]?).bind (·.dst)with
  |some t=>match fr.get t with
   | .bool _=>True
   | .cond _ (.bool _)=>True
   | _=>False
  |none=>False
def d9J(o:Oper)(G:Bool)(fr:Fr)(d:D):Fr:=
 match o.guard with
 |none=>fr.Ye o.dst d
 |some _=>fr.Ye o.dst (.cond G d)
def LR.d7f(r:LR)(st:St):St:=
 let s1:=match r.up with|some (o,ob)=>st.set o (some ob)|none=>st
 match r.new with|some ob=>s1++[some ob]|none=>s1
def d0g(N:Nat)(o:Oper):Prop:=match o.dst with|some t=>t<N|none=>True
def d3X(P:Program)(Gl:Gl)(N:Nat)(ops:Array Oper)(s:S)(o:Oper):S:=
 let G:=guardOf ops s.fr o
 let r:=if needs o.op then aop P Gl G o.op s.fr (look (s.st++[some .resv])) s.st.length else aop P Gl G o.op s.fr (look s.st) 0
 { fr:=d9J o G s.fr r.d,st:=bif G then r.d7f s.st else s.st,ok:=s.ok∧d0g N o∧VT ops s.fr o∧(G=true→r.ok) }
def UQ:Op→Option (Operand×List Operand)
 | .call { callee:=.value f,args,.. }=>some (f,args.toList)
 | _=>none
def Run(P:Program)(Gl:Gl)(N:Nat)(ops:Array Oper):List Oper→S→(Fr→St→Prop)→Prop
 | [],s,K=>s.ok∧K s.fr s.st
 |o::l,s,K=>
  match UQ o.op with
  |none=>Run P Gl N ops l (d3X P Gl N ops s o) K
  |some (f,xs)=>
   s.ok∧d0g N o∧VT ops s.fr o∧eok Gl (guardOf ops s.fr o) s.fr f∧(∀x∈xs,eok Gl (guardOf ops s.fr o) s.fr x)∧
   match o.guard with
   |none=>(match ev1 Gl s.fr f with
    | .fn g first cap=>Spec P Gl g (first++xs.map (ev1 Gl s.fr)++cap) s.st fun d st'=>Run P Gl N ops l ⟨s.fr.Ye o.dst d,st',True⟩ K
    | _=>False)
   |some _=>(match ev1 Gl s.fr f with
    | .fn g first cap=>∃r ups,(guardOf ops s.fr o=true→Spec P Gl g (first++xs.map (ev1 Gl s.fr)++cap) s.st fun d st'=>d=r∧st'=puts s.st ups)∧(guardOf ops s.fr o=false→puts s.st ups=s.st)∧Run P Gl N ops l ⟨d9J o (guardOf ops s.fr o) s.fr r,puts s.st ups,True⟩ K
    | _=>False)
structure d0p(Gl:Gl)(N:Nat)(w0:World)(μ0:Mu)(st0:St)(fr:Fr)(st:St)(a:Act)(w:World)(μ:Mu):Prop where
 sim:Sim w μ st
 glob:Glob Gl w μ st
 fr:FR w μ st a.tmps fr
 size:a.tmps.size=N
 defers:a.defers=[]
 step:Step w0 μ0 st0 w μ st
def d5R(Gl:Gl)(N:Nat)(w0:World)(μ0:Mu)(st0:St)(fr:Fr)(st:St)(a:Act)(w:World):Prop:=∃μ,d0p Gl N w0 μ0 st0 fr st a w μ
section
variable {P:Program} {gl:Gl} {N:Nat} {ops:Array Oper} {w0:World} {μ0:Mu} {st0:St}
theorem VR.resv{w:World}{μ:Mu}{st:St}{v:Value}{d:D}(hm:μ st.length=none)(h:VR w μ (st++[some .resv]) v d):VR w μ st v d:=by
 have hl:∀o,o<(st++[some Ob.resv]).length→(st++[some Ob.resv])[o]? ≠some (some .resv)→o<st.length:=by
  intro o h1 h2
  simp at h1
  rcases Nat.lt_or_ge o st.length with h|h
  ·exact h
  ·exfalso;apply h2
   have:o=st.length:=by omega
   subst this;simp
 have lk:∀o,o<st.length→(st++[some Ob.resv])[o]? =st[o]? :=fun o h=>List.getElem?_append_left h
 have ow:∀blk,own μ (st++[some .resv]) blk↔own μ st blk:=by
  intro blk
  constructor
  ·rintro⟨o,ob,base,h1,h2⟩
   rcases Nat.lt_or_ge o st.length with h|h
   ·rw[lk o h]at h1;exact⟨o,ob,base,h1,h2⟩
   ·have:o=st.length∨st.length<o:=by omega
    rcases this with e|e
    ·subst e;rw[hm]at h2;cases h2
    ·rw[List.getElem?_eq_none (by simp;omega)]at h1;cases h1
  ·rintro⟨o,ob,base,h1,h2⟩
   have h:o<st.length:=(List.getElem?_eq_some_iff.1 h1).1
   exact⟨o,ob,base,by rw[lk o h];exact h1,h2⟩
 induction h with
 |any v=>exact .any v
 |tr h=>exact .tr (h.mono (fun blk _ hn=>⟨rfl,fun h=>hn ((ow blk).2 h)⟩) (Nat.le_refl _))
 |agg vs cs hs hc ih=>exact .agg vs cs hs ih
 |tup vs cs hs hc ih=>exact .tup vs cs hs ih
 |fn f vf vc first cap hf hc hfc hcc ih1 ih2=>exact .fn f vf vc first cap hf hc ih1 ih2
 |ref v full o g off len hv ho hr hg h=>
  have hol:=hl o ho hr
  rw[lk o hol]at hr
  exact .ref v full o g off len hv hol hr (fun g' n b es e=>hg g' n b es (by rw[lk o hol];exact e)) (fun n b es e=>h n b es (by rw[lk o hol];exact e))
 |ptr v o g i c hv ho hr hg h=>
  have hol:=hl o ho hr
  rw[lk o hol]at hr
  exact .ptr v o g i c hv hol hr (fun g' n b es e=>hg g' n b es (by rw[lk o hol];exact e)) (fun n b es e=>h n b es (by rw[lk o hol];exact e))
 |mp v o hv ho hr h1 h2=>
  have hol:=hl o ho hr
  rw[lk o hol]at hr
  exact .mp v o hv hol hr (fun ag es e=>h1 ag es (by rw[lk o hol];exact e)) (fun ag k es e=>h2 ag k es (by rw[lk o hol];exact e))
 |it v o hv ho hr h=>
  have hol:=hl o ho hr
  rw[lk o hol]at hr
  exact .it v o hv hol hr (fun s p e=>h s p (by rw[lk o hol];exact e))
 |cond v g d h h0 ih=>exact .cond v g d ih h0
theorem d9e{w:World}{μ:Mu}{st:St}(hs:Sim w μ (st++[some .resv])):Sim w μ st∧μ st.length=none:=by
 have hm:μ st.length=none:=hs.obj st.length .resv (by simp)
 have lk:∀o ob,st[o]? =some (some ob)→(st++[some Ob.resv])[o]? =some (some ob):=fun o ob h=>by
  rw[List.getElem?_append_left (List.getElem?_eq_some_iff.1 h).1];exact h
 refine⟨⟨fun o ob h=>?_,fun o1 o2 ob1 ob2 blk b1 b2 h1 h2 m1 m2=>hs.inj o1 o2 ob1 ob2 blk b1 b2 (lk _ _ h1) (lk _ _ h2) m1 m2⟩,hm⟩
 have:=hs.obj o ob (lk o ob h)
 cases ob with
 |arr g n b es=>
  obtain⟨h1,h2,h3⟩:=(this:d0b w μ (st++[some .resv]) (μ o) n b es)
  refine(⟨h1,h2,?_⟩:d0b w μ st (μ o) n b es)
  rcases h3 with h3|⟨blk,base,c,ty,em,hh,hsz,hc⟩
  ·exact .inl h3
  ·exact .inr ⟨blk,base,c,ty,em,hh,hsz,fun i j hi hj=>let ⟨v,e,hv,h1⟩:=hc i j hi hj;⟨v,e,hv.resv hm,h1⟩⟩
 |mps ag es=>
  obtain⟨blk,ents,clock,ez,em,hh,hsz,hc,hx⟩:=(this:ZG _ ag w μ _ (μ o) es).loc
  refine(⟨⟨blk,ents,clock,ez,em,hh,hsz,fun i hi=>?_,hx⟩⟩:ZG _ ag w μ st (μ o) es)
  obtain⟨e,e1,e2,e3⟩:=hc i hi
  refine⟨e,e1,e2,?_⟩
  cases ag with
  |true=>exact VR.resv hm e3
  |false=>obtain⟨d,a,b⟩:=e3;exact⟨d,a,b.resv hm⟩
 |mpi ag k es=>
  obtain⟨blk,ents,clock,ez,em,hh,hsz,hc,hx⟩:=(this:ZG _ ag w μ _ (μ o) es).loc
  refine(⟨⟨blk,ents,clock,ez,em,hh,hsz,fun i hi=>?_,hx⟩⟩:ZG _ ag w μ st (μ o) es)
  obtain⟨e,e1,e2,e3⟩:=hc i hi
  refine⟨e,e1,e2,?_⟩
  cases ag with
  |true=>exact VR.resv hm e3
  |false=>obtain⟨d,a,b⟩:=e3;exact⟨d,a,b.resv hm⟩
 |sit=>exact this
 |resv=>exact this
theorem d7g{w w':World}{μ μ':Mu}{st st':St}(hm:μ' st'.length=none)(hl:st.length≤st'.length)(h:Step w μ st w' μ' (st'++[some .resv])):Step w μ st w' μ' st' where
 size:=h.size
 os:=h.os
 output:=h.output
 tape:=h.tape
 imm:=h.imm
 own:=fun blk ⟨o,ob,base,h1,h2⟩=>h.own blk ⟨o,ob,base,by rw[List.getElem?_append_left (List.getElem?_eq_some_iff.1 h1).1];exact h1,h2⟩
 len:=hl
 keep:=fun o ob' ho h1=>h.keep o ob' ho (by rw[List.getElem?_append_left (List.getElem?_eq_some_iff.1 h1).1];exact h1)
theorem d3c{G:Gl}{w:World}{μ μ':Mu}{st st':St}(h:Glob G w μ st)(ho:∀blk,own μ' st' blk→own μ st blk):Glob G w μ' st':=⟨fun g cs e=>(h.tab g cs e).mono (fun blk _ hn=>⟨rfl,fun x=>hn (ho blk x)⟩) (Nat.le_refl _),fun g c e=>let ⟨h1,h2,h3⟩:=h.all g c e;⟨h1,fun x=>h2 (ho g x),h3⟩⟩
theorem i6v{r:LR}{q:Nat}{st:St}(h:r.new=none):r.app q st=r.d7f st:=by
 obtain⟨d,ok,rd,up,new⟩:=r
 simp only at h
 subst h
 rfl
theorem d7h{g:Bool}{op:Op}{fr:Fr}{lk:Look}{q:Nat}(hn:needs op=false):(aop P gl g op fr lk q).new=none:=by
 cases op with
 |move=>rfl
 |assign=>rfl
 |pick=>exact(Za _ _ _).2
 |alloc=>cases hn
 |box=>cases hn
 |build=>exact(YZ _ _ _).2
 |buildSlice=>cases hn
 |insert=>rfl
 |load=>exact(Yz _ _ _).2
 |store=>exact(d1g _ _ _ _).1
 |ready=>rfl
 |waits=>rfl
 |nilCheck=>exact(Xd _).2
 |binOp=>simp only[aop];split<;>first|exact(d1f _ _ _).2|exact(d2W _ _ _ _ _).2
 |unOp=>exact(d2X _ _).2
 |convert=>exact(XS _ _ _ _).2
 |sliceToArrayPointer=>rfl
 |makeInterface=>rfl
 |makeFunc fn=>cases fn<;>rfl
 |makeMap=>cases hn
 |makeChan=>rfl
 |makeSlice=>cases hn
 |slice=>exact(XD _ _ _ _ _ _ _).2
 |fieldAddr=>exact(WA _ _ _).2
 |field=>exact(YW _ _ _).2
 |indexAddr=>exact(Uj _ _ _ _ _).2
 |index=>exact(YX _ _ _ _).2
 |lookup=>exact(WT _ _ _ _ _ _ _).2
 |mapUpdate=>exact(XU _ _ _ _ _ _ _).1
 |mapEntry=>rfl
 |entryStore=>rfl
 |range=>cases hn
 |next=>exact d5P _ _ _
 |entry=>rfl
 |typeAssert=>rfl
 |extract=>exact(XT _ _).2
 |call c=>
  obtain⟨callee,args,argTypes⟩:=c
  cases callee with
  |builtin b=>
   simp only[aop]
   split
   ·exact(Yk _ _ _).2
   ·cases hn
   ·exact(Zx _ _).2
   ·exact(Zy _ _).2
   ·exact(Yl _ _).2
   ·rfl
  |value=>rfl
  |invoke=>rfl
 |go=>rfl
 |defer=>rfl
 |panic=>rfl
 |send=>rfl
 |recv=>rfl
 |select=>rfl
theorem i0j{i e:TI}{xk:TK}{lk:Look}{s x:D}{q o:Nat}{ob:Ob}(h:(QT i e xk lk s x q).up=some (o,ob)):∃g n b es,lk o=some (.arr g n b es):=by
 unfold QT at h
 (repeat' split at h)<;>first|(cases h;done)|skip
 rename_i hl
 cases h
 exact⟨_,_,_,_,hl⟩
theorem i6w{g:Bool}{op:Op}{fr:Fr}{st:St}{q o:Nat}{ob:Ob}(hn:needs op=true)(h:(aop P gl g op fr (look (st++[some .resv])) q).up=some (o,ob)):o<st.length:=by
 cases op with
 |alloc=>cases h
 |box=>cases h
 |buildSlice t len ps=>revert h;simp only[aop];cases gl.imm t<;>(intro h;cases h)
 |makeMap t r=>
  cases r with
  |none=>simp only[aop,d2Z]at h;cases h
  |some=>cases h
 |makeSlice=>simp only[aop,LR.and,d0z]at h;cases h
 |range=>simp only[aop,LR.and,d2Y]at h;cases h
 |call c=>
  obtain⟨callee,args,argTypes⟩:=c
  cases callee with
  |builtin b=>
   simp only[aop]at h
   split at h
   ·rw[show(LR.and _ _).up=_ from(Yk _ _ _).1]at h;cases h
   ·obtain⟨g,n,b,es,hl⟩:=i0j h
    have:=Px hl
    rcases Nat.lt_or_ge o st.length with h'|h'
    ·exact h'
    ·rw[List.getElem?_append_right h']at this
     rcases Nat.eq_zero_or_pos (o-st.length)with e|e
     ·rw[e]at this;cases this
     ·rw[List.getElem?_eq_none (by simp;omega)]at this;cases this
   ·rw[show(LR.and _ _).up=_ from(Zx _ _).1]at h;cases h
   ·rw[show(LR.and _ _).up=_ from(Zy _ _).1]at h;cases h
   ·rw[show(LR.and _ _).up=_ from(Yl _ _).1]at h;cases h
   ·cases h
  |value=>cases h
  |invoke=>cases h
 | _=>cases hn
theorem i4x{fr:Fr}{st:St}{a:Act}{w:World}{μ:Mu}{o:Oper}(h:d0p gl N w0 μ0 st0 fr st a w μ){r:LR}
 (hr:r=if needs o.op then aop P gl true o.op fr (look (st++[some .resv])) st.length else aop P gl true o.op fr (look st) 0) (hok:r.ok) (hd:d0g N o):
 ∃nx v w' μ',(execOp a.eval o).run P w= .ok nx w'∧(nx= .value v∨(nx= .skip∧v=undef))∧d0p gl N w0 μ0 st0 (fr.Ye o.dst r.d) (r.d7f st) (a.put o.dst v) w' μ':=by
 have fin:∀ {w' μ' v st'},Sim w' μ' st'→Step w μ st w' μ' st'→VR w' μ' st' v r.d→d0p gl N w0 μ0 st0 (fr.Ye o.dst r.d) st' (a.put o.dst v) w' μ':=by
  intro w' μ' v st' h1 h2 h3
  refine⟨h1,h.glob.step h2,?_,?_,?_,h.step.trans h2⟩
  ·cases d1J:o.dst with
   |none=>exact h.fr.step h2
   |some t=>
    have ht:t<N:=by simpa[d0g,d1J]using hd
    exact(h.fr.step h2).put h3 (by rw[h.size];exact ht)
  ·cases d1J:o.dst with
   |none=>exact h.size
   |some t=>simp[Act.put,h.size]
  ·cases d1J:o.dst with
   |none=>exact h.defers
   |some t=>simp[Act.put,h.defers]
 cases hn:needs o.op with
 |false=>
  rw[hn]at hr
  simp only[Bool.false_eq_true,if_false]at hr
  subst hr
  obtain⟨nx,v,w',μ',h1,h2,h3,h4,h5⟩:=d3a (P:=P) (G:=gl) (q:=0) h.sim h.fr h.glob (fun e=>by rw[hn]at e;cases e) hok
  have hnew:(aop P gl true o.op fr (look st) 0).new=none:=d7h hn
  have e:(aop P gl true o.op fr (look st) 0).app 0 st=(aop P gl true o.op fr (look st) 0).d7f st:=i6v hnew
  rw[e]at h3 h4 h5
  exact⟨nx,v,w',μ',h1,h2,fin h3 h4 h5⟩
 |true=>
  rw[hn]at hr
  simp only[if_true]at hr
  obtain⟨k1,k2⟩:=d2j h.sim
  have hf2:=h.fr.step k2
  have hg2:=h.glob.step k2
  have:=d3a (P:=P) (G:=gl) (q:=st.length) k1 hf2 hg2 (fun _=>by simp) (by rw[←hr];exact hok)
  rw[←hr]at this
  obtain⟨nx,v,w',μ',h1,h2,h3,h4,h5⟩:=this
  have hup:∀o' ob,r.up=some (o',ob)→o'<st.length:=fun o' ob e=>i6w hn (by rw[←hr];exact e)
  have e:(r.new=none∧r.app st.length (st++[some .resv])=r.d7f st++[some .resv])∨(r.app st.length (st++[some .resv])=r.d7f st):=by
   cases hu:r.up with
   |none=>
    cases hnw:r.new with
    |none=>left;simp[LR.app,LR.d7f,hu,hnw]
    |some ob=>right;simp[LR.app,LR.d7f,hu,hnw]
   |some p=>
    obtain⟨o',ob'⟩:=p
    have hlt:=hup o' ob' hu
    cases hnw:r.new with
    |none=>left;simp[LR.app,LR.d7f,hu,hnw,List.set_append_left _ _ hlt]
    |some ob=>right;simp[LR.app,LR.d7f,hu,hnw,List.set_append_left _ _ hlt]
  have hlen:st.length≤(r.d7f st).length:=by
   cases hu:r.up with
   |none=>cases hnw:r.new<;>simp[LR.d7f,hu,hnw]
   |some p=>cases hnw:r.new<;>simp[LR.d7f,hu,hnw]
  rcases e with⟨_,e⟩|e
  ·rw[e]at h3 h4 h5
   obtain⟨s1,s2⟩:=d9e h3
   exact⟨nx,v,w',μ',h1,h2,fin s1 (d7g s2 hlen (k2.trans h4)) (h5.resv s2)⟩
  ·rw[e]at h3 h4 h5
   exact⟨nx,v,w',μ',h1,h2,fin h3 (k2.trans h4) h5⟩
end
section
variable {P:Program} {gl:Gl} {N:Nat} {ops:Array Oper} {w0:World} {μ0:Mu} {st0:St}
theorem d0h{w:World}{μ:Mu}{st:St}{tmps:Array Value}{fr:Fr}{o:Oper}(hf:FR w μ st tmps fr)(hok:VT ops fr o):Region.wanted o (yielded ops tmps)=guardOf ops fr o:=by
 unfold VT at hok
 unfold guardOf Region.wanted
 cases hg:o.guard with
 |none=>rfl
 |some p=>
  obtain⟨j,want⟩:=p
  rw[hg]at hok
  simp only at hok⊢
  cases hd:(ops[j]?).bind (·.dst)with
  |none=>rw[hd]at hok;exact hok.elim
  |some t=>
   rw[hd]at hok
   simp only at hok⊢
   have ht:=hf t
   have yes:∀b,VR w μ st (tmps.getD t undef) (.bool b)→yielded ops tmps j=some b:=fun b h=>by
    have:=Wx h
    unfold yielded
    rw[hd]
    simp only[Option.bind_some]
    cases hq:tmps[t]? with
    |none=>simp[Array.getD_eq_getD_getElem?, hq,undef]at this
    |some u=>simp[Array.getD_eq_getD_getElem?, hq]at this;subst this;rfl
   have no:tmps.getD t undef=undef→yielded ops tmps j=none:=fun h=>by
    unfold yielded
    rw[hd]
    simp only[Option.bind_some]
    cases hq:tmps[t]? with
    |none=>rfl
    |some u=>simp[Array.getD_eq_getD_getElem?, hq]at h;subst h;rfl
   split at hok
   ·rename_i b hb
    rw[hb]at ht
    rw[yes b ht];cases b<;>cases want<;>rfl
   ·rename_i c b hb
    rw[hb]at ht
    generalize tmps.getD t undef=u at ht yes no
    cases ht with
    |tr h=>cases h
    |cond _ _ _ h h0=>
     cases c with
     |true=>rw[yes b (h rfl)];cases b<;>cases want<;>rfl
     |false=>rw[no (h0 rfl)];simp
   ·exact hok.elim
theorem i3M{K:Fr→St→Prop}:∀(l:List Oper) (s:S),Run P gl N ops l s K→s.ok
 | [],s,h=>h.1
 |o::l,s,h=>by
  simp only[Run]at h
  split at h
  ·exact(i3M l _ h).1
  ·exact h.1
theorem d3d{fr:Fr}{st:St}{a:Act}{w:World}{μ:Mu}{o:Oper}(h:d0p gl N w0 μ0 st0 fr st a w μ)(hd:d0g N o)(d:D):
 d0p gl N w0 μ0 st0 (fr.Ye o.dst (.cond false d)) st (a.put o.dst undef) w μ:=by
 refine⟨h.sim,h.glob,?_,?_,?_,h.step⟩
 ·cases d1J:o.dst with
  |none=>exact h.fr
  |some t=>
   have ht:t<N:=by simpa[d0g,d1J]using hd
   exact h.fr.put (.cond _ _ _ (fun e=>by cases e) (fun _=>rfl)) (by rw[h.size];exact ht)
 ·cases d1J:o.dst with
  |none=>exact h.size
  |some t=>simp[Act.put,h.size]
 ·cases d1J:o.dst with
  |none=>exact h.defers
  |some t=>simp[Act.put,h.defers]
theorem d3e{fr:Fr}{st:St}{a:Act}{w:World}{μ:Mu}{o:Oper}{d:D}{v:Value}(h:d0p gl N w0 μ0 st0 (fr.Ye o.dst d) st (a.put o.dst v) w μ)(G:Bool)(hG:G=true):d0p gl N w0 μ0 st0 (d9J o G fr d) st (a.put o.dst v) w μ:=by
 unfold d9J
 split
 ·exact h
 ·refine⟨h.sim,h.glob,fun t=>?_,h.size,h.defers,h.step⟩
  have:=h.fr t
  cases d1J:o.dst with
  |none=>rw[d1J]at this;exact this
  |some t'=>
   rw[d1J]at this
   simp only[Fr.Ye,Fr.d2U]at this⊢
   split
   ·rename_i e
    rw[if_pos e]at this
    exact .cond _ _ _ (fun _=>this) (fun e=>by rw[hG]at e;cases e)
   ·rename_i e;rw[if_neg e]at this;exact this
theorem d4V{o:Oper}{a:Act}{w:World}{μ:Mu}{st:St}{fr:Fr}{f:Operand}{xs:List Operand}{g:Nat}{first cap:List D}(hc:UQ o.op=some (f,xs))(hf:FR w μ st a.tmps fr)(hg:Glob gl w μ st)
 (p1f:eok gl true fr f) (p1g:∀x∈xs,eok gl true fr x) (hev:ev1 gl fr f= .fn g first cap):
 ∃vs:Array Value,(execOp a.eval o).run P w=(callFunc g vs).run P w∧vs.size=(first++xs.map (ev1 gl fr)++cap).length∧
  ∀j (h:j<(first++xs.map (ev1 gl fr)++cap).length),VR w μ st (vs.getD j undef) ((first++xs.map (ev1 gl fr)++cap)[j]):=by
 obtain⟨dst,op,type,pos,after,guard⟩:=o
 cases op<;>simp only[UQ]at hc<;>first|(cases hc;done)|skip
 rename_i c
 obtain⟨callee,args,argTypes⟩:=c
 cases callee<;>simp only at hc<;>first|(cases hc;done)|skip
 rename_i f'
 cases hc
 have hv:=Yj hf hg p1f
 rw[hev]at hv
 have hargs:∀j (h:j<args.size),VR w μ st (a.eval args[j]) (ev1 gl fr args[j]):=fun j h=>Yj hf hg (p1g _ (by simp))
 have key:∃vf vc:Array Value,a.eval f= .func (.func g) vf vc∧vf.size=first.length∧vc.size=cap.length∧(∀j (h:j<first.length),VR w μ st (vf.getD j undef) (first[j]))∧∀j (h:j<cap.length),VR w μ st (vc.getD j undef) (cap[j]):=by
  generalize a.eval f=vv at hv
  cases hv with
  |tr h=>cases h
  |fn _ vf vc _ _ h1 h2 h3 h4=>exact⟨vf,vc,rfl,h1,h2,h3,h4⟩
 obtain⟨vf,vc,e,h1,h2,h3,h4⟩:=key
 refine⟨vf++args.map a.eval++vc,?_,by simp[h1,h2],fun j hj=>?_⟩
 ·simp[execOp,resolve,e,Deferred.ofValue,invoke]
 ·simp only[List.length_append,List.length_map,Array.length_toList]at hj
  rw[Array.getD_eq_getD_getElem?]
  by_cases c1:j<first.length
  ·rw[Array.getElem?_append_left (by simp[h1];omega),Array.getElem?_append_left (by omega)]
   simp only[List.append_assoc,List.getElem_append_left c1]
   have:=h3 j c1
   rwa[Array.getD_eq_getD_getElem?]at this
  ·by_cases c2:j<first.length+args.size
   ·rw[Array.getElem?_append_left (by simp[h1];omega),Array.getElem?_append_right (by omega)]
    have hj2:j-first.length<args.size:=by omega
    have hg1:(first++args.toList.map (ev1 gl fr)++cap)[j]'(by simp;omega)=ev1 gl fr args[j-first.length]:=by
     rw[List.getElem_append_left (by simp;omega),List.getElem_append_right (by omega)]
     simp
    rw[hg1,h1]
    simpa[hj2]using hargs (j-first.length) hj2
   ·rw[Array.getElem?_append_right (by simp[h1];omega)]
    have hj2:j-(first.length+args.size)<cap.length:=by omega
    have hg1:(first++args.toList.map (ev1 gl fr)++cap)[j]'(by simp;omega)=cap[j-(first.length+args.size)]:=by
     rw[List.getElem_append_right (by simp;omega)]
     simp
    rw[hg1]
    have:=h4 _ hj2
    rw[Array.getD_eq_getD_getElem?]at this
    simpa[h1]using this
theorem Ym{K:Fr→St→Prop}{Q:Exit→Act→World→Prop}(hQ:∀fr st a w μ,K fr st→d0p gl N w0 μ0 st0 fr st a w μ→Q .normal a w):
 ∀(l:List Oper) (i:Nat),ops.toList.drop i=l→∀(s:S) (a:Act) (w:World) (μ:Mu),d0p gl N w0 μ0 st0 s.fr s.st a w μ→Run P gl N ops l s K→wpOps P ops Q (List.range' i l.length) a w
 | [],i,hl,s,a,w,μ,hc,h=>hQ _ _ _ _ _ h.2 hc
 |o::l,i,hl,s,a,w,μ,hc,h=>by
  have hlt:i<ops.size:=by
   rcases Nat.lt_or_ge i ops.size with h'|h'
   ·exact h'
   ·rw[List.drop_eq_nil_of_le (by simpa using h')]at hl;cases hl
  have ho:ops[i]? =some o:=by
   have:(ops.toList.drop i)[0]? =some o:=by rw[hl];rfl
   simpa[List.getElem?_drop]using this
  have hl':ops.toList.drop (i+1)=l:=by
   have:=congrArg List.tail hl
   simpa[List.tail_drop]using this
  simp only[List.length_cons,List.range'_succ]
  rw[wpOps_cons]
  simp only[wpOp,ho]
  simp only[Run]at h
  split at h
  ·rename_i YA
   obtain⟨hok,hd,hgo,hr⟩:=i3M l _ h
   rw[d0h hc.fr hgo]
   cases hG:guardOf ops s.fr o with
   |true=>
    simp only[if_true]
    left
    rw[hG]at hr
    obtain⟨nx,v,w',μ',h1,h2,h3⟩:=i4x (P:=P) (o:=o) hc rfl (hr rfl) hd
    unfold Oper.wp
    rw[h1]
    have next:wpOps P ops Q (List.range' (i+1) l.length) (a.put o.dst v) w':=by
     refine Ym hQ l (i+1) hl' _ _ _ μ' ?_ h
     simp only[d3X,hG,cond_true]
     exact d3e h3 true rfl
    rcases h2 with rfl|⟨rfl,rfl⟩<;>exact next
   |false=>
    simp only[Bool.false_eq_true,if_false]
    have hgs:∃p,o.guard=some p:=by
     cases hgd:o.guard with
     |none=>simp[guardOf,hgd]at hG
     |some p=>exact⟨p,rfl⟩
    obtain⟨p,hgs⟩:=hgs
    refine Ym hQ l (i+1) hl' _ _ _ μ ?_ h
    simp only[d3X,hG,cond_false]
    have e:∀d,d9J o false s.fr d=s.fr.Ye o.dst (.cond false d):=fun d=>by simp[d9J,hgs]
    rw[e]
    exact d3d hc hd _
  ·rename_i f xs YA
   obtain⟨hok,hd,hgo,hfo,hxo,hr⟩:=h
   rw[d0h hc.fr hgo]
   cases hgd:o.guard with
   |none=>
    rw[hgd]at hr
    simp only at hr
    have hG:guardOf ops s.fr o=true:=by simp[guardOf,hgd]
    rw[hG]at hfo hxo⊢
    simp only[if_true]
    left
    split at hr
    ·rename_i g first cap hev
     obtain⟨_,hspec⟩:=hr
     obtain⟨vs,h1,h2,h3⟩:=d4V (P:=P) YA hc.fr hc.glob hfo hxo hev
     unfold Oper.wp
     rw[h1]
     refine(hspec w μ vs hc.sim hc.glob h2 h3).upon fun e w' ⟨v,d,st',μ',he,hR,hs',d7R,hv⟩=>?_
     subst he
     refine Ym hQ l (i+1) hl' ⟨s.fr.Ye o.dst d,st',True⟩ _ _ μ' ?_ hR
     refine⟨hs',hc.glob.step d7R,?_,?_,?_,hc.step.trans d7R⟩
     ·cases d1J:o.dst with
      |none=>exact hc.fr.step d7R
      |some t=>
       have ht:t<N:=by simpa[d0g,d1J]using hd
       exact(hc.fr.step d7R).put hv (by rw[hc.size];exact ht)
     ·cases d1J:o.dst with
      |none=>exact hc.size
      |some t=>simp[Act.put,hc.size]
     ·cases d1J:o.dst with
      |none=>exact hc.defers
      |some t=>simp[Act.put,hc.defers]
    ·exact hr.elim
   |some p=>
    rw[hgd]at hr
    simp only at hr
    cases hG:guardOf ops s.fr o with
    |false=>
     simp only[Bool.false_eq_true,if_false]
     split at hr
     ·obtain⟨r,ups,_,hst,hR⟩:=hr
      rw[hst (by assumption)]at hR
      refine Ym hQ l (i+1) hl' _ _ _ μ ?_ hR
      have e:∀d,d9J o (guardOf ops s.fr o) s.fr d=s.fr.Ye o.dst (.cond false d):=fun d=>by simp[d9J,hgd,hG]
      rw[e]
      exact d3d hc hd _
     ·exact hr.elim
    |true=>
     rw[hG]at hfo hxo hr
     simp only[if_true]
     left
     split at hr
     ·rename_i g first cap hev
      obtain⟨r,ups,hp,_,hR⟩:=hr
      obtain⟨_,hspec⟩:=hp rfl
      obtain⟨vs,h1,h2,h3⟩:=d4V (P:=P) YA hc.fr hc.glob hfo hxo hev
      unfold Oper.wp
      rw[h1]
      refine(hspec w μ vs hc.sim hc.glob h2 h3).upon fun e w' ⟨v,d,st',μ',he,⟨hd1,hd2⟩,hs',d7R,hv⟩=>?_
      subst he;subst hd1;subst hd2
      refine Ym hQ l (i+1) hl' _ _ _ μ' ?_ hR
      refine d3e ?_ true rfl
      refine⟨hs',hc.glob.step d7R,?_,?_,?_,hc.step.trans d7R⟩
      ·cases d1J:o.dst with
       |none=>exact hc.fr.step d7R
       |some t=>
        have ht:t<N:=by simpa[d0g,d1J]using hd
        exact(hc.fr.step d7R).put hv (by rw[hc.size];exact ht)
      ·cases d1J:o.dst with
       |none=>exact hc.size
       |some t=>simp[Act.put,hc.size]
      ·cases d1J:o.dst with
       |none=>exact hc.defers
       |some t=>simp[Act.put,hc.defers]
     ·exact hr.elim
end
theorem VR.sc{w:World}{μ:Mu}{st:St}{v:Value}{d:D}(h:VR w μ st v d):D.sc st.length d:=by
 induction h with
 |any v=>trivial
 |tr h=>exact h.sc _
 |agg vs cs hs hc ih=>exact d0A ih
 |tup vs cs hs hc ih=>exact d0A ih
 |fn f vf vc first cap hf hc hfc hcc ih1 ih2=>exact⟨d0A ih1,d0A ih2⟩
 |ref v full o g off len hv ho=>exact ho
 |ptr v o g i c hv ho=>exact ho
 |mp v o hv ho=>exact ho
 |it v o hv ho=>exact ho
 |cond v g d h h0 ih=>exact ih
theorem Sim.sc{w:World}{μ:Mu}{st:St}(h:Sim w μ st):YO st.length st:=fun o ob ho=>by
 have:=h.obj o ob ho
 cases ob with
 |arr g n b es=>
  obtain⟨_,_,h3⟩:=(this:d0b w μ st (μ o) n b es)
  intro e he
  rcases h3 with⟨_,h3⟩|⟨blk,base,c,ty,em,hh,hsz,hc⟩
  ·rw[h3]at he;simp at he
  ·obtain⟨i,hi,rfl⟩:=List.getElem_of_mem he
   exact d0A fun j hj=>by obtain⟨v,_,hv,_⟩:=hc i j hi hj;exact hv.sc
 |mps ag es=>
  obtain⟨blk,ents,clock,ez,em,hh,hsz,hc,hx⟩:=(this:ZG _ ag w μ _ (μ o) es).loc
  intro e he
  obtain⟨i,hi,rfl⟩:=List.getElem_of_mem (hx.perm.mem_iff.2 he)
  obtain⟨e,_,_,e3⟩:=hc i hi
  cases ag with
  |true=>exact VR.sc e3
  |false=>obtain⟨d,a,b⟩:=e3;rw[a];exact⟨b.sc,trivial⟩
 |mpi ag k es=>
  obtain⟨blk,ents,clock,ez,em,hh,hsz,hc,hx⟩:=(this:ZG _ ag w μ _ (μ o) es).loc
  intro e he
  obtain⟨i,hi,rfl⟩:=List.getElem_of_mem (hx.perm.mem_iff.2 he)
  obtain⟨e,_,_,e3⟩:=hc i hi
  cases ag with
  |true=>exact VR.sc e3
  |false=>obtain⟨d,a,b⟩:=e3;rw[a];exact⟨b.sc,trivial⟩
 |sit=>trivial
 |resv=>trivial
theorem VR.d7i{w:World}{μ:Mu}{s t:St}{v:Value}{d:D}(h:VR w μ (s++t) v d)(hd:D.sc s.length d):VR w μ s v d:=by
 have lk:∀o,o<s.length→(s++t)[o]? =s[o]? :=fun o h=>List.getElem?_append_left h
 have ow:∀blk,own μ s blk→own μ (s++t) blk:=by
  rintro blk ⟨o,ob,base,h1,h2⟩
  exact⟨o,ob,base,by rw[lk o (List.getElem?_eq_some_iff.1 h1).1];exact h1,h2⟩
 induction h with
 |any v=>exact .any v
 |tr h=>exact .tr (h.mono (fun blk _ hn=>⟨rfl,fun h=>hn (ow blk h)⟩) (Nat.le_refl _))
 |agg vs cs hs hc ih=>exact .agg vs cs hs (fun j hj=>ih j hj (Tm hd j hj))
 |tup vs cs hs hc ih=>exact .tup vs cs hs (fun j hj=>ih j hj (Tm hd j hj))
 |fn f vf vc first cap hf hc hfc hcc ih1 ih2=>exact .fn f vf vc first cap hf hc (fun j hj=>ih1 j hj (Tm hd.1 j hj)) (fun j hj=>ih2 j hj (Tm hd.2 j hj))
 |ref v full o g off len hv ho hr hg h=>
  rw[lk o hd]at hr
  exact .ref v full o g off len hv hd hr (fun g' n b es e=>hg g' n b es (by rw[lk o hd];exact e)) (fun n b es e=>h n b es (by rw[lk o hd];exact e))
 |ptr v o g i c hv ho hr hg h=>
  rw[lk o hd]at hr
  exact .ptr v o g i c hv hd hr (fun g' n b es e=>hg g' n b es (by rw[lk o hd];exact e)) (fun n b es e=>h n b es (by rw[lk o hd];exact e))
 |mp v o hv ho hr h1 h2=>
  rw[lk o hd]at hr
  exact .mp v o hv hd hr (fun ag es e=>h1 ag es (by rw[lk o hd];exact e)) (fun ag k es e=>h2 ag k es (by rw[lk o hd];exact e))
 |it v o hv ho hr h=>
  rw[lk o hd]at hr
  exact .it v o hv hd hr (fun s p e=>h s p (by rw[lk o hd];exact e))
 |cond v g d h h0 ih=>exact .cond v g d (fun e=>ih e (hd e)) h0
theorem Sim.d7i{w:World}{μ:Mu}{s t:St}(hs:Sim w μ (s++t))(hsc:YO s.length s):Sim w μ s:=by
 have lk:∀o ob,s[o]? =some (some ob)→(s++t)[o]? =some (some ob):=fun o ob h=>by
  rw[List.getElem?_append_left (List.getElem?_eq_some_iff.1 h).1];exact h
 refine⟨fun o ob h=>?_,fun o1 o2 ob1 ob2 blk b1 b2 h1 h2 m1 m2=>hs.inj o1 o2 ob1 ob2 blk b1 b2 (lk _ _ h1) (lk _ _ h2) m1 m2⟩
 have:=hs.obj o ob (lk o ob h)
 have hob:=hsc o ob h
 cases ob with
 |arr g n b es=>
  obtain⟨h1,h2,h3⟩:=(this:d0b w μ (s++t) (μ o) n b es)
  refine(⟨h1,h2,?_⟩:d0b w μ s (μ o) n b es)
  rcases h3 with h3|⟨blk,base,c,ty,em,hh,hsz,hc⟩
  ·exact .inl h3
  ·exact .inr ⟨blk,base,c,ty,em,hh,hsz,fun i j hi hj=>let ⟨v,e,hv,h1⟩:=hc i j hi hj;⟨v,e,hv.d7i (Tm (hob _ (List.getElem_mem hi)) j hj),h1⟩⟩
 |mps ag es=>
  obtain⟨blk,ents,clock,ez,em,hh,hsz,hc,hx⟩:=(this:ZG _ ag w μ _ (μ o) es).loc
  refine(⟨⟨blk,ents,clock,ez,em,hh,hsz,fun i hi=>?_,hx⟩⟩:ZG _ ag w μ s (μ o) es)
  obtain⟨e,e1,e2,e3⟩:=hc i hi
  refine⟨e,e1,e2,?_⟩
  have d7j:=hob _ (hx.perm.mem_iff.1 (List.getElem_mem hi))
  cases ag with
  |true=>exact VR.d7i e3 d7j
  |false=>obtain⟨d,a,b⟩:=e3;rw[a]at d7j;exact⟨d,a,b.d7i d7j.1⟩
 |mpi ag k es=>
  obtain⟨blk,ents,clock,ez,em,hh,hsz,hc,hx⟩:=(this:ZG _ ag w μ _ (μ o) es).loc
  refine(⟨⟨blk,ents,clock,ez,em,hh,hsz,fun i hi=>?_,hx⟩⟩:ZG _ ag w μ s (μ o) es)
  obtain⟨e,e1,e2,e3⟩:=hc i hi
  refine⟨e,e1,e2,?_⟩
  have d7j:=hob _ (hx.perm.mem_iff.1 (List.getElem_mem hi))
  cases ag with
  |true=>exact VR.d7i e3 d7j
  |false=>obtain⟨d,a,b⟩:=e3;rw[a]at d7j;exact⟨d,a,b.d7i d7j.1⟩
 |sit=>exact this
 |resv=>exact this
theorem Step.d7i{w w':World}{μ μ':Mu}{st s t:St}(hl:st.length≤s.length)(h:Step w μ st w' μ' (s++t)):Step w μ st w' μ' s where
 size:=h.size
 os:=h.os
 output:=h.output
 tape:=h.tape
 imm:=h.imm
 own:=fun blk ⟨o,ob,base,h1,h2⟩=>h.own blk ⟨o,ob,base,by rw[List.getElem?_append_left (List.getElem?_eq_some_iff.1 h1).1];exact h1,h2⟩
 len:=hl
 keep:=fun o ob' ho h1=>h.keep o ob' ho (by rw[List.getElem?_append_left (List.getElem?_eq_some_iff.1 h1).1];exact h1)
inductive i2t where
 |normal
 |exit (id:Nat)
 |ret
abbrev AQ:=i2t→Fr→St→Prop
def AQ.then(next:Fr→St→Prop)(Q:AQ):AQ
 | .normal,fr,st=>next fr st
 |e,fr,st=>Q e fr st
def AQ.block(id:Nat)(Q:AQ):AQ
 | .exit i,fr,st=>if i=id then Q .normal fr st else Q (.exit i) fr st
 |e,fr,st=>Q e fr st
def cq(gl:Gl)(N:Nat)(w0:World)(μ0:Mu)(st0:St)(Q:AQ):Exit→Act→World→Prop
 | .normal,a,w=>∃fr st,Q .normal fr st∧d5R gl N w0 μ0 st0 fr st a w
 | .exit id,a,w=>∃fr st,Q (.exit id) fr st∧d5R gl N w0 μ0 st0 fr st a w
 | .ret,a,w=>∃fr st,Q .ret fr st∧d5R gl N w0 μ0 st0 fr st a w
 | _,_,_=>False
def AWp(P:Program)(gl:Gl)(N n0:Nat)(keep:List Nat)(c:Code)(Q:AQ)(fr:Fr)(st:St):Prop:=
 ∀(w0:World) (μ0:Mu) (st0:St),st0.length=n0→∀(a:Act) (w:World),d5R gl N w0 μ0 st0 fr st a w→c.wp P (cq gl N w0 μ0 st0 Q) a w
section
variable {P:Program} {gl:Gl} {N n0:Nat} {keep:List Nat} {Q:AQ} {fr:Fr} {st:St}
theorem i0k{w0:World}{μ0:Mu}{st0:St}{b:Code}(hl:st0.length=n0){e:Exit}{a:Act}{w:World}(h:cq gl N w0 μ0 st0 (AQ.then (AWp P gl N n0 keep b Q) Q) e a w):
 Exit.then (b.wp P (cq gl N w0 μ0 st0 Q)) (cq gl N w0 μ0 st0 Q) e a w:=by
 cases e with
 |normal=>obtain⟨fr,st,h1,h2⟩:=h;exact h1 w0 μ0 st0 hl a w h2
 |exit id=>exact h
 |ret=>exact h
 |goto=>exact h
 |panic=>exact h
 |outgrown=>exact h
theorem sq_{x y:Code}(h:AWp P gl N n0 keep x (AQ.then (AWp P gl N n0 keep y Q) Q) fr st):AWp P gl N n0 keep (.seq x y) Q fr st:=
 fun w0 μ0 st0 hl a w hc=>wp_seq (wp_mono (h w0 μ0 st0 hl a w hc) fun _ _ _=>i0k hl)
theorem d5S:∀(k k':List Item) (id:Nat),exitTo id k=some k'→k'.length<k.length
 | [],_,_,h=>by simp[exitTo]at h
 |x::k,k',id,h=>by
  by_cases hx:x= .inBlock id
  ·subst hx
   simp[exitTo]at h
   subst h;simp
  ·have:exitTo id k=some k':=by
    cases x<;>simp[exitTo]at h<;>first|exact h|skip
    rename_i id'
    split at h
    ·rename_i e;exact absurd (by rw[e]) hx
    ·exact h
   have:=d5S k k' id this
   simp;omega
theorem d5T{b:Frame}{a a':Act}{k k':List Item}{cs:List Frame}{w w':World}(h:lone (b.at a k) cs w=lone (b.at a' k') cs w'):k=k':=by
 simp only[lone,Machine.mk.injEq]at h
 have:=h.2.1
 simp[Frame.at]at this
 exact this.2.1
theorem d0B{c:Code}(h:AWp P gl N n0 keep c (AQ.then (AWp P gl N n0 keep (.loop c) Q) Q) fr st):AWp P gl N n0 keep (.loop c) Q fr st:=by
 intro w0 μ0 st0 hl a w hc b k cs
 obtain⟨e,a',w',hq0,harr⟩:=h w0 μ0 st0 hl a w hc b (.inLoop c::k) cs
 have hq:=i0k (P:=P) (gl:=gl) (N:=N) (keep:=keep) hl hq0
 have pass:∀e',e'≠Exit.normal→cq gl N w0 μ0 st0 Q e' a' w'→Arrives P (lone (b.at a (.code c:: .inLoop c::k)) cs w) b (.inLoop c::k) cs e' a' w'→
  ∃e a'' w'',cq gl N w0 μ0 st0 Q e a'' w''∧Arrives P (lone (b.at a (.code (.loop c)::k)) cs w) b k cs e a'' w'':=fun e' hne hq' i8S=>
  ⟨e',a',w',hq',.of_steps (.one step_loop) (.pass (x:=.inLoop c) rfl (fun _ _=>.inl hne) i8S)⟩
 cases e with
 |normal=>
  obtain⟨e2,a2,w2,hq2,i4y⟩:=hq b k cs
  have hs2:step P (lone (b.at a' (.code (.loop c)::k)) cs w')= .next (lone (b.at a' (.code c:: .inLoop c::k)) cs w'):=step_loop
  have hs3:step P (lone (b.at a' (.inLoop c::k)) cs w')= .next (lone (b.at a' (.code c:: .inLoop c::k)) cs w'):=step_inLoop
  have same:∀m,Steps P (lone (b.at a' (.code (.loop c)::k)) cs w') m→m≠lone (b.at a' (.code (.loop c)::k)) cs w'→Steps P (lone (b.at a' (.inLoop c::k)) cs w') m:=by
   intro m ⟨n,hn⟩ hne
   cases n with
   |zero=>simp[runN]at hn;exact absurd hn.symm hne
   |succ n=>
    simp only[runN,hs2]at hn
    exact⟨n+1,by simp only[runN,hs3];exact hn⟩
  refine⟨e2,a2,w2,hq2,.of_steps (.head step_loop harr) ?_⟩
  cases e2 with
  |normal=>exact same _ i4y (fun e=>by have:=congrArg List.length (d5T e);simp at this)
  |exit id=>exact fun k' hk=>same _ (i4y k' hk) (fun e=>by have:=congrArg List.length (d5T e);have:=d5S k k' id hk;simp at *; omega)
  |ret=>
   obtain⟨todo,hs⟩:=i4y
   refine⟨todo,same _ hs (fun e=>?_)⟩
   simp only[lone,Machine.mk.injEq]at e
   have:=e.2.1
   simp[Frame.at]at this
  |goto=>exact hq2.elim
  |panic=>exact hq2.elim
  |outgrown=>exact hq2.elim
 |exit id=>exact pass (.exit id) (by simp) hq harr
 |ret=>exact pass .ret (by simp) hq harr
 |goto l=>exact pass (.goto l) (by simp) hq harr
 |panic ch=>exact pass (.panic ch) (by simp) hq harr
 |outgrown=>exact pass .outgrown (by simp) hq harr
theorem i2d(h:Q .normal fr st):AWp P gl N n0 keep .skip Q fr st:=fun _ _ _ _ _ _ hc=>wp_skip ⟨fr,st,h,hc⟩
theorem i4z(h:Q .ret fr st):AWp P gl N n0 keep .ret Q fr st:=fun _ _ _ _ _ _ hc=>wp_ret ⟨fr,st,h,hc⟩
theorem VK{id:Nat}(h:Q (.exit id) fr st):AWp P gl N n0 keep (.exit id) Q fr st:=fun _ _ _ _ _ _ hc=>wp_exit ⟨fr,st,h,hc⟩
theorem i3N{id:Nat}{c:Code}(h:AWp P gl N n0 keep c (AQ.block id Q) fr st):AWp P gl N n0 keep (.block id c) Q fr st:=
 fun w0 μ0 st0 hl a w hc=>wp_block (wp_mono (h w0 μ0 st0 hl a w hc) fun e a' w' hq=>by
  cases e with
  |normal=>exact hq
  |exit i=>
   obtain⟨fr',st',h1,h2⟩:=hq
   simp only[AQ.block]at h1
   simp only[Exit.inBlock]
   split
   ·rename_i e;rw[if_pos e]at h1;exact⟨fr',st',h1,h2⟩
   ·rename_i e;rw[if_neg e]at h1;exact⟨fr',st',h1,h2⟩
  |ret=>exact hq
  |goto=>exact hq
  |panic=>exact hq
  |outgrown=>exact hq)
theorem i6x{c:Operand}{x y:Code}{t:Bool}(hc:ev gl fr c= .bool t)(hx:t=true→AWp P gl N n0 keep x Q fr st)(hy:t=false→AWp P gl N n0 keep y Q fr st):AWp P gl N n0 keep (.cond c x y) Q fr st:=by
 intro w0 μ0 st0 hl a w hcc
 obtain⟨μ,hcn⟩:=hcc
 have hv:=d7Q hcn.fr hcn.glob c
 rw[hc]at hv
 exact wp_cond_split (Wx hv) (fun e=>hx e w0 μ0 st0 hl a w ⟨μ,hcn⟩) (fun e=>hy e w0 μ0 st0 hl a w ⟨μ,hcn⟩)
theorem d9f{id:Nat}{l:List Oper}(h:Run P gl N l.toArray l ⟨fr,st,True⟩ (fun fr st=>Q .normal (Fr.only keep fr) st)):AWp P gl N n0 keep (.region id l.toArray false) Q fr st:=by
 intro w0 μ0 st0 hl a w ⟨μ,hc⟩
 refine wp_region ?_
 have:=Ym (P:=P) (gl:=gl) (N:=N) (ops:=l.toArray) (w0:=w0) (μ0:=μ0) (st0:=st0) (Q:=cq gl N w0 μ0 st0 Q) (fun fr st a w μ hk hc=>⟨_,_,hk,μ,hc.sim,hc.glob,hc.fr.only keep,hc.size,hc.defers,hc.step⟩) l 0 rfl ⟨fr,st,True⟩ a w μ hc h
 rw[List.range_eq_range']
 simpa using this
theorem d0C{c:Code}{Q':AQ}(h:AWp P gl N n0 keep c Q fr st)(hq:∀e fr st,Q e fr st→Q' e fr st):AWp P gl N n0 keep c Q' fr st:=
 fun w0 μ0 st0 hl a w hc=>wp_mono (h w0 μ0 st0 hl a w hc) fun e a' w' hq'=>by
  cases e with
  |normal=>obtain⟨f,s,h1,h2⟩:=hq';exact⟨f,s,hq _ _ _ h1,h2⟩
  |exit i=>obtain⟨f,s,h1,h2⟩:=hq';exact⟨f,s,hq _ _ _ h1,h2⟩
  |ret=>obtain⟨f,s,h1,h2⟩:=hq';exact⟨f,s,hq _ _ _ h1,h2⟩
  |goto=>exact hq'
  |panic=>exact hq'
  |outgrown=>exact hq'
theorem i4A{c:Code}{p:Prop}(hp:∀(w:World) (μ:Mu) (tmps:Array Value),Sim w μ st→FR w μ st tmps fr→p)(h:p→AWp P gl N n0 keep c Q fr st):AWp P gl N n0 keep c Q fr st:=
 fun w0 μ0 st0 hl a w ⟨μ,hc⟩=>h (hp w μ a.tmps hc.sim hc.fr) w0 μ0 st0 hl a w ⟨μ,hc⟩
def Fr.leq:Fr→Fr→Prop
 | [],_=>True
 |(k,d)::r,fr=>fr.get k=d∧Fr.leq r fr
theorem Fr.i0l:∀(r fr:Fr),Fr.leq r fr→∀t,r.get t=fr.get t∨r.get t= .any
 | [],_,_,_=>.inr rfl
 |(k,d)::r,fr,h,t=>by
  simp only[Fr.get]
  split
  ·rename_i e;subst e;exact .inl h.1.symm
  ·exact Fr.i0l r fr h.2 t
theorem d3f{c:Code}{fr':Fr}(hl:Fr.leq fr' fr)(h:AWp P gl N n0 keep c Q fr' st):AWp P gl N n0 keep c Q fr st:=
 fun w0 μ0 st0 hl0 a w ⟨μ,hc⟩=>h w0 μ0 st0 hl0 a w ⟨μ,hc.sim,hc.glob,fun t=>by
  rcases Fr.i0l fr' fr hl t with e|e
  ·rw[e];exact hc.fr t
  ·rw[e];exact .any _,hc.size,hc.defers,hc.step⟩
def Fr.sc(n:Nat):Fr→Prop
 | []=>True
 |(_,d)::r=>D.sc n d∧Fr.sc n r
theorem Fr.i0m{n:Nat}:∀(fr:Fr),Fr.sc n fr→∀t,D.sc n (fr.get t)
 | [],_,_=>trivial
 |(k,d)::r,h,t=>by
  simp only[Fr.get]
  split
  ·exact h.1
  ·exact Fr.i0m r h.2 t
def Xe(P:Program)(st:St)(fr:Fr):ResultVar→LR
 | .tmp t=>{ d:=fr.get t,ok:=True }
 | .cell a t=>(d3R (OD P t) (look st) (fr.get a)).and ((OD P t).k≠ .none)
def p0a(P:Program)(fn:Func)(fr:Fr)(st:St):D:=
 match fn.results.toList with
 | [r]=>(Xe P st fr r).d
 |rs=>.tup (rs.map fun r=>(Xe P st fr r).d)
def i8T(P:Program)(fn:Func)(fr:Fr)(st:St):Prop:=∀r∈fn.results.toList,(Xe P st fr r).ok
def d4W:Nat→List D→Fr
 | _,[]=>[]
 |i,d::r=>(i,d)::d4W (i+1) r
theorem d5U:∀(l:List D) (i t:Nat),(d4W i l).get t=if h:i≤t∧t-i<l.length then l[t-i]else .any
 | [],i,t=>by simp[d4W,Fr.get]
 |d::r,i,t=>by
  simp only[d4W,Fr.get]
  by_cases h:i=t
  ·subst h;simp
  ·rw[if_neg h,d5U r (i+1) t]
   by_cases h2:i+1≤t∧t-(i+1)<r.length
   ·rw[dif_pos h2,dif_pos ⟨by omega,by simp;omega⟩]
    have:t-i=(t-(i+1))+1:=by omega
    simp[this]
   ·rw[dif_neg h2,dif_neg (by simp;omega)]
def d7S(tmps:Array Value):ResultVar→Sem Value
 | .tmp t=>pure (tmps.getD t undef)
 | .cell a t=>do loadVar t (←asAddr (tmps.getD a undef))
theorem i0n{fn:Func}{w:World}{μ:Mu}{tmps:Array Value}(hs:Sim w μ st)(hf:FR w μ st tmps fr)(hok:i8T P fn fr st):
 ∃v,(results fn tmps).run P w= .ok v w∧VR w μ st v (p0a P fn fr st):=by
 have one:∀r:ResultVar,(Xe P st fr r).ok→∃v,(d7S tmps r).run P w= .ok v w∧VR w μ st v (Xe P st fr r).d:=by
  intro r hr
  cases r with
  |tmp t=>exact⟨_,rfl,hf t⟩
  |cell a t=>
   obtain⟨hk,hok⟩:=hr
   obtain⟨v,h1,h2⟩:=d4k (P:=P) (t:=t) hs (hf a) hok hk
   refine⟨v,?_,h2⟩
   have:∃ad,tmps.getD a undef= .pointer (some ad):=by
    cases hd:fr.get a<;>rw[hd]at hok<;>first|(exact hok.elim)|skip
    ·have:=hf a;rw[hd]at this;obtain⟨ad,e,_⟩:=d4j this;exact⟨ad,e⟩
    ·have:=hf a;rw[hd]at this
     generalize tmps.getD a undef=u at this
     cases this with
     |tr h=>cases h
     |ptr _ _ _ _ _ hv=>exact hv
   obtain⟨ad,e⟩:=this
   simp only[d7S]
   rw[e]at h1⊢
   simpa[Instr.loadAt,Instr.sureAddr,asAddr]using h1
 have many:∀rs:List ResultVar,(∀r∈rs,(Xe P st fr r).ok)→∃vs:List Value,(rs.mapM (d7S tmps)).run P w= .ok vs w∧
  vs.length=rs.length∧∀j (h:j<rs.length) (h2:j<vs.length),VR w μ st (vs[j]) (Xe P st fr rs[j]).d:=by
  intro rs
  induction rs with
  |nil=>exact fun _=>⟨[],rfl,rfl,fun j h=>absurd h (Nat.not_lt_zero _)⟩
  |cons r rs ih=>
   intro h
   obtain⟨v,h1,h2⟩:=one r (h r (by simp))
   obtain⟨vs,h3,h4,h5⟩:=ih (fun r hr=>h r (by simp[hr]))
   refine⟨v::vs,by simp only[List.mapM_cons,Sem.run_bind,h1,h3,Result.andThen_ok];rfl,by simp[h4],fun j hj hj2=>?_⟩
   cases j with
   |zero=>exact h2
   |succ j=>exact h5 j (by simpa using hj) (by simpa using hj2)
 obtain⟨vs,h1,h2,h3⟩:=many fn.results.toList hok
 have p1h:results fn tmps=(fn.results.mapM (d7S tmps) >>= fun vs=>pure (if h:vs.size=1 then vs[0]else .tuple vs)):=by
  unfold results
  congr 2
 have hrun:(results fn tmps).run P w= .ok (if h:vs.toArray.size=1 then vs.toArray[0]else .tuple vs.toArray) w:=by
  rw[p1h,Array.mapM_eq_mapM_toList]
  simp only[Sem.run_bind,Sem.run_map,h1,Result.andThen_ok,Sem.run_pure]
 refine⟨_,hrun,?_⟩
 unfold p0a
 by_cases hl:vs.length=1
 ·rw[dif_pos (by simpa using hl)]
  obtain⟨r,hr⟩:=List.length_eq_one_iff.1 (h2.symm.trans hl)
  rw[hr]at h3
  simp only[hr]
  exact h3 0 (by simp) (by omega)
 ·rw[dif_neg (by simpa using hl)]
  have hm:∀rs:List ResultVar,rs.length≠1→(match rs with| [r]=>(Xe P st fr r).d|rs=>.tup (rs.map fun r=>(Xe P st fr r).d))= .tup (rs.map fun r=>(Xe P st fr r).d):=by
   intro rs hn
   match rs,hn with
   | [],_=>rfl
   | [r],hn=>simp at hn
   | _::_::_,_=>rfl
  rw[hm _ (by rw[←h2];exact hl)]
  refine .tup _ _ (fun j hj _=>by simpa[h2]using hj) (fun j hj=>?_)
  simp at hj
  have hj2:j<vs.length:=by rw[h2];simpa using hj
  rw[XR (v:=vs[j]) (by simp[hj2])]
  have h4:=h3 j (by simpa using hj) hj2
  simpa using h4
end
def opk:Op→Nat
 | .call { callee:=.value _,.. }=>2
 | .alloc _| .box _ _| .buildSlice _ _ _| .makeMap _ _| .makeSlice _ _ _| .range _ _| .call { callee:=.builtin .append,.. }=>1
 | _=>0
section
variable {P:Program} {gl:Gl} {N n0:Nat} {ops:Array Oper} {keep:List Nat} {Q:AQ} {fr:Fr} {st:St}
theorem YB(op:Op):(opk op=0→UQ op=none∧needs op=false)∧(opk op=1→UQ op=none∧needs op=true):=by
 cases op<;>first|exact⟨fun _=>⟨rfl,rfl⟩,fun h=>by cases h⟩|exact⟨fun h=>(by cases h),fun _=>⟨rfl,rfl⟩⟩|skip
 rename_i c
 obtain⟨callee,args,argTypes⟩:=c
 cases callee with
 |builtin b=>cases b<;>first|exact⟨fun _=>⟨rfl,rfl⟩,fun h=>by cases h⟩|exact⟨fun h=>(by cases h),fun _=>⟨rfl,rfl⟩⟩
 |value f=>exact⟨fun h=>(by cases h),fun h=>by cases h⟩
 |invoke r m=>exact⟨fun _=>⟨rfl,rfl⟩,fun h=>by cases h⟩
def i6y(want:Bool):D→Option Bool
 | .bool b=>some (b==want)
 | .cond c (.bool b)=>some (c&&(b==want))
 | _=>none
def dlt(N:Nat):Option Nat→Prop
 |some t=>t<N
 |none=>True
def gslot(ops:Array Oper)(j:Nat):Option Nat:=(ops[j]?).bind (·.dst)
def EvR(N:Nat)(dst:Option Nat)(fr:Fr)(st:St)(k:Fr→St→Prop)(r:LR):Prop:=r.ok∧dlt N dst∧k (fr.Ye dst r.d) (r.d7f st)
def EvC(P:Program)(gl:Gl)(N:Nat)(dst:Option Nat)(fr:Fr)(st:St)(k:Fr→St→Prop)(ok:Prop)(f:D)(args:List D):Prop:=
 match f with
 | .fn g first cap=>dlt N dst∧ok∧Spec P gl g (first++args++cap) st fun d st'=>k (fr.Ye dst d) st'
 | _=>False
def d6G(G:Bool)(p:Prop):Prop:=G=true→p
def i6z(N:Nat)(G:Bool)(dst:Option Nat)(fr:Fr)(st:St)(k:Fr→St→Prop)(r:LR):Prop:=
 d6G G r.ok∧dlt N dst∧k (fr.Ye dst (.cond G r.d)) (bif G then r.d7f st else st)
def d9g(P:Program)(gl:Gl)(G:Bool)(dst:Option Nat)(fr:Fr)(st:St)(k:Fr→St→Prop)(g:FuncId)(args:List D):Prop:=
 ∃r ups,(G=true→Spec P gl g args st fun d st'=>d=r∧st'=puts st ups)∧(G=false→puts st ups=st)∧k (fr.Ye dst (.cond G r)) (puts st ups)
def i5P(P:Program)(gl:Gl)(N:Nat)(G:Bool)(dst:Option Nat)(fr:Fr)(st:St)(k:Fr→St→Prop)(ok:Prop)(f:D)(args:List D):Prop:=
 match f with
 | .fn g first cap=>dlt N dst∧ok∧d9g P gl G dst fr st k g (first++args++cap)
 | _=>False
def Ev0(P:Program)(gl:Gl)(N:Nat)(k:Fr→St→Prop)(dst:Option Nat)(op:Op)(fr:Fr)(st:St):Nat→Prop
 |0=>EvR N dst fr st k (aop P gl true op fr (look st) 0)
 |1=>EvR N dst fr st k (aop P gl true op fr (look (st++[some .resv])) st.length)
 | _=>match op with
  | .call ⟨.value f,args,_⟩=>EvC P gl N dst fr st k (eok gl true fr f∧(∀x∈args.toList,eok gl true fr x)) (ev1 gl fr f) (args.toList.map (ev1 gl fr))
  | _=>False
def EvG(P:Program)(gl:Gl)(N:Nat)(k:Fr→St→Prop)(dst:Option Nat)(op:Op)(fr:Fr)(st:St):Nat→Option Bool→Prop
 |0,some G=>i6z N G dst fr st k (aop P gl G op fr (look st) 0)
 |2,some G=>match op with
  | .call ⟨.value f,args,_⟩=>i5P P gl N G dst fr st k (eok gl G fr f∧(∀x∈args.toList,eok gl G fr x)) (ev1 gl fr f) (args.toList.map (ev1 gl fr))
  | _=>False
 | _,_=>False
def i2u(fr:Fr)(want:Bool):Option Nat→Option Bool
 |some t=>i6y want (fr.get t)
 |none=>none
def Ev(P:Program)(gl:Gl)(N:Nat)(ops:Array Oper)(K:Fr→St→Prop):List Oper→Fr→St→Prop
 | [],fr,st=>K fr st
 |⟨dst,op,_,_,_,none⟩::l,fr,st=>Ev0 P gl N (Ev P gl N ops K l) dst op fr st (opk op)
 |⟨dst,op,_,_,_,some (j,want)⟩::l,fr,st=>EvG P gl N (Ev P gl N ops K l) dst op fr st (opk op) (i2u fr want (gslot ops j))
theorem i0o{fr:Fr}{dst:Option Nat}{op:Op}{ty:TypeId}{pos:String}{af:Array Edge}{j:Nat}{want G:Bool}(hg:i2u fr want (gslot ops j)=some G):
 guardOf ops fr ⟨dst,op,ty,pos,af,some (j,want)⟩=G∧VT ops fr ⟨dst,op,ty,pos,af,some (j,want)⟩=True:=by
 unfold gslot at hg
 cases hj:(ops[j]?).bind (·.dst)with
 |none=>rw[hj]at hg;cases hg
 |some t=>
  rw[hj]at hg
  simp only[guardOf,VT,hj]
  simp only[i2u]at hg
  cases hd:fr.get t<;>rw[hd]at hg<;>simp only[i6y]at hg<;>first|(cases hg;done)|skip
  ·cases hg;exact⟨rfl,rfl⟩
  ·rename_i c d
   cases d<;>simp only at hg<;>first|(cases hg;done)|skip
   cases hg;exact⟨rfl,rfl⟩
theorem YC{op:Op}(h:opk op≠0)(h1:opk op≠1):∃f args ats,op= .call ⟨.value f,args,ats⟩:=by
 cases op<;>first|exact absurd rfl h|exact absurd rfl h1|skip
 rename_i c
 obtain⟨callee,args,argTypes⟩:=c
 cases callee with
 |builtin b=>cases b<;>first|exact absurd rfl h|exact absurd rfl h1
 |value f=>exact⟨f,args,argTypes,rfl⟩
 |invoke r m=>exact absurd rfl h
theorem d4r{K:Fr→St→Prop}:∀(l:List Oper) (fr:Fr) (st:St) (ok:Prop),ok→Ev P gl N ops K l fr st→Run P gl N ops l ⟨fr,st,ok⟩ K
 | [],fr,st,ok,hok,h=>⟨hok,h⟩
 |⟨dst,op,ty,pos,af,none⟩::l,fr,st,ok,hok,h=>by
  simp only[Ev]at h
  by_cases h0:opk op=0
  ·rw[h0]at h
   obtain⟨a,b,c⟩:=h
   obtain⟨h1,h2⟩:=(YB op).1 h0
   simp only[Run,h1]
   have:=d4r l _ _ (ok∧d0g N ⟨dst,op,ty,pos,af,none⟩∧True∧(true=true→(aop P gl true op fr (look st) 0).ok)) ⟨hok,b,trivial,fun _=>a⟩ c
   simpa only[d3X,h2,guardOf,VT,d9J,cond_true,Bool.false_eq_true,if_false]using this
  ·by_cases h1:opk op=1
   ·rw[h1]at h
    obtain⟨a,b,c⟩:=h
    obtain⟨h1,h2⟩:=(YB op).2 h1
    simp only[Run,h1]
    have:=d4r l _ _ (ok∧d0g N ⟨dst,op,ty,pos,af,none⟩∧True∧(true=true→(aop P gl true op fr (look (st++[some .resv])) st.length).ok)) ⟨hok,b,trivial,fun _=>a⟩ c
    simpa only[d3X,h2,guardOf,VT,d9J,cond_true,if_true]using this
   ·obtain⟨f,args,ats,rfl⟩:=YC h0 h1
    simp only[opk,Ev0,EvC]at h
    simp only[Run,UQ,guardOf,VT]
    cases hf:ev1 gl fr f<;>rw[hf]at h<;>first|exact h.elim|skip
    obtain⟨a,⟨b,c⟩,d⟩:=h
    exact⟨hok,a,trivial,b,c,d.mono fun d st' h=>d4r l _ _ True trivial h⟩
 |⟨dst,op,ty,pos,af,some (j,want)⟩::l,fr,st,ok,hok,h=>by
  simp only[Ev]at h
  cases hg:i2u fr want (gslot ops j)with
  |none=>rw[hg]at h;unfold EvG at h;split at h<;>first|exact h.elim|(rename_i e;cases e)
  |some G=>
   rw[hg]at h
   obtain⟨g1,g2⟩:=i0o (dst:=dst) (op:=op) (ty:=ty) (pos:=pos) (af:=af) hg
   by_cases h0:opk op=0
   ·rw[h0]at h
    obtain⟨a,b,c⟩:=h
    obtain⟨h1,h2⟩:=(YB op).1 h0
    simp only[Run,h1]
    have:=d4r l _ _ (ok∧d0g N ⟨dst,op,ty,pos,af,some (j,want)⟩∧True∧(G=true→(aop P gl G op fr (look st) 0).ok)) ⟨hok,b,trivial,a⟩ c
    simpa only[d3X,h2,g1,g2,d9J,Bool.false_eq_true,if_false]using this
   ·by_cases h1:opk op=1
    ·rw[h1]at h;exact h.elim
    ·obtain⟨f,args,ats,rfl⟩:=YC h0 h1
     simp only[opk,EvG,i5P]at h
     simp only[Run,UQ,g1,g2]
     cases hf:ev1 gl fr f<;>rw[hf]at h<;>first|exact h.elim|skip
     obtain⟨a,⟨b,c⟩,r,ups,d,d2,e⟩:=h
     exact⟨hok,a,trivial,b,c,r,ups,d,d2,d4r l _ _ True trivial e⟩
theorem er_{id:Nat}{l:List Oper}(h:Ev P gl N l.toArray (fun fr st=>Q .normal (Fr.only keep fr) st) l fr st):AWp P gl N n0 keep (.region id l.toArray false) Q fr st:=
 d9f (d4r _ _ _ _ trivial h)
def Then(P:Program)(gl:Gl)(N n0:Nat)(keep:List Nat)(c:Code)(Q:AQ)(fr:Fr)(st:St):Prop:=AWp P gl N n0 keep c Q (Fr.only keep fr) st
theorem then_eq{c:Code}:Then P gl N n0 keep c Q fr st=AWp P gl N n0 keep c Q (Fr.only keep fr) st:=rfl
@[congr] theorem i8n{l:List Oper}{K:Fr→St→Prop}{fr fr':Fr}{st st':St}(h:fr=fr')(h2:st=st'):Ev P gl N ops K l fr st=Ev P gl N ops K l fr' st':=by rw[h,h2]
@[congr] theorem i6A{dst:Option Nat}{k:Fr→St→Prop}{r r':LR}(h:r=r'):EvR N dst fr st k r=EvR N dst fr st k r':=by rw[h]
@[congr] theorem i5Q{G:Bool}{dst:Option Nat}{k:Fr→St→Prop}{r r':LR}(h:r=r'):i6z N G dst fr st k r=i6z N G dst fr st k r':=by rw[h]
@[congr] theorem i6B{dst:Option Nat}{op:Op}{k:Fr→St→Prop}{n n':Nat}(h:n=n'):Ev0 P gl N k dst op fr st n=Ev0 P gl N k dst op fr st n':=by rw[h]
@[congr] theorem i6C{dst:Option Nat}{op:Op}{k:Fr→St→Prop}{n n':Nat}{g g':Option Bool}(h:n=n')(h2:g=g'):EvG P gl N k dst op fr st n g=EvG P gl N k dst op fr st n' g':=by rw[h,h2]
@[congr] theorem i6D{dst:Option Nat}{k:Fr→St→Prop}{a a':Prop}{f f':D}{args args':List D}(h:a=a')(h2:f=f')(h3:args=args'):EvC P gl N dst fr st k a f args=EvC P gl N dst fr st k a' f' args':=by rw[h,h2,h3]
@[congr] theorem i5R{G:Bool}{dst:Option Nat}{k:Fr→St→Prop}{a a':Prop}{f f':D}{args args':List D}(h:a=a')(h2:f=f')(h3:args=args'):i5P P gl N G dst fr st k a f args=i5P P gl N G dst fr st k a' f' args':=by rw[h,h2,h3]
@[congr] theorem i6E{c:Code}{fr fr':Fr}{st st':St}(h:fr=fr')(h2:st=st'):AWp P gl N n0 keep c Q fr st=AWp P gl N n0 keep c Q fr' st':=by rw[h,h2]
@[congr] theorem i5S{f:FuncId}{args args':List D}{st st':St}{R:D→St→Prop}(h:args=args')(h2:st=st'):Spec P gl f args st R=Spec P gl f args' st' R:=by rw[h,h2]
def rsD(P:Program)(fr:Fr)(st:St):List ResultVar→D
 | [r]=>(Xe P st fr r).d
 |rs=>.tup (rs.map fun r=>(Xe P st fr r).d)
def i5T(P:Program)(fr:Fr)(st:St):List ResultVar→Prop
 | []=>True
 |r::l=>(Xe P st fr r).ok∧i5T P fr st l
def ends(n0:Nat)(R:D→St→Prop)(d:D)(st:St):Prop:=∃s t,st=s++t∧n0≤s.length∧D.sc s.length d∧YO s.length s∧R d s
def i8U(P:Program)(rs:List ResultVar)(n0:Nat)(R:D→St→Prop):AQ
 | .exit _,_,_=>False
 | _,fr,st=>i5T P fr st rs∧ends n0 R (rsD P fr st rs) st
theorem d7T{fr:Fr}{st:St}:∀(rs:List ResultVar),i5T P fr st rs→∀r∈rs,(Xe P st fr r).ok
 |r::l,h,x,hx=>by
  rcases List.mem_cons.1 hx with e|e
  ·subst e;exact h.1
  ·exact d7T l h.2 x e
@[congr] theorem i5U{n:Nat}{st st':St}{R:D→St→Prop}{d d':D}(h:d=d')(h2:st=st'):ends n R d st=ends n R d' st':=by rw[h,h2]
variable {dst:Option Nat} {k:Fr→St→Prop} {p:Prop} {d:D} {rd:List Nat} {o:Nat} {ob:Ob} {G:Bool} {K:Fr→St→Prop} {op:Op} {l:List Oper}
@[congr] theorem i4B{f:FuncId}{args args':List D}(h:args=args'):d9g P gl G dst fr st k f args=d9g P gl G dst fr st k f args':=by rw[h]
theorem p0b:Ev P gl N ops K [] fr st=K fr st:=rfl
theorem p0c{o:Oper}{l':List Oper}:Ev P gl N ops K (List.append (o::l) l') fr st=Ev P gl N ops K (o::List.append l l') fr st:=rfl
theorem i8V{l':List Oper}:Ev P gl N ops K (List.append [] l') fr st=Ev P gl N ops K l' fr st:=rfl
theorem i8W{ty:TypeId}{pos:String}{af:Array Edge}:Ev P gl N ops K (⟨dst,op,ty,pos,af,none⟩::l) fr st=Ev0 P gl N (Ev P gl N ops K l) dst op fr st (opk op):=rfl
theorem i8o{ty:TypeId}{pos:String}{af:Array Edge}{j:Nat}{want:Bool}:Ev P gl N ops K (⟨dst,op,ty,pos,af,some (j,want)⟩::l) fr st=EvG P gl N (Ev P gl N ops K l) dst op fr st (opk op) (i2u fr want (gslot ops j)):=rfl
theorem p1i:Ev0 P gl N k dst op fr st 0=EvR N dst fr st k (aop P gl true op fr (look st) 0):=rfl
theorem p1j:Ev0 P gl N k dst op fr st 1=EvR N dst fr st k (aop P gl true op fr (look (st++[some .resv])) st.length):=rfl
theorem p1k{f:Operand}{args:Array Operand}{ats:Array TypeId}:Ev0 P gl N k dst (.call ⟨.value f,args,ats⟩) fr st 2=EvC P gl N dst fr st k (eok gl true fr f∧(∀x∈args.toList,eok gl true fr x)) (ev1 gl fr f) (args.toList.map (ev1 gl fr)):=rfl
theorem p1l:EvG P gl N k dst op fr st 0 (some G)=i6z N G dst fr st k (aop P gl G op fr (look st) 0):=rfl
theorem p1m{f:Operand}{args:Array Operand}{ats:Array TypeId}:EvG P gl N k dst (.call ⟨.value f,args,ats⟩) fr st 2 (some G)=i5P P gl N G dst fr st k (eok gl G fr f∧(∀x∈args.toList,eok gl G fr x)) (ev1 gl fr f) (args.toList.map (ev1 gl fr)):=rfl
theorem i6F{t:Nat}{want:Bool}:i2u fr want (some t)=i6y want (fr.get t):=rfl
theorem i6G{b want:Bool}:i6y want (.bool b)=some (b==want):=rfl
theorem i6H{c b want:Bool}:i6y want (.cond c (.bool b))=some (c&&(b==want)):=rfl
theorem p1n:EvR N dst fr st k ⟨d,p,rd,none,none⟩=(p∧dlt N dst∧k (fr.Ye dst d) st):=rfl
theorem p1o:EvR N dst fr st k ⟨d,p,rd,some (o,ob),none⟩=(p∧dlt N dst∧k (fr.Ye dst d) (st.set o (some ob))):=rfl
theorem p1p:EvR N dst fr st k ⟨d,p,rd,none,some ob⟩=(p∧dlt N dst∧k (fr.Ye dst d) (st++[some ob])):=rfl
theorem p0d:i6z N G dst fr st k ⟨d,p,rd,none,none⟩=(d6G G p∧dlt N dst∧k (fr.Ye dst (.cond G d)) st):=by cases G<;>rfl
theorem p0e{g:FuncId}{first cap args:List D}:EvC P gl N dst fr st k p (.fn g first cap) args=(dlt N dst∧p∧Spec P gl g (first++args++cap) st fun d st'=>k (fr.Ye dst d) st'):=rfl
theorem i8X{g:FuncId}{first cap args:List D}:i5P P gl N G dst fr st k p (.fn g first cap) args=(dlt N dst∧p∧d9g P gl G dst fr st k g (first++args++cap)):=rfl
theorem TD{f:FuncId}{args:List D}{r:D}(h:G=true→Pure P gl f args r)(hk:k (fr.Ye dst (.cond G r)) st):
 d9g P gl G dst fr st k f args:=
 ⟨r,[],fun e=>h e st,fun _=>rfl,hk⟩
theorem i8p{t:Nat}:dlt N (some t)=(t<N):=rfl
theorem i8q:dlt N none=True:=rfl
theorem p0f{up:Option (Nat×Ob)}{nw:Option Ob}{q:Prop}:(LR.mk d p rd up nw).and q=⟨d,q∧p,rd,up,nw⟩:=rfl
variable {keep:List Nat}
theorem get_nil{t:Nat}:Fr.get [] t= .any:=rfl
theorem i2v{t k':Nat}{fr:Fr}:Fr.get ((k',d)::fr) t=if k'=t then d else Fr.get fr t:=rfl
theorem i4C{t:Nat}:Fr.put [] t d=[(t,d)]:=rfl
theorem i2w{t k':Nat}{e:D}{fr:Fr}:Fr.put ((k',e)::fr) t d=if k'=t then(k',d)::fr else(k',e)::Fr.put fr t d:=rfl
theorem i0p{t:Nat}:Fr.Ye fr (some t) d=fr.put t d:=rfl
theorem i0q:Fr.Ye fr none d=fr:=rfl
theorem i2x:Fr.only keep []=[]:=rfl
theorem i0r{t:Nat}{fr:Fr}:Fr.only keep ((t,d)::fr)=if keep.contains t then(t,d)::Fr.only keep fr else Fr.only keep fr:=rfl
theorem XV{s t:St}{k':Nat}:look (s++t) (s.length+k')=look t k':=by
 unfold look;rw[List.getElem?_append_right (by omega)];congr 2;omega
theorem Wq{s t:St}:look (s++t) s.length=look t 0:=by
 unfold look;rw[List.getElem?_append_right (by omega)];simp
theorem d9h{x:Option Ob}{t:St}:look (x::t) 0=x:=by cases x<;>rfl
theorem d9i{x:Option Ob}{t:St}{k':Nat}:look (x::t) (k'+1)=look t k':=rfl
theorem i0s{s t:St}{k':Nat}{x:Option Ob}:(s++t).set (s.length+k') x=s++t.set k' x:=by
 rw[List.set_append_right _ _ (by omega)];congr 2;omega
theorem i2y{s t:St}{x:Option Ob}:(s++t).set s.length x=s++t.set 0 x:=by
 rw[List.set_append_right _ _ (by omega)];simp
theorem i2z{b:Bool}:D.one (.bool b)=true:=rfl
theorem i4D{k:IntKind}{n:Int}:D.one (.int k n)=true:=rfl
theorem i4E{s:Bs}:D.one (.str s)=true:=rfl
theorem i2A:D.one .d2v=true:=rfl
theorem i2B:D.one .OI=true:=rfl
theorem i2C:D.one .WZ=true:=rfl
theorem i2D:D.one .Xu=true:=rfl
theorem i6I{f:Bool}{n b:Nat}{es:List (List D)}:D.one (.sl f n b es)=true:=rfl
theorem i6J{f:Nat}{a b:List D}:D.one (.fn f a b)=true:=rfl
theorem i2E{cs:List D}:D.one (.d1a cs)=true:=rfl
theorem i4F{f:Bool}{o g a b:Nat}:D.one (.ref f o g a b)=true:=rfl
theorem i4G{o g i c:Nat}:D.one (.ptr o g i c)=true:=rfl
theorem i6K{o:Nat}:D.one (.mp o)=true:=rfl
theorem i6L{o:Nat}:D.one (.it o)=true:=rfl
theorem i2F{cs:List D}:D.one (.agg cs)=false:=rfl
theorem i8Y{cs:List D}:mkv true cs= .agg cs:=rfl
theorem i8Z{x:D}{cs:List D}:mkv false (x::cs)=x:=rfl
end
attribute [go_sem] p0c i8V p0b i8W i8o p1i p1j p1k p1l p1m i6F i6G i6H p1n p1o p1p p0d p0e i8X i8p i8q p0f
 then_eq opk aop ev1 ev eok strip d4U get_nil i2v i4C i2w i0p i0q i2x i0r XV Wq d9h d9i i0s i2y
 d4W d4h d3R ZQ i6p Tf d0q Qw XC YM d0s d0x Xb Rr Uh ZV d1Z VQ RJ d1d aEq aUn Vf TA WS QT d9S i2j i2k i3I d0y
 D.plain cellsOf Ww splice Yg d5I Xa Vc XP YN i2i xOk d9a YU nz nz1 assoc OU d0d d0t Qg Qd d5H i8Y i8Z i2z i4D i4E i2A i2B i2C i2D i6I i6J i2E i4F i4G i6K i6L i2F d2T elemOf d2S keyOf strOf i2h TK.agg
 AQ.then AQ.block i8U Xe rsD i5T IntKind.signed
 eq_self true_and and_true and_self implies_true forall_const List.map_cons List.map_nil List.length_cons List.length_nil List.take_succ_cons List.take_zero List.drop_succ_cons List.drop_zero d8Z List.cons_append List.nil_append List.append_nil List.all_cons List.all_nil Bool.and_self Bool.and_true Bool.true_and Bool.and_false Bool.false_and
 List.getD_cons_zero List.getD_cons_succ List.getD_nil List.set_cons_zero List.set_cons_succ List.getElem?_cons_zero List.getElem?_cons_succ ne_eq not_false_eq_true Bool.false_eq_true if_true if_false cond_true cond_false List.mem_cons List.not_mem_nil or_false forall_eq forall_eq_or_imp List.append_assoc List.length_append List.replicate_zero List.replicate_succ not_true_eq_false beq_self_eq_true Bool.not_true Bool.not_false List.contains_cons List.contains_nil Bool.or_true Bool.true_or Bool.or_false Bool.false_or
section
variable {P:Program} {gl:Gl} {fr fr':Fr} {lk lk':Look} {q:Nat} {g:Bool} {op:Op}
theorem i6M(H:∀x∈op.operands,ev gl fr x=ev gl fr' x):aop P gl g op fr lk q=aop P gl g op fr' lk q:=by
 have H1:∀x∈op.operands,ev1 gl fr x=ev1 gl fr' x:=fun x h=>by simp only[ev1,H x h]
 have H2:∀g x,x∈op.operands→eok gl g fr x=eok gl g fr' x:=fun g x h=>by simp only[eok,H x h]
 cases op with
 |pick c a b=>
  have k1:=H1 c (by simp[Op.operands])
  have k2:=H1 a (by simp[Op.operands])
  have k3:=H1 b (by simp[Op.operands])
  simp only[aop,k1,k2,k3,fun g=>H2 g c (by simp[Op.operands]),fun g=>H2 g a (by simp[Op.operands]),fun g=>H2 g b (by simp[Op.operands])]
 |build t ps=>
  have h1:(ps.toList.map fun p=>(p.1,ev1 gl fr p.2))=ps.toList.map fun p=>(p.1,ev1 gl fr' p.2):=List.map_congr_left fun p hp=>by rw[H1 p.2 (by simp only[Op.operands,List.mem_toArray,List.mem_map];exact⟨p,hp,rfl⟩)]
  have h2:(∀p∈ps.toList,eok gl g fr p.2)= ∀p∈ps.toList,eok gl g fr' p.2:=forall_congr fun p=>propext ⟨fun h hp=>by rw[←H2 g p.2 (by simp only[Op.operands,List.mem_toArray,List.mem_map];exact⟨p,hp,rfl⟩)];exact h hp,fun h hp=>by rw[H2 g p.2 (by simp only[Op.operands,List.mem_toArray,List.mem_map];exact⟨p,hp,rfl⟩)];exact h hp⟩
  simp only[aop,h1,h2]
 |buildSlice t len ps=>
  have h1:(ps.toList.map fun p=>(p.1,ev1 gl fr p.2))=ps.toList.map fun p=>(p.1,ev1 gl fr' p.2):=List.map_congr_left fun p hp=>by rw[H1 p.2 (by simp only[Op.operands,List.mem_toArray,List.mem_map];exact⟨p,hp,rfl⟩)]
  have h2:(∀p∈ps.toList,eok gl g fr p.2)= ∀p∈ps.toList,eok gl g fr' p.2:=forall_congr fun p=>propext ⟨fun h hp=>by rw[←H2 g p.2 (by simp only[Op.operands,List.mem_toArray,List.mem_map];exact⟨p,hp,rfl⟩)];exact h hp,fun h hp=>by rw[H2 g p.2 (by simp only[Op.operands,List.mem_toArray,List.mem_map];exact⟨p,hp,rfl⟩)];exact h hp⟩
  simp only[aop,h1,h2]
 |makeFunc f a b=>
  cases f with
  |func f=>
   have h1:∀c:Array Operand,(∀x∈c.toList,x∈(Op.makeFunc (.func f) a b).operands)→c.toList.map (ev1 gl fr)=c.toList.map (ev1 gl fr'):=fun c hc=>List.map_congr_left fun x hx=>H1 x (hc x hx)
   have h2:∀c:Array Operand,(∀x∈c.toList,x∈(Op.makeFunc (.func f) a b).operands)→(∀x∈c.toList,eok gl g fr x)= ∀x∈c.toList,eok gl g fr' x:=fun c hc=>
    forall_congr fun x=>propext ⟨fun h hx=>by rw[←H2 g x (hc x hx)];exact h hx,fun h hx=>by rw[H2 g x (hc x hx)];exact h hx⟩
   have ha:∀x∈a.toList,x∈(Op.makeFunc (.func f) a b).operands:=fun x hx=>by simp only[Op.operands,Array.mem_append];exact .inl (by simpa using hx)
   have hb:∀x∈b.toList,x∈(Op.makeFunc (.func f) a b).operands:=fun x hx=>by simp only[Op.operands,Array.mem_append];exact .inr (by simpa using hx)
   simp only[aop,h1 a ha,h1 b hb,h2 a ha,h2 b hb]
  | _=>rfl
 |makeMap t r=>cases r<;>rfl
 |slice t x lo hi mx=>
  have hx:=H1 x (by simp[Op.operands])
  have hx2:=H2 g x (by simp[Op.operands])
  have key:∀z:Option Operand,(∀y∈z,y∈(Op.slice t x lo hi mx).operands)→z.map (ev1 gl fr)=z.map (ev1 gl fr')∧(∀y∈z,eok gl g fr y)= ∀y∈z,eok gl g fr' y:=fun z hz=>by
   cases z with
   |none=>simp
   |some y=>have:=hz y rfl;simp[H1 y this,H2 g y this]
  obtain⟨a1,a2⟩:=key lo (fun y hy=>by cases hy;simp[Op.operands])
  obtain⟨b1,b2⟩:=key hi (fun y hy=>by cases hy;simp[Op.operands])
  obtain⟨c1,c2⟩:=key mx (fun y hy=>by cases hy;simp[Op.operands])
  simp only[aop,hx,hx2,a1,a2,b1,b2,c1,c2]
 |call c=>
  obtain⟨callee,args,ats⟩:=c
  cases callee with
  |value f=>rfl
  |invoke r m=>rfl
  |builtin b=>
   have h1:∀x∈args.toList,ev1 gl fr x=ev1 gl fr' x:=fun x hx=>H1 x (by simp only[Op.operands,Call.operands];simpa using hx)
   have h2:∀x∈args.toList,eok gl g fr x=eok gl g fr' x:=fun x hx=>H2 g x (by simp only[Op.operands,Call.operands];simpa using hx)
   simp only[aop]
   generalize args.toList=l at h1 h2
   split
   ·simp only[List.mem_cons,List.not_mem_nil,or_false,forall_eq]at h1 h2;rw[h1,h2]
   ·simp only[List.mem_cons,List.not_mem_nil,or_false,forall_eq_or_imp,forall_eq]at h1 h2;rw[h1.1,h1.2,h2.1,h2.2]
   ·simp only[List.mem_cons,List.not_mem_nil,or_false,forall_eq_or_imp,forall_eq]at h1 h2;rw[h1.1,h1.2,h2.1,h2.2]
   ·simp only[List.mem_cons,List.not_mem_nil,or_false,forall_eq_or_imp,forall_eq]at h1 h2;rw[h1.1,h1.2,h2.1,h2.2]
   ·simp only[List.mem_cons,List.not_mem_nil,or_false,forall_eq]at h1 h2;rw[h1,h2]
   ·rfl
 | _=>first|rfl|(simp only[Op.operands,List.mem_toArray,List.mem_cons,List.not_mem_nil,or_false,forall_eq_or_imp,forall_eq]at H1 H2;simp only[aop,H1,H2 g,true_or,or_true])
end
def D.top:D→Option Nat
 | .ref _ o _ _ _=>some o
 | .ptr o _ _ _=>some o
 | .mp o=>some o
 | .it o=>some o
 | _=>none
def Loc(f:Look→LR)(ds:List D):Prop:=
 ∀lk,(f lk).ok→(∀o∈(f lk).rd,(∃d∈ds,d.top=some o)∧∃ob,lk o=some ob∧ob≠ .resv)∧∀lk',(∀o∈(f lk).rd,lk' o=lk o)→f lk'=f lk
theorem Pz{r:LR}{ds:List D}(h:r.rd=[]):Loc (fun _=>r) ds:=fun _ _=>⟨fun o ho=>(by simp only at ho;rw[h]at ho;cases ho),fun _ _=>rfl⟩
theorem Loc.and{f:Look→LR}{ds:List D}(h:Loc f ds)(p:Prop):Loc (fun lk=>(f lk).and p) ds:=fun lk hok=>
 ⟨(h lk hok.2).1,fun lk' h'=>by show(f lk').and p=(f lk).and p;rw[(h lk hok.2).2 lk' h']⟩
theorem Loc.sub{f:Look→LR}{ds ds':List D}(h:Loc f ds)(hd:∀d∈ds,d∈ds'):Loc f ds':=fun lk hok=>
 ⟨fun o ho=>by obtain⟨⟨d,h1,h2⟩,h3⟩:=(h lk hok).1 o ho;exact⟨⟨d,hd d h1,h2⟩,h3⟩,(h lk hok).2⟩
section
variable {i e:TI} {d x key:D} {n q:Nat}
theorem d7U:Loc (fun lk=>d3R i lk d) [d]:=fun lk hok=>by
 cases d with
 |ptr o g k c=>
  simp only[d3R]at hok⊢
  cases h:lk o with
  |none=>rw[h]at hok;exact hok.elim
  |some ob=>
   rw[h]at hok
   cases ob with
   |arr g' n' b es=>
    simp only[List.mem_singleton,forall_eq]
    exact⟨⟨⟨_,rfl,rfl⟩,_,h,Ob.noConfusion⟩,fun lk' h'=>by rw[h',h]⟩
   | _=>exact hok.elim
 |d1a cs=>exact⟨fun o ho=>(by cases ho),fun _ _=>rfl⟩
 | _=>exact hok.elim
theorem d5V:Loc (fun lk=>ZQ i lk x d) [d]:=fun lk hok=>by
 cases d with
 |ptr o g k c=>
  simp only[ZQ]at hok⊢
  cases h:lk o with
  |none=>rw[h]at hok;exact hok.elim
  |some ob=>
   rw[h]at hok
   cases ob with
   |arr g' n' b es=>
    simp only[List.mem_singleton,forall_eq]
    exact⟨⟨⟨_,rfl,rfl⟩,_,h,Ob.noConfusion⟩,fun lk' h'=>by rw[h',h]⟩
   | _=>exact hok.elim
 | _=>exact hok.elim
theorem d0D{y:D}:Loc (fun lk=>Qw i e lk x y) [x]:=fun lk hok=>by
 cases y with
 |int kk m=>
  simp only[Qw]at hok⊢
  generalize i.k=ik at hok⊢
  cases ik with
  |slice e=>
   cases x with
   |ref full o g off len=>
    simp only at hok⊢
    cases h:lk o with
    |none=>rw[h]at hok;exact hok.elim
    |some ob=>
     rw[h]at hok
     cases ob with
     |arr g' n' b es=>
      simp only[List.mem_singleton,forall_eq]
      exact⟨⟨⟨_,rfl,rfl⟩,_,h,Ob.noConfusion⟩,fun lk' h'=>by rw[h',h]⟩
     | _=>exact hok.elim
   |sl full n' b es=>exact⟨fun o ho=>(by cases ho),fun _ _=>rfl⟩
   | _=>exact hok.elim
  |arr len e=>
   cases x with
   |ptr o g k c=>exact⟨fun o ho=>(by cases ho),fun _ _=>rfl⟩
   |d1a cs=>exact⟨fun o ho=>(by cases ho),fun _ _=>rfl⟩
   | _=>exact hok.elim
  | _=>exact hok.elim
 | _=>exact hok.elim
theorem d5W{lo hi mx:Option D}:Loc (fun lk=>YM i n lk x lo hi mx) [x]:=fun lk hok=>by
 cases x with
 |ref full o g off len=>
  simp only[YM]at hok⊢
  cases h:lk o with
  |none=>rw[h]at hok;exact hok.elim
  |some ob=>
   rw[h]at hok
   cases ob with
   |arr g' n' b es=>
    simp only[List.mem_singleton,forall_eq]
    exact⟨⟨⟨_,rfl,rfl⟩,_,h,Ob.noConfusion⟩,fun lk' h'=>by rw[h',h]⟩
   | _=>exact hok.elim
 |str s=>exact⟨fun o ho=>(by cases ho),fun _ _=>rfl⟩
 |sl full n' b es=>exact⟨fun o ho=>(by cases ho),fun _ _=>rfl⟩
 |OI=>exact⟨fun o ho=>(by cases ho),fun _ _=>rfl⟩
 | _=>exact hok.elim
theorem d4s{ki vi:TI}{c:Bool}:Loc (fun lk=>VQ i ki vi lk c key d) [d]:=fun lk hok=>by
 cases d with
 |Xu=>
  simp only[VQ]at hok⊢
  cases key<;>first|(exact hok.elim)|exact⟨fun o ho=>(by cases ho),fun _ _=>by first|rfl|trivial|simp⟩
 |mp o=>
  simp only[VQ]at hok⊢
  cases h:lk o with
  |none=>rw[h]at hok;exact hok.elim
  |some ob=>
   rw[h]at hok
   cases ob<;>first|(exact hok.elim)|skip
   all_goals
    cases key<;>first|(exact hok.elim)|skip
    simp only[List.mem_singleton,forall_eq]
    exact⟨⟨⟨_,rfl,rfl⟩,_,h,Ob.noConfusion⟩,fun lk' h'=>by rw[h',h]⟩
 | _=>exact hok.elim
theorem d7V{b:Bool}:Loc (fun lk=>d1Z lk b d) [d]:=fun lk hok=>by
 cases b with
 |false=>exact hok.elim
 |true=>
  cases d with
  |it o=>
   simp only[d1Z]at hok⊢
   cases h:lk o with
   |none=>rw[h]at hok;exact hok.elim
   |some ob=>
    rw[h]at hok
    cases ob<;>first|(exact hok.elim)|skip
    all_goals
     simp only[List.mem_singleton,forall_eq]
     exact⟨⟨⟨_,rfl,rfl⟩,_,h,Ob.noConfusion⟩,fun lk' h'=>by rw[h',h]⟩
  | _=>exact hok.elim
theorem d0E{ki vi:TI}:Loc (fun lk=>RJ i ki vi lk key x d) [d]:=fun lk hok=>by
 cases d with
 |mp o=>
  simp only[RJ]at hok⊢
  cases h:lk o with
  |none=>rw[h]at hok;exact hok.elim
  |some ob=>
   rw[h]at hok
   cases ob<;>first|(exact hok.elim)|skip
   all_goals
    cases key<;>first|(exact hok.elim)|skip
    simp only[List.mem_singleton,forall_eq]
    exact⟨⟨⟨_,rfl,rfl⟩,_,h,Ob.noConfusion⟩,fun lk' h'=>by rw[h',h]⟩
 | _=>exact hok.elim
theorem i0t:Loc (fun lk=>d9S i lk d) [d]:=fun lk hok=>by
 cases d with
 |ref full o g off len=>
  simp only[d9S]at hok⊢
  cases h:lk o with
  |none=>rw[h]at hok;exact hok.elim
  |some ob=>
   rw[h]at hok
   cases ob with
   |arr g' n' b es=>
    simp only[List.mem_singleton,forall_eq]
    exact⟨⟨⟨_,rfl,rfl⟩,_,h,Ob.noConfusion⟩,fun lk' h'=>by rw[h',h]⟩
   | _=>exact hok.elim
 |mp o=>
  simp only[d9S]at hok⊢
  cases h:lk o with
  |none=>rw[h]at hok;exact hok.elim
  |some ob=>
   rw[h]at hok
   cases ob<;>first|(exact hok.elim)|skip
   all_goals
    simp only[List.mem_singleton,forall_eq]
    exact⟨⟨⟨_,rfl,rfl⟩,_,h,Ob.noConfusion⟩,fun lk' h'=>by rw[h',h]⟩
 |str s=>exact⟨fun o ho=>(by cases ho),fun _ _=>rfl⟩
 |sl full n' b es=>exact⟨fun o ho=>(by cases ho),fun _ _=>rfl⟩
 |OI=>exact⟨fun o ho=>(by cases ho),fun _ _=>rfl⟩
 |Xu=>exact⟨fun o ho=>(by cases ho),fun _ _=>rfl⟩
 | _=>exact hok.elim
theorem i2G{lk:Look}{news:List (List D)}(h:YN lk e x=some news):(∀o∈i2i x,x.top=some o∧∃ob,lk o=some ob∧ob≠ .resv)∧∀lk',(∀o∈i2i x,lk' o=lk o)→YN lk' e x=some news:=by
 cases x with
 |ref full o g off len=>
  simp only[YN]at h
  simp only[i2i,List.mem_singleton,forall_eq]
  cases hl:lk o with
  |none=>rw[hl]at h;cases h
  |some ob=>
   rw[hl]at h
   cases ob with
   |arr g' n' b es=>exact⟨⟨rfl,_,rfl,Ob.noConfusion⟩,fun lk' h'=>by simp only[YN,h'];exact h⟩
   | _=>cases h
 | _=>exact⟨fun o ho=>(by cases ho),fun _ _=>h⟩
theorem d4t{xk:TK}{s:D}:Loc (fun lk=>QT i e xk lk s x q) [s,x]:=fun lk hok=>by
 simp only[QT]at hok⊢
 cases hn:YN lk e x with
 |none=>rw[hn]at hok;exact hok.elim
 |some news=>
  rw[hn]at hok
  obtain⟨n1,n2⟩:=i2G hn
  have hx:∀o∈i2i x,(∃d∈ [s,x],d.top=some o)∧∃ob,lk o=some ob∧ob≠ .resv:=fun o ho=>⟨⟨x,by simp,(n1 o ho).1⟩,(n1 o ho).2⟩
  cases s with
  |OI=>exact⟨hx,fun lk' h'=>by simp only[n2 lk' h']⟩
  |sl full n' b es=>
   cases full with
   |true=>exact⟨hx,fun lk' h'=>by simp only[n2 lk' h']⟩
   |false=>exact hok.elim
  |ref full o g off len=>
   cases full<;>
   ·simp only at hok⊢
    cases hl:lk o with
    |none=>rw[hl]at hok;exact hok.elim
    |some ob=>
     rw[hl]at hok
     cases ob with
     |arr g' n' b es=>
      simp only[List.mem_cons,forall_eq_or_imp]
      exact⟨⟨⟨⟨_,.inl rfl,rfl⟩,_,hl,Ob.noConfusion⟩,fun o ho=>by simpa using hx o ho⟩,fun lk' h'=>by simp only[n2 lk' h'.2,h'.1,hl]⟩
     | _=>exact hok.elim
  | _=>exact hok.elim
theorem d4X{parts:List (Nat×D)}:(d0s i e parts).rd=[]:=by unfold d0s;split<;>rfl
theorem d4Y{f:Nat}:(d0q i f x).rd=[]:=by unfold d0q;(repeat' split)<;>rfl
theorem Zb{f:Nat}:(Tf i f x).rd=[]:=by unfold Tf;(repeat' split)<;>rfl
theorem d4Z{y:D}:(XC i e x y).rd=[]:=by unfold XC;(repeat' split)<;>rfl
theorem i0u{o:BinOp}{y:D}:(d1d o x y).rd=[]:=by
 unfold d1d
 split
 ·split<;>first|rfl|skip
  split<;>first|rfl|skip
  split<;>first|rfl
 ·split<;>rfl
 ·rfl
theorem i4H{fl:Option (List Nat)}{b:Bool}{y:D}:(aEq i fl b x y).rd=[]:=by unfold aEq;(repeat' split)<;>rfl
theorem i4I{o:UnOp}:(aUn o x).rd=[]:=by
 unfold aUn;split
 ·rfl
 ·rfl
 ·rfl
theorem d0i{x:D}:(TA x).rd=[]:=by unfold TA;(repeat' split)<;>rfl
theorem d1h{i e e2:TI}{x:D}:(Vf i e e2 x).rd=[]:=by unfold Vf;(repeat' split)<;>rfl
theorem d1i{ix:Nat}:(WS ix x).rd=[]:=by unfold WS;(repeat' split)<;>rfl
theorem i0v{i:TI}:(i3I i x).rd=[]:=by unfold i3I;split<;>rfl
theorem i0w{y:D}:(i2j x y).rd=[]:=by unfold i2j;split<;>rfl
theorem i0x{y:D}:(i2k x y).rd=[]:=by unfold i2k;split<;>rfl
theorem d7k{y z:D}:(d0y x y z).rd=[]:=by unfold d0y;split<;>rfl
theorem d5a:(ZV i q x).rd=[]:=by unfold ZV;split<;>rfl
theorem d1j{b:Bool}:(Uh i e b q).rd=[]:=by unfold Uh;(repeat' split)<;>rfl
theorem Zc{y:D}:(Rr i e x y q).rd=[]:=by unfold Rr;split<;>rfl
end
theorem i0y{P:Program}{gl:Gl}{fr:Fr}{q:Nat}{g:Bool}{op:Op}:Loc (fun lk=>aop P gl g op fr lk q) (op.operands.toList.map (ev1 gl fr)):=by
 have mem:∀x,x∈op.operands.toList→ev1 gl fr x∈op.operands.toList.map (ev1 gl fr):=fun x hx=>List.mem_map.2 ⟨x,hx,rfl⟩
 have one:∀ {f:Look→LR} {x:Operand},x∈op.operands.toList→Loc f [ev1 gl fr x]→Loc f (op.operands.toList.map (ev1 gl fr)):=fun hx h=>h.sub fun d hd=>by
  rw[List.mem_singleton]at hd;subst hd;exact mem _ hx
 cases op with
 |load t a=>exact one (by simp[Op.operands]) (d7U.and _)
 |store t a x=>exact one (x:=a) (by simp[Op.operands]) (d5V.and _)
 |indexAddr t x y=>exact one (x:=x) (by simp[Op.operands]) (d0D.and _)
 |slice t x lo hi mx=>exact one (x:=x) (by simp[Op.operands]) (d5W.and _)
 |lookup t m k c=>exact one (x:=m) (by simp[Op.operands]) (d4s.and _)
 |mapUpdate t m k x=>exact one (x:=m) (by simp[Op.operands]) (d0E.and _)
 |call c=>
  obtain⟨callee,args,ats⟩:=c
  cases callee with
  |value f=>exact Pz rfl
  |invoke r m=>exact Pz rfl
  |builtin b=>
   have hmem:∀x,x∈args.toList→x∈(Op.call ⟨.builtin b,args,ats⟩).operands.toList:=fun x hx=>by simp only[Op.operands,Call.operands];simpa using hx
   simp only[aop]
   generalize hl:args.toList=l at hmem
   split
   ·exact one (hmem _ (by simp)) (i0t.and _)
   ·rename_i s x t u _
    exact(d4t.and _).sub fun d hd=>by
     simp only[List.mem_cons,List.not_mem_nil,or_false]at hd
     rcases hd with rfl|rfl
     ·exact mem _ (hmem _ (by simp))
     ·exact mem _ (hmem _ (by simp))
   ·exact(Pz i0w).and _
   ·exact(Pz i0x).and _
   ·exact(Pz i0v).and _
   ·exact Pz rfl
 |pick c a b=>exact(Pz d7k).and _
 |box t x=>exact(Pz rfl).and _
 |build t ps=>exact(Pz d4X).and _
 |buildSlice t len ps=>
  simp only[aop]
  cases gl.imm t<;>exact(Pz rfl).and _
 |binOp o t x y u=>
  simp only[aop]
  split<;>first|exact(Pz i4H).and _|exact(Pz i0u).and _
 |unOp o t x=>exact(Pz i4I).and _
 |nilCheck x=>exact(Pz d0i).and _
 |convert s t x=>exact(Pz d1h).and _
 |makeFunc f a b=>cases f<;>exact Pz rfl
 |makeMap t r=>cases r with
  |none=>exact Pz d1j
  |some r=>exact Pz rfl
 |makeSlice t l c=>exact(Pz Zc).and _
 |range t x=>exact(Pz d5a).and _
 |next x b=>exact one (x:=x) (by simp[Op.operands]) (d7V.and _)
 |fieldAddr t x f=>exact(Pz Zb).and _
 |field t x f=>exact(Pz d4Y).and _
 |index t x y=>exact(Pz d4Z).and _
 |extract x j=>exact(Pz d1i).and _
 | _=>exact Pz rfl
section
variable {P:Program} {gl:Gl} {fr fr':Fr} {q:Nat} {g:Bool} {op:Op} {lk:Look}
theorem Zd{f:Look→LR}{d:D}(h:Loc f [d]){o:Nat}(hok:(f lk).ok)(ho:o∈(f lk).rd):d.top=some o:=by
 obtain⟨⟨e,h1,h2⟩,_⟩:=(h lk hok).1 o ho
 rw[List.mem_singleton]at h1;subst h1;exact h2
theorem i4J{o:Nat}(hok:(aop P gl g op fr lk q).ok)(ho:o∈(aop P gl g op fr lk q).rd):∃x∈op.operands.toList,eok gl g fr x∧(ev1 gl fr x).top=some o:=by
 have none:∀ {r:LR},r.rd=[]→o∈r.rd→∃x∈op.operands.toList,eok gl g fr x∧(ev1 gl fr x).top=some o:=fun h ho=>by rw[h]at ho;cases ho
 cases op with
 |load t a=>exact⟨a,by simp[Op.operands],hok.1.1,Zd d7U hok.2 ho⟩
 |store t a x=>exact⟨a,by simp[Op.operands],hok.1.1,Zd (d5V) hok.2 ho⟩
 |indexAddr t x y=>exact⟨x,by simp[Op.operands],hok.1.1,Zd (d0D) hok.2 ho⟩
 |slice t x lo hi mx=>exact⟨x,by simp[Op.operands],hok.1.1,Zd (d5W) hok.2 ho⟩
 |lookup t m k c=>exact⟨m,by simp[Op.operands],hok.1.1,Zd (d4s) hok.2 ho⟩
 |mapUpdate t m k x=>exact⟨m,by simp[Op.operands],hok.1.1,Zd (d0E) hok.2 ho⟩
 |next x b=>exact⟨x,by simp[Op.operands],hok.1,Zd (d7V) hok.2 ho⟩
 |range t x=>exact none d5a ho
 |call c=>
  obtain⟨callee,args,ats⟩:=c
  cases callee with
  |value f=>cases ho
  |invoke r m=>cases ho
  |builtin b=>
   have hmem:∀x,x∈args.toList→x∈(Op.call ⟨.builtin b,args,ats⟩).operands.toList:=fun x hx=>by simp only[Op.operands,Call.operands];simpa using hx
   simp only[aop]at hok ho
   generalize args.toList=l at hmem hok ho
   revert hok ho
   split<;>intro hok ho
   ·exact⟨_,hmem _ (by simp),hok.1,Zd i0t hok.2 ho⟩
   ·obtain⟨⟨d,h1,h2⟩,_⟩:=(d4t _ hok.2).1 o ho
    simp only[List.mem_cons,List.not_mem_nil,or_false]at h1
    rcases h1 with rfl|rfl
    ·exact⟨_,hmem _ (by simp),hok.1.1,h2⟩
    ·exact⟨_,hmem _ (by simp),hok.1.2,h2⟩
   ·exact none i0w ho
   ·exact none i0x ho
   ·exact none i0v ho
   ·cases ho
 |pick c a b=>exact none d7k ho
 |box t x=>cases ho
 |build t ps=>exact none d4X ho
 |buildSlice t len ps=>revert ho;simp only[aop];cases gl.imm t<;>(intro ho;cases ho)
 |binOp o' t x y u=>
  simp only[aop]at ho
  split at ho<;>first|exact none i4H ho|exact none i0u ho
 |unOp o t x=>exact none i4I ho
 |nilCheck x=>exact none d0i ho
 |convert s t x=>exact none d1h ho
 |makeFunc f a b=>cases f<;>cases ho
 |makeMap t r=>cases r with
  |none=>exact none d1j ho
  |some r=>cases ho
 |makeSlice t l c=>exact none Zc ho
 |fieldAddr t x f=>exact none Zb ho
 |field t x f=>exact none d4Y ho
 |index t x y=>exact none d4Z ho
 |extract x j=>exact none d1i ho
 | _=>cases ho
theorem VR.i2H{w:World}{μ:Mu}{st:St}{v:Value}{d:D}{o:Nat}(h:VR w μ st v d)(ht:d.top=some o):st[o]? ≠some (some .resv):=by
 cases h with
 |tr h=>cases h<;>cases ht
 |ref=>cases ht;assumption
 |ptr=>cases ht;assumption
 |mp=>cases ht;assumption
 |it=>cases ht;assumption
 | _=>cases ht
def d7W(r:LR):Prop:=∀o ob,r.up=some (o,ob)→o∈r.rd
theorem QI{r:LR}(h:r.up=none):d7W r:=fun o ob e=>by rw[h]at e;cases e
theorem QJ{r:LR}{p:Prop}(h:r.still):d7W (r.and p):=QI (by simp only[LR.and];exact h.1)
theorem d2m:d7W (aop P gl g op fr lk q):=by
 cases op with
 |store t a x=>
  refine fun o ob e=>?_
  simp only[aop,LR.and,ZQ]at e⊢
  revert e
  cases ev1 gl fr a<;>try (intro e;cases e;done)
  rename_i o' g' k c
  simp only
  cases lk o' with
  |none=>intro e;cases e
  |some ob'=>cases ob'<;>(intro e;cases e)<;>simp
 |mapUpdate t m k x=>
  refine fun o ob e=>?_
  simp only[aop,LR.and,RJ]at e⊢
  revert e
  cases ev1 gl fr m<;>try (intro e;cases e;done)
  rename_i o'
  simp only
  cases lk o' with
  |none=>intro e;cases e
  |some ob'=>cases ob'<;>try (intro e;cases e;done)
             all_goals (cases ev1 gl fr k<;>(intro e;cases e)<;>simp)
 |next x b=>
  refine fun o ob e=>?_
  simp only[aop,LR.and]at e⊢
  cases b with
  |false=>cases e
  |true=>
   revert e
   cases ev1 gl fr x<;>try (intro e;cases e;done)
   simp only[d1Z]
   rename_i o'
   cases lk o' with
   |none=>intro e;cases e
   |some ob'=>cases ob'<;>(intro e;cases e)<;>simp
 |range t x=>exact QI (d2Y _ _ _)
 |call c=>
  obtain⟨callee,args,ats⟩:=c
  cases callee with
  |value f=>exact QI rfl
  |invoke r m=>exact QI rfl
  |builtin b=>
   simp only[aop]
   generalize args.toList=l
   split
   ·refine QI ?_
    simp only[LR.and]
    exact(Yk _ _ _).1
   ·refine fun o ob e=>?_
    rename_i s x t u _
    simp only[LR.and,QT]at e⊢
    revert e
    cases YN lk (OD P (elemOf (OD P t))) (ev1 gl fr x)with
    |none=>intro e;cases e
    |some news=>
     simp only
     cases ev1 gl fr s<;>try (intro e;cases e;done)
     ·rename_i full _ _ _;cases full<;>(intro e;cases e)
     ·rename_i full o' _ _ _
      cases full<;>simp only
      ·cases lk o' with
       |none=>intro e;cases e
       |some ob'=>cases ob'<;>(intro e;cases e)<;>simp
      ·cases lk o' with
       |none=>intro e;cases e
       |some ob'=>cases ob'<;>(intro e;cases e)
   ·refine QI ?_
    simp only[LR.and];exact(Zx _ _).1
   ·refine QI ?_
    simp only[LR.and];exact(Zy _ _).1
   ·refine QI ?_
    simp only[LR.and];exact(Yl _ _).1
   ·exact QI rfl
 |pick c a b=>exact QJ (Za _ _ _)
 |box t x=>exact QI rfl
 |build t ps=>exact QJ (YZ _ _ _)
 |buildSlice t len ps=>simp only[aop];cases gl.imm t<;>exact QI rfl
 |load t a=>exact QJ (Yz _ _ _)
 |binOp o t x y u=>
  simp only[aop]
  split<;>first|exact QJ (d2W _ _ _ _ _)|exact QJ (d1f _ _ _)
 |unOp o t x=>exact QJ (d2X _ _)
 |nilCheck x=>exact QJ (Xd _)
 |convert s t x=>exact QJ (XS _ _ _ _)
 |makeFunc f a b=>cases f<;>exact QI rfl
 |makeMap t r=>cases r with
  |none=>simp only[aop,Uh];(repeat' split)<;>exact QI rfl
  |some r=>exact QI rfl
 |makeSlice t l c=>simp only[aop,Rr];split<;>exact QI rfl
 |slice t x lo hi mx=>exact QJ (XD _ _ _ _ _ _ _)
 |fieldAddr t x f=>exact QJ (WA _ _ _)
 |field t x f=>exact QJ (YW _ _ _)
 |indexAddr t x y=>exact QJ (Uj _ _ _ _ _)
 |index t x y=>exact QJ (YX _ _ _ _)
 |lookup t m k c=>exact QJ (WT _ _ _ _ _ _ _)
 |extract x j=>exact QJ (XT _ _)
 | _=>exact QI rfl
end
end Go.Am
