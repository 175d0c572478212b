/-
 AM, part 16: append.
-/
import Derived.MapKept
import Derived.Test.YtahjhbkhcaphgaaGreatDoorFTAm0
set_option linter.unusedVariables false
set_option linter.unusedSimpArgs false
namespace Go.Am
open Go
theorem jB{P:Program}(w:World)(t u ty e:TypeId)(i:TypeInfo)(z:Value)(d:TypeDesc)(ht:P.underlying t=some (.slice e))(hu:P.underlying u=some d)(hd:∀k,d≠ .int k)(hi:P.info? e=some i)(hz:i.zero=some z)
 (base:Option Addr) (sLen sCap n:Nat) (x:Value) (yA xs:Array Value) (hlen:∀w,(Builtin.lenOf x).run P w= .ok n w)
 (hfo:(Builtin.firstCells i.size sLen (.slice base sLen sCap)).run P w.drew= .ok yA w.drew) (hf:(Builtin.firstCells i.size n x).run P w.drew= .ok xs w.drew)
 (hg:sCap<sLen+n) (h63:sLen+n≤top) (hfit:(sLen+n)*i.bytes≤top):
 (Builtin.append_ #[t,u] ty #[.slice base sLen sCap,x]).run P w=
  .ok (.slice (some ⟨w.heap.size,0,none⟩) (sLen+n) (grownCap w (sLen+n) sCap e))
   (w.drew.alloc (.cells (yA++xs++Builtin.zeroCells z.cells (grownCap w (sLen+n) sCap e-(sLen+n))) e)):=by
 have hn:¬(sLen+n≤sCap):=by omega
 have t1:top=140737488355328:=rfl
 have h63':¬(9223372036854775807<((sLen:Int)+(n:Int))):=by omega
 have h48':¬(281474976710656<Builtin.nextslicecap (sLen+n) sCap*i.bytes):=by
  have:=growslice_fits (bytes:=i.bytes) hg (by rw[←t1];exact hfit)
  omega
 have hzb:(match d with| .int _=>true| _=>false)=false:=by cases d<;>first|rfl|exact absurd rfl (hd _)
 simp[Builtin.append_,run_underlying ht,run_underlying hu,hzb,sizeOf,typeInfo,zeroValue,hi,hz,hlen,hn,h63',h48',Question.forced,hf,hfo,newRow,grownCap]
theorem dx{P:Program}(w w':World)(t u ty e:TypeId)(i:TypeInfo)(d:TypeDesc)(ht:P.underlying t=some (.slice e))(hu:P.underlying u=some d)(hd:∀k,d≠ .int k)(hi:P.info? e=some i)
 (base:Option Addr) (sLen sCap n:Nat) (x:Value) (xs:Array Value) (hlen:∀w,(Builtin.lenOf x).run P w= .ok n w)
 (hf:(Builtin.firstCells i.size n x).run P w= .ok xs w) (hg:sLen+n≤sCap)
 (hst:∀a,base=some a→(storeCells (a.add (sLen*i.size)) xs.toList).run P w= .ok () w') (hb:base=none→w'=w):
 (Builtin.append_ #[t,u] ty #[.slice base sLen sCap,x]).run P w= .ok (.slice base (sLen+n) sCap) w':=by
 have hzb:(match d with| .int _=>true| _=>false)=false:=by cases d<;>first|rfl|exact absurd rfl (hd _)
 cases base with
 |none=>
  have:=hb rfl;subst this
  simp[Builtin.append_,run_underlying ht,run_underlying hu,hzb,sizeOf,typeInfo,hi,hlen,hg,hf]
 |some a=>
  have h:=hst a rfl
  simp[Builtin.append_,run_underlying ht,run_underlying hu,hzb,sizeOf,typeInfo,hi,hlen,hg,hf,h]
structure rX(P:Program)(w:World)(μ:Mu)(st:St)(size:Nat)(x:Value)(news:List (List D)):Prop where
 len:∀w,(Builtin.lenOf x).run P w= .ok news.length w
 cells:∃xs:Array Value,(∀w2:World,(∀a,w2.cell? a=w.cell? a)→(Builtin.firstCells size news.length x).run P w2= .ok xs w2)∧mE w μ st size xs news
theorem TR.yB{w:World}{own:Nat→Prop}{v:Value}{d:D}(h:TR w own v d):v.oneCell'=true:=by
 cases h<;>first|rfl|assumption
theorem ep{P:Program}{w:World}{μ:Mu}{st:St}{n:Nat}{a:Option Addr}{len cap:Nat}{es:List (List D)}{cv:Nat→Nat→Value}(hn:∀e∈es,e.length=n)(hlen:len=es.length)
 (ha:es=[]∨∃blk off,a=some ⟨blk,off,none⟩∧∀i j,i<es.length→j<n→w.cell? ⟨blk,off+(i*n+j),none⟩=some (cv i j))
 (hv:∀i j (hi:i<es.length) (hj:j<(es[i]).length),VR w μ st (cv i j) ((es[i])[j])∧(cv i j).oneCell'=true):
 rX P w μ st n (.slice a len cap) es:=by
 subst hlen
 refine⟨fun _=>rfl,?_⟩
 by_cases hne:es=[]
 ·subst hne
  refine⟨#[],fun w2 _=>?_,by simp,fun _ h=>absurd h (by simp),fun i j hi=>absurd hi (by simp)⟩
  cases a with
  |none=>rfl
  |some a=>simp[Builtin.firstCells,loadCells,loadCellsFrom]
 ·rcases ha with ha|⟨blk,off,rfl,hc⟩
  ·exact absurd ha hne
  ·by_cases hn0:n=0
   ·subst hn0
    refine⟨#[],fun w2 _=>by simp[Builtin.firstCells,loadCells,loadCellsFrom],by simp[mE],hn,fun i j hi hj=>?_⟩
    rw[hn _ (List.getElem_mem hi)]at hj;omega
   ·have hdm:∀q,q<es.length*n→q / n<es.length∧q%n<n:=fun q hq=>⟨(Nat.div_lt_iff_lt_mul (by omega)).2 hq,Nat.mod_lt _ (by omega)⟩
    refine⟨((List.range (es.length*n)).map fun q=>cv (q / n) (q%n)).toArray,fun w2 h2=>?_,by simp,hn,fun i j hi hj=>?_⟩
    ·simp only[Builtin.firstCells]
     refine run_loadCells (P:=P) w2 ⟨blk,off,none⟩ (es.length*n) (fun q=>cv (q / n) (q%n)) (fun q hq=>?_)
     rw[fV,h2]
     obtain⟨d1,d2⟩:=hdm q hq
     have:=hc _ _ d1 d2
     rwa[Nat.div_add_mod' q n]at this
    ·have hjn:j<n:=by rw[←hn _ (List.getElem_mem hi)];exact hj
     have hlt:i*n+j<es.length*n:=by
      have:(i+1)*n≤es.length*n:=Nat.mul_le_mul_right n hi
      rw[Nat.add_mul]at this;omega
     obtain⟨v1,v2⟩:=hv i j hi hj
     refine⟨cv i j,?_,v1,v2⟩
     have e1:(i*n+j) / n=i:=by rw[Nat.add_comm,Nat.add_mul_div_right _ _ (by omega)];simp[Nat.div_eq_of_lt hjn]
     have e2:(i*n+j)%n=j:=by rw[Nat.add_comm,Nat.add_mul_mod_self_right];exact Nat.mod_eq_of_lt hjn
     simp[hlt,e1,e2]
theorem qH{P:Program}{w:World}{μ:Mu}{st:St}{full:Bool}{o g off len n b:Nat}{es:List (List D)}{v:Value}(hs:Sim w μ st)(hv:VR w μ st v (.ref full o g off len))
 (hl:look st o=some (.arr g n b es)) (hle:off+len≤es.length):
 ∃a cap,v= .slice a len cap∧len≤cap∧(full=true→cap=len)∧rX P w μ st n v ((es.drop off).take len)∧
  (cap=0∨∃blk base c ty,μ o=some (blk,base)∧a=some ⟨blk,base+off*n,none⟩∧w.heap[blk]? =some (.cells c ty (0,0))∧base+(off+cap)*n≤c.size):=by
 have ho:=F0 hl
 obtain⟨hb,hn,DW⟩:=(hs.obj o _ ho:kj w μ st (μ o) n b es)
 cases hv with
 |tr h=>cases h
 |ref _ _ _ _ _ _ hvv hol hr hg h=>
  obtain⟨a,cap,ev,c1,c2,c3,c4⟩:=h _ _ _ ho
  subst ev
  refine⟨a,cap,rfl,c1,c3,?_,?_⟩
  ·have Ea:((es.drop off).take len).length=len:=by simp;omega
   by_cases hz:len=0
   ·have:(es.drop off).take len=[]:=by rw[hz];simp
    rw[this]
    exact ep (n:=n) (cv:=fun _ _=>undef) (by simp) (by simp[hz]) (.inl rfl) (fun i j hi=>absurd hi (by simp))
   ·rcases c4 with c4|⟨blk,base,em,ea,c,ty,hh,hsz⟩
    ·omega
    ·rcases DW with⟨e,_⟩|⟨oZ,base',c',ty',em',hh',hsz',hc'⟩
     ·rw[em]at e;cases e
     ·rw[em]at em';cases em'
      rw[hh]at hh';cases hh'
      have hex:∀i j,∃v,∀(hi:i<es.length) (hj:j<(es[i]).length),c[base+(i*n+j)]? =some v∧VR w μ st v ((es[i])[j])∧v.oneCell'=true:=fun i j=>by
       by_cases h:∃hi:i<es.length,j<(es[i]).length
       ·obtain⟨hi,hj⟩:=h
        obtain⟨v,h⟩:=hc' i j hi hj
        exact⟨v,fun _ _=>h⟩
       ·exact⟨undef,fun hi hj=>absurd ⟨hi,hj⟩ h⟩
      obtain⟨cv,hcv⟩:=Classical.axiomOfChoice (fun i=>Classical.axiomOfChoice (hex i))
      refine ep (n:=n) (cv:=fun i j=>cv (off+i) j) (fun e he=>hn e (List.mem_of_mem_drop (List.mem_of_mem_take he))) Ea.symm (.inr ⟨blk,_,ea,fun i j hi hj=>?_⟩) (fun i j hi hj=>?_)
      ·rw[Ea]at hi
       have hil:off+i<es.length:=by omega
       have:=(hcv (off+i) j hil (by rw[hn _ (List.getElem_mem hil)];exact hj)).1
       simp only[World.cell?, hh]
       rw[show base+off*n+(i*n+j)=base+((off+i)*n+j)by rw[Nat.add_mul];omega]
       simpa using this
      ·rw[Ea]at hi
       have hil:off+i<es.length:=by omega
       simp only[List.getElem_take,List.getElem_drop]at hj⊢
       exact(hcv (off+i) j hil hj).2
  ·rcases c4 with c4|⟨blk,base,em,ea,c,ty,hh,hsz⟩
   ·exact .inl c4
   ·exact .inr ⟨blk,base,c,ty,em,ea,hh,hsz⟩
theorem wQ{P:Program}{w:World}{μ:Mu}{st:St}{x:D}{vx:Value}{e:TI}{news:List (List D)}(hs:Sim w μ st)(hx:VR w μ st vx x)(hn:hZ (look st) e x=some news)(h1:∀s,x= .str s→e.size=1):rX P w μ st e.size vx news:=by
 cases x with
 |sl full n b es=>
  simp only[hZ]at hn
  split at hn
  ·rename_i he
   cases hn
   cases hx with
   |tr h=>
    cases h with
    |sl _ _ _ _ a len cap cv hlen hcap hfull hb hb1 hnn ha hc=>
     rw[←he]
     refine ep (cv:=cv) hnn hlen ?_ (fun i j hi hj=>⟨.tr (hc i j hi hj),(hc i j hi hj).yB⟩)
     rcases ha with ha|⟨blk,off,ea,_,_,hcell⟩
     ·exact .inl ha
     ·exact .inr ⟨blk,off,ea,hcell⟩
  ·cases hn
 |y5=>
  cases hn
  have:=fJ hx;subst this
  exact ep (cv:=fun _ _=>undef) (by simp) rfl (.inl rfl) (fun i j hi=>absurd hi (by simp))
 |ref full o g off len=>
  simp only[hZ]at hn
  split at hn
  ·rename_i g' n b es hl
   split at hn
   ·rename_i hc
    obtain⟨rfl,rfl,hle⟩:=hc
    cases hn
    obtain⟨a,cap,ev,_,_,hnr,_⟩:=qH (P:=P) hs hx hl hle
    exact hnr
   ·cases hn
  ·cases hn
 |str s=>
  cases hn
  have:=aS hx;subst this
  rw[h1 s rfl]
  refine⟨fun _=>by simp[Builtin.lenOf,fK],((s.map fun c=>Value.int .u8 (c.toNat:Int))).toArray,fun w2 _=>?_,by simp,by simp,fun i j hi hj=>?_⟩
  ·simp only[Builtin.firstCells,pT,List.length_map]
   simp[bs]
  ·simp at hi
   simp at hj
   subst hj
   refine⟨.int .u8 ((s[i]).toNat:Int),by simp[hi],by simpa using aA _ _ _ _ _,rfl⟩
 | _=>cases hn
theorem mE.append{w:World}{μ:Mu}{st:St}{n:Nat}{a b:Array Value}{x y:List (List D)}(h1:mE w μ st n a x)(h2:mE w μ st n b y):mE w μ st n (a++b) (x++y):=by
 refine⟨by rw[Array.size_append,h1.1,h2.1,List.length_append,Nat.add_mul],fun e he=>?_,fun i j hi hj=>?_⟩
 ·rcases List.mem_append.1 he with h|h
  ·exact h1.2.1 e h
  ·exact h2.2.1 e h
 ·by_cases hil:i<x.length
  ·simp only[List.getElem_append_left hil]at hj⊢
   obtain⟨v,e,r⟩:=h1.2.2 i j hil hj
   have hlt:i*n+j<a.size:=(Array.getElem?_eq_some_iff.1 e).1
   exact⟨v,by rw[Array.getElem?_append_left hlt];exact e,r⟩
  ·have hir:x.length≤i:=by omega
   simp only[List.getElem_append_right hir]at hj⊢
   have hi2:i-x.length<y.length:=by simp at hi;omega
   obtain⟨v,e,r⟩:=h2.2.2 (i-x.length) j hi2 hj
   have e1:i*n+j-a.size=(i-x.length)*n+j:=by
    rw[h1.1,Nat.sub_mul]
    have:x.length*n≤i*n:=Nat.mul_le_mul_right n hir
    omega
   refine⟨v,?_,r⟩
   rw[Array.getElem?_append_right (by rw[h1.1];have:x.length*n≤i*n:=Nat.mul_le_mul_right n hir;omega),e1]
   exact e
def LR.app(r:LR)(q:Nat)(st:St):St:=
 let s1:=match r.up with|some (o,ob)=>st.set o (some ob)|none=>st
 match r.new with|some ob=>s1.set q (some ob)|none=>s1
theorem lG{P:Program}{t u ty el:TypeId}{i:TypeInfo}{z:Value}{d:TypeDesc}{w:World}{μ:Mu}{st:St}{q sLen sCap:Nat}{base:Option Addr}{vx:Value}{es news:List (List D)}(hs:Sim w μ st)(hq:st[q]? =some (some .resv))
 (ht:P.underlying t=some (.slice el)) (hu:P.underlying u=some d) (hd:∀k,d≠ .int k) (hi:P.info? el=some i) (hz:i.zero=some z) (hzl:z.cells.size=i.size)
 (hb:rX P w μ st i.size (.slice base sLen sCap) es) (hx:rX P w μ st i.size vx news) (hl:sLen=es.length) (hg:sCap<sLen+news.length)
 (h63:sLen+news.length≤top) (hfit:(sLen+news.length)*i.bytes≤top):
 ∃v w' μ',(Builtin.append_ #[t,u] ty #[.slice base sLen sCap,vx]).run P w= .ok v w'∧Sim w' μ' (st.set q (some (.arr 0 i.size i.bytes (es++news))))∧
  Step w μ st w' μ' (st.set q (some (.arr 0 i.size i.bytes (es++news))))∧VR w' μ' (st.set q (some (.arr 0 i.size i.bytes (es++news)))) v (.ref false q 0 0 (sLen+news.length)):=by
 obtain⟨yA,ho1,ho2⟩:=hb.cells
 obtain⟨xs,hx1,hx2⟩:=hx.cells
 subst hl
 have hrun:=jB (P:=P) w t u ty el i z d ht hu hd hi hz base es.length sCap news.length vx yA xs hx.len (ho1 w.drew (fun _=>rfl)) (hx1 w.drew (fun _=>rfl)) hg h63 hfit
 have jK:=ho2.append hx2
 have hlt:q<st.length:=(List.getElem?_eq_some_iff.1 hq).1
 have hcap:es.length+news.length≤grownCap w (es.length+news.length) sCap el:=by simp[grownCap,Question.cut]
 have hd0:Sim w.drew μ st∧Step w μ st w.drew μ st:=by
  have step:Step w μ st w.drew μ st:=⟨Nat.le_refl _,rfl,rfl,⟨rfl,Dr.le (Nat.le_succ _)⟩,fun _ _ _=>rfl,fun _ h=>.inl h,Nat.le_refl _,fun _ ob' _ h=>⟨ob',h,by
   cases ob' with
   |arr g n b es=>exact⟨Nat.le_refl _,fun _=>⟨rfl,rfl,rfl,rfl,fun blk base c ty _ hh=>⟨c,hh,rfl⟩⟩⟩
   |mps=>exact⟨rfl,rfl⟩
   |mpi=>exact⟨rfl,rfl,rfl⟩
   |sit=>rfl
   |resv=>trivial⟩⟩
  exact⟨⟨fun o ob h=>(hs.obj o ob h).step step (fun _ _ _=>rfl),hs.inj⟩,step⟩
 have h:=dM (w:=w.drew) (x:=.cells (yA++xs++Builtin.zeroCells z.cells (grownCap w (es.length+news.length) sCap el-(es.length+news.length))) el) (ob:=.arr 0 i.size i.bytes (es++news)) hd0.1 hq
  (fun s=>lD (fun a b ha hb'=>by
   obtain⟨v,e,h1,h2⟩:=jK.2.2 a b ha hb'
   have hlt2:a*i.size+b<(yA++xs).size:=(Array.getElem?_eq_some_iff.1 e).1
   exact⟨v,by rw[Array.getElem?_append_left hlt2];exact e,h1.step hd0.2,h2⟩) (by rw[Array.size_append];have:=jK.1;omega) jK.2.1 (by simpa using hfit) s)
 refine⟨_,_,_,hrun,h.1,hd0.2.trans h.2,?_⟩
 refine .ref _ false q 0 0 _ ⟨_,_,_,rfl⟩ (by simpa using hlt) (by simp[hlt]) (fun g' n b es e=>Nat.zero_le _) (fun n b es' e=>?_)
 rw[List.getElem?_set_self hlt]at e
 cases e
 refine⟨_,_,rfl,hcap,by simp,fun hf=>(by cases hf),.inr ⟨w.heap.size,0,by rw[D5];rfl,by simp,_,el,heap_alloc_new _ _,?_⟩⟩
 have hzs:∀m,(Builtin.zeroCells z.cells m).size=m*z.cells.size:=fun m=>by simp[Builtin.zeroCells]
 rw[Array.size_append,hzs,jK.1,hzl,List.length_append, ←Nat.add_mul]
 refine Nat.le_of_eq ?_
 rw[Nat.zero_add,Nat.zero_add]
 congr 1
 omega
theorem JU{P:Program}{u:TypeId}(h:(x5 P u).k= .str∨∃t,(x5 P u).k= .slice t):∃d,P.underlying u=some d∧∀k,d≠ .int k:=by
 rcases h with h|⟨t,h⟩
 ·exact⟨_,ku h,fun k e=>by cases e⟩
 ·exact⟨_,au h,fun k e=>by cases e⟩
theorem rY{P:Program}{t u ty el:TypeId}{w:World}{μ:Mu}{st:St}{vs vx:Value}{src x:D}{q:Nat}{r:LR}(hs:Sim w μ st)(Jr:VR w μ st vs src)(hx:VR w μ st vx x)
 (hel:(x5 P t).k= .slice el) (hr:r=N6 (x5 P t) (x5 P el) (x5 P u).k (look st) src x q) (hok:r.ok) (hq:st[q]? =some (some .resv)):
 ∃v w' μ',(Builtin.append_ #[t,u] ty #[vs,vx]).run P w= .ok v w'∧Sim w' μ' (r.app q st)∧Step w μ st w' μ' (r.app q st)∧VR w' μ' (r.app q st) v r.d:=by
 have ht:=au hel
 have hlt:q<st.length:=(List.getElem?_eq_some_iff.1 hq).1
 cases hn:hZ (look st) (x5 P el) x with
 |none=>rw[hr]at hok;simp only[N6,hn]at hok;exact hok.elim
 |some news=>
  have fine:∀n,wN (x5 P t) (x5 P el) (x5 P u).k x n→
   ∃i z d,P.info? el=some i∧i.zero=some z∧z.cells.size=i.size∧P.underlying u=some d∧(∀k,d≠ .int k)∧(x5 P el).size=i.size∧(x5 P el).bytes=i.bytes∧i.size≠0∧n*i.bytes≤top∧n≤top∧rX P w μ st i.size vx news:=by
   intro n ⟨_,h1,h2,h3,h4,h5,h6⟩
   obtain⟨i,z,hi,hz,hc⟩:=fY (w:=w) (μ:=μ) (st:=st) h1 h2
   have hsz:(x5 P el).size=i.size:=by simp[x5,hi]
   have hby:(x5 P el).bytes=i.bytes:=by simp[x5,hi]
   have hxk:(x5 P u).k= .str∨∃t,(x5 P u).k= .slice t:=by
    cases x<;>first|exact .inl h6.1|exact .inr h6
   obtain⟨d,hu,hd⟩:=JU hxk
   have hnr:=wQ (P:=P) hs hx hn (fun s e=>by subst e;exact h6.2)
   rw[hsz]at hnr h2
   refine⟨i,z,d,hi,hz,by rw[hc.1,h1,hsz],hu,hd,hsz,hby,h2,by rw[←hby];exact h4,h5,hnr⟩
  have empty:∀(a:Option Addr) (d:TypeDesc) (i:TypeInfo),P.underlying u=some d→(∀k,d≠ .int k)→P.info? el=some i→rX P w μ st i.size vx []→news=[]→
   ∃v w' μ',(Builtin.append_ #[t,u] ty #[.slice a 0 0,vx]).run P w= .ok v w'∧Sim w' μ' (st.set q (some (.arr 0 i.size i.bytes [])))∧
    Step w μ st w' μ' (st.set q (some (.arr 0 i.size i.bytes [])))∧VR w' μ' (st.set q (some (.arr 0 i.size i.bytes []))) v (.ref false q 0 0 0):=by
   intro a d i hu hd hi hnr _
   obtain⟨xs,hx1,hx2⟩:=hnr.cells
   have hxs:xs= #[]:=by
    have:=hx2.1
    simp at this
    exact this
   have hrun:=dx (P:=P) w w t u ty el i d ht hu hd hi a 0 0 0 vx xs hnr.len (hx1 w (fun _=>rfl)) (by simp) (fun a _=>by rw[hxs];rfl) (fun _=>rfl)
   have h:=cw (w:=w) (w':=w) (μ':=upd μ q none) (ob':=.arr 0 i.size i.bytes []) hs hq (fun o' h=>S5 _ _ _ h) (fun _ _ _=>rfl) (Nat.le_refl _) rfl rfl ⟨rfl,Dr.le (Nat.le_refl _)⟩ (fun blk base e=>by rw[D5]at e;cases e) trivial
    (fun s=>(⟨by simp,by simp,.inl ⟨D5 _ _ _,rfl⟩⟩:kj _ _ _ _ _ _ _))
   refine⟨_,w,_,hrun,h.1,h.2,.ref _ false q 0 0 0 ⟨_,_,_,rfl⟩ (by simpa using hlt) (by simp[hlt]) (fun g' n b es e=>Nat.zero_le _) (fun n b es' e=>?_)⟩
   rw[List.getElem?_set_self hlt]at e
   cases e
   exact⟨_,_,rfl,Nat.le_refl _,by simp,fun hf=>(by cases hf),.inl rfl⟩
  cases src with
  |y5=>
   have:=fJ Jr;subst this
   have hr':r=N6 (x5 P t) (x5 P el) (x5 P u).k (look st) .y5 x q:=hr
   simp only[N6,hn]at hr'
   subst hr'
   obtain⟨i,z,d,hi,hz,hzl,hu,hd,hsz,hby,h0,h4,h5,hnr⟩:=fine _ hok
   simp only[LR.app]
   rw[hsz,hby]
   by_cases hne:news=[]
   ·subst hne
    exact empty none d i hu hd hi hnr rfl
   ·have hpos:0<news.length:=List.length_pos_iff.2 hne
    have h:=lG (P:=P) (ty:=ty) (q:=q) (sLen:=0) (sCap:=0) (base:=none) (es:=[]) hs hq ht hu hd hi hz hzl (ep (cv:=fun _ _=>undef) (by simp) rfl (.inl rfl) (fun i j hi=>absurd hi (by simp))) hnr rfl (by simpa using hpos) (by simpa using h5) (by simpa using h4)
    simpa using h
  |sl full n b es=>
   cases full with
   |false=>rw[hr]at hok;simp only[N6,hn]at hok;exact hok.elim
   |true=>
    have hr':r=N6 (x5 P t) (x5 P el) (x5 P u).k (look st) (.sl true n b es) x q:=hr
    simp only[N6,hn]at hr'
    subst hr'
    obtain⟨hok,hne,hor⟩:=hok
    obtain⟨i,z,d,hi,hz,hzl,hu,hd,hsz,hby,h0,h4,h5,hnr⟩:=fine _ hok
    simp only[LR.app]
    rw[hsz,hby]
    cases Jr with
    |tr h=>
     cases h with
     |sl _ _ _ _ a len cap cv hlen hcap hfull hb hb1 hnn ha hc=>
      subst hlen
      have hcl:cap=es.length:=hfull rfl
      subst hcl
      have hbr:rX P w μ st i.size (.slice a es.length es.length) es:=by
       rw[←hsz, ←hne]
       refine ep (cv:=cv) hnn rfl ?_ (fun i j hi hj=>⟨.tr (hc i j hi hj),(hc i j hi hj).yB⟩)
       rcases ha with ha|⟨blk,off,ea,_,_,hcell⟩
       ·exact .inl ha
       ·exact .inr ⟨blk,off,ea,hcell⟩
      by_cases JV:news=[]
      ·rcases hor with h|h
       ·subst h;subst JV
        exact empty a d i hu hd hi hnr rfl
       ·exact absurd JV h
      ·have hpos:0<news.length:=List.length_pos_iff.2 JV
       exact lG (P:=P) (ty:=ty) (q:=q) hs hq ht hu hd hi hz hzl hbr hnr rfl (by omega) h5 h4
  |ref full o g off len=>
   cases hl:look st o with
   |none=>rw[hr]at hok;cases full<;>(simp only[N6,hn,hl]at hok;exact hok.elim)
   |some ob=>
    cases ob with
    |arr g' n b es=>
     cases full with
     |true=>
      have hr':r=N6 (x5 P t) (x5 P el) (x5 P u).k (look st) (.ref true o g off len) x q:=hr
      simp only[N6,hn,hl]at hr'
      subst hr'
      obtain⟨hok,rfl,hne,hle,hnn⟩:=hok
      obtain⟨i,z,d,hi,hz,hzl,hu,hd,hsz,hby,h0,h4,h5,hnr⟩:=fine _ hok
      simp only[LR.app]
      rw[hsz,hby]
      obtain⟨a,cap,ev,c1,c2,hbr,_⟩:=qH (P:=P) hs Jr hl hle
      subst ev
      rw[hne,hsz]at hbr
      have hcl:=c2 rfl
      by_cases hn0:news=[]
      ·have h0l:len=0:=hnn.elim id (fun h=>absurd hn0 h)
       subst hn0;subst h0l
       have:cap=0:=by omega
       subst this
       simpa using empty a d i hu hd hi hnr rfl
      have hpos:0<news.length:=List.length_pos_iff.2 hn0
      exact lG (P:=P) (ty:=ty) (q:=q) hs hq ht hu hd hi hz hzl hbr hnr (by simp;omega) (by omega) h5 h4
     |false=>
      have hr':r=N6 (x5 P t) (x5 P el) (x5 P u).k (look st) (.ref false o g off len) x q:=hr
      simp only[N6,hn,hl]at hr'
      subst hr'
      obtain⟨hok,rfl,hne,hbe,hle⟩:=hok
      obtain⟨i,z,d,hi,hz,hzl,hu,hd,hsz,hby,h0,h4,h5,hnr⟩:=fine _ hok
      simp only[LR.app]
      have ho:=F0 hl
      have hol:o<st.length:=(List.getElem?_eq_some_iff.1 ho).1
      obtain⟨a,cap,ev,c1,c2,hbr,GD⟩:=qH (P:=P) hs Jr hl hle
      subst ev
      have hnz:n=i.size:=by rw[hne,hsz]
      subst hnz
      have hl2:((es.drop off).take len).length=len:=by simp;omega
      obtain⟨yA,ho1,ho2⟩:=hbr.cells
      obtain⟨xs,hx1,hx2⟩:=hnr.cells
      rw[hl2]at ho1
      have jK:=ho2.append hx2
      have hbb:((es.drop off).take len++news).length*b≤top:=by rw[List.length_append,hl2,hbe,hby];exact h4
      have hnew:∀e∈(es.drop off).take len++news,e.length=i.size:=jK.2.1
      by_cases hfit:len+news.length≤cap
      ·by_cases hz0:cap=0
       ·have hlz:len=0:=by omega
        have hnw:news=[]:=List.length_eq_zero_iff.1 (by omega)
        subst hlz;subst hnw
        have hxs:xs= #[]:=by have:=hx2.1;simp at this;exact this
        have hrun:=dx (P:=P) w w t u ty el i d ht hu hd hi a 0 cap 0 vx xs hnr.len (hx1 w (fun _=>rfl)) (by omega) (fun a _=>by rw[hxs];rfl) (fun _=>rfl)
        have h:=cw (w:=w) (w':=w) (μ':=upd μ o none) (ob':=.arr (g'+1) i.size b ((es.drop off).take 0++[])) hs ho (fun o' h=>S5 _ _ _ h) (fun _ _ _=>rfl) (Nat.le_refl _) rfl rfl ⟨rfl,Dr.le (Nat.le_refl _)⟩
         (fun blk base e=>by rw[D5]at e;cases e) ⟨by omega,fun e=>by omega⟩ (fun s=>(⟨by simp,by simp,.inl ⟨D5 _ _ _,by simp⟩⟩:kj _ _ _ _ _ _ _))
        refine⟨_,w,_,hrun,h.1,h.2,.ref _ false o (g'+1) 0 0 ⟨_,_,_,rfl⟩ (by simpa using hol) (by simp[hol]) (fun g2 n2 b2 es2 e=>?_) (fun n b es' e=>?_)⟩
        ·rw[List.getElem?_set_self hol]at e;cases e;exact Nat.le_refl _
        ·rw[List.getElem?_set_self hol]at e;cases e
         exact⟨_,_,rfl,by omega,by simp,fun hf=>(by cases hf),.inl hz0⟩
       ·rcases GD with h0|⟨blk,base,c,ty',em,ea,hh,JT⟩
        ·omega
        ·subst ea
         have Mv:xs.size=news.length*i.size:=hx2.1
         have JW:(off+len+news.length)*i.size≤(off+cap)*i.size:=Nat.mul_le_mul_right _ (by omega)
         rw[Nat.add_mul,Nat.add_mul]at JW
         have Dk:∀v∈xs.toList,v.oneCell'=true:=fun v hv=>by
          obtain⟨q',hq',e⟩:=List.getElem_of_mem hv
          have hq2:q'<news.length*i.size:=by rw[←Mv];simpa using hq'
          have h1:q' / i.size<news.length:=(Nat.div_lt_iff_lt_mul (by omega)).2 hq2
          have h2:q'%i.size<i.size:=Nat.mod_lt _ (by omega)
          obtain⟨u',eu,_,hu1⟩:=hx2.2.2 (q' / i.size) (q'%i.size) h1 (by rw[hx2.2.1 _ (List.getElem_mem h1)];exact h2)
          rw[Nat.div_add_mod' q' i.size]at eu
          have:xs[q']? =some v:=by rw[←e];simp at hq';simp[hq']
          rw[this]at eu;cases eu;exact hu1
         have hst:=run_storeCells_at (P:=P) blk (base+off*i.size+len*i.size) ty' xs.toList 0 c w hh (by simp;omega) Dk
         have hrun:=dx (P:=P) w _ t u ty el i d ht hu hd hi (some ⟨blk,base+off*i.size,none⟩) len cap news.length vx xs hnr.len (hx1 w (fun _=>rfl)) hfit (fun a ea=>by cases ea;rw[fV];exact hst) (fun e=>by cases e)
         let c':Array Value:=(c.toList.take (base+off*i.size+len*i.size+0)++xs.toList++c.toList.drop (base+off*i.size+len*i.size+0+xs.toList.length)).toArray
         have hsize':c'.size=c.size:=by simp[c'];omega
         have hh':(w.setRow blk c').heap[blk]? =some (.cells c' ty' (0,0)):=setRow_heap w blk c c' ty' (0,0) hh
         have hget:∀q,c'[q]? =if base+off*i.size+len*i.size≤q∧q<base+off*i.size+len*i.size+xs.size then xs[q-(base+off*i.size+len*i.size)]? else c[q]? :=fun q=>by
          have:=tN c.toList xs.toList (base+off*i.size+len*i.size) q (by simp;omega)
          simp only[c',List.getElem?_toArray,Nat.add_zero]
          rw[this];simp
         obtain⟨hb0,hn0,DW⟩:=(hs.obj o _ ho:kj w μ st (μ o) i.size b es)
         have h:=cw (w:=w) (w':=w.setRow blk c') (μ':=upd μ o (some (blk,base+off*i.size))) (ob':=.arr (g'+1) i.size b ((es.drop off).take len++news)) hs ho (fun o' h=>S5 _ _ _ h)
          (fun oZ hb' hne=>setRow_other w _ _ _ (fun e=>hne base (by rw[e];exact em))) (by rw[setRow_size];exact Nat.le_refl _) rfl rfl ⟨rfl,Dr.le (Nat.le_refl _)⟩
          (fun oZ base' e=>by rw[D5]at e;cases e;exact .inl ⟨base,em⟩) ⟨by omega,fun e=>by omega⟩ (fun s=>by
           change kj _ _ _ _ _ _ _
           refine⟨hbb,hnew,.inr ⟨blk,base+off*i.size,c',ty',D5 _ _ _,hh',by rw[hsize',List.length_append,hl2,Nat.add_mul];omega,fun k j hk hj=>?_⟩⟩
           rw[hget]
           by_cases hkl:k<len
           ·have hko:k<((es.drop off).take len).length:=by rw[hl2];exact hkl
            simp only[List.getElem_append_left hko,List.getElem_take,List.getElem_drop]at hj⊢
            have hjn:j<i.size:=by have:=hn0 _ (List.getElem_mem (show off+k<es.length by omega));omega
            have OM:k*i.size+i.size≤len*i.size:=by
             have:(k+1)*i.size≤len*i.size:=Nat.mul_le_mul_right _ hkl
             rw[Nat.add_mul]at this;omega
            rw[if_neg (by omega)]
            rcases DW with⟨e,_⟩|⟨Mp,JR,c2,ty2,em2,hh2,_,hc2⟩
            ·rw[em]at e;cases e
            ·rw[em]at em2;cases em2
             rw[hh]at hh2;cases hh2
             obtain⟨u',eu,hu',hu1⟩:=hc2 (off+k) j (by omega) hj
             refine⟨u',?_,hu'.step s,hu1⟩
             rw[←eu,Nat.add_mul];congr 1;omega
           ·have hko:((es.drop off).take len).length≤k:=by rw[hl2];omega
            have hk2:k-((es.drop off).take len).length<news.length:=by simp at hk;omega
            simp only[List.getElem_append_right hko]at hj⊢
            obtain⟨u',eu,hu',hu1⟩:=hx2.2.2 _ j hk2 hj
            rw[hl2]at eu
            have hlt2:(k-len)*i.size+j<xs.size:=(Array.getElem?_eq_some_iff.1 eu).1
            have e1:len*i.size+(k-len)*i.size=k*i.size:=by rw[←Nat.add_mul];congr 1;omega
            refine⟨u',?_,hu'.step s,hu1⟩
            rw[if_pos (by omega), ←eu];congr 1;omega)
         refine⟨_,_,_,hrun,h.1,h.2,.ref _ false o (g'+1) 0 _ ⟨_,_,_,rfl⟩ (by simpa using hol) (by simp[hol]) (fun g2 n2 b2 es2 e=>?_) (fun n b es' e=>?_)⟩
         ·rw[List.getElem?_set_self hol]at e;cases e;exact Nat.le_refl _
         ·rw[List.getElem?_set_self hol]at e;cases e
          refine⟨_,_,rfl,hfit,by rw[List.length_append,hl2];omega,fun hf=>(by cases hf),.inr ⟨blk,base+off*i.size,D5 _ _ _,by simp,c',ty',hh',?_⟩⟩
          rw[hsize',Nat.zero_add]
          rw[Nat.add_mul]at JT;omega
      ·have hrun:=jB (P:=P) w t u ty el i z d ht hu hd hi hz a len cap news.length vx yA xs hnr.len (ho1 w.drew (fun _=>rfl)) (hx1 w.drew (fun _=>rfl)) (by omega) h5 h4
       have hcap:len+news.length≤grownCap w (len+news.length) cap el:=by simp[grownCap,Question.cut]
       have hcells:∀k j (hk:k<((es.drop off).take len++news).length) (hj:j<(((es.drop off).take len++news)[k]).length),∃v,
        (yA++xs++Builtin.zeroCells z.cells (grownCap w (len+news.length) cap el-(len+news.length)))[k*i.size+j]? =some v∧VR w μ st v ((((es.drop off).take len++news)[k])[j])∧v.oneCell'=true:=fun k j hk hj=>by
        obtain⟨v,e,h1,h2⟩:=jK.2.2 k j hk hj
        have hlt2:k*i.size+j<(yA++xs).size:=(Array.getElem?_eq_some_iff.1 e).1
        exact⟨v,by rw[Array.getElem?_append_left hlt2];exact e,h1,h2⟩
       have h:=cw (w:=w) (w':=w.drew.alloc (.cells (yA++xs++Builtin.zeroCells z.cells (grownCap w (len+news.length) cap el-(len+news.length))) el)) (μ':=upd μ o (some (w.heap.size,0))) (ob':=.arr (g'+1) i.size b ((es.drop off).take len++news)) hs ho (fun o' h=>S5 _ _ _ h)
        (fun oZ hb' hne=>gI (w:=w.drew) hb') (by simp) rfl rfl ⟨rfl,Dr.le (Nat.le_succ _)⟩
        (fun oZ base' e=>by rw[D5]at e;cases e;exact .inr (Nat.le_refl _)) ⟨by omega,fun e=>by omega⟩ (fun s=>by
         change kj _ _ _ _ _ _ _
         refine⟨hbb,hnew,.inr ⟨w.heap.size,0,_,el,D5 _ _ _,heap_alloc_new w.drew _,?_,fun k j hk hj=>?_⟩⟩
         ·rw[Array.size_append];have:=jK.1;omega
         ·obtain⟨v,e,h1,h2⟩:=hcells k j hk hj
          exact⟨v,by rw[Nat.zero_add];exact e,h1.step s,h2⟩)
       refine⟨_,_,_,hrun,h.1,h.2,.ref _ false o (g'+1) 0 _ ⟨_,_,_,rfl⟩ (by simpa using hol) (by simp[hol]) (fun g2 n2 b2 es2 e=>?_) (fun n b es' e=>?_)⟩
       ·rw[List.getElem?_set_self hol]at e;cases e;exact Nat.le_refl _
       ·rw[List.getElem?_set_self hol]at e;cases e
        refine⟨_,_,rfl,hcap,by rw[List.length_append,hl2];omega,fun hf=>(by cases hf),.inr ⟨w.heap.size,0,D5 _ _ _,by simp,_,el,heap_alloc_new w.drew _,?_⟩⟩
        have hzs:∀m,(Builtin.zeroCells z.cells m).size=m*z.cells.size:=fun m=>by simp[Builtin.zeroCells]
        rw[Array.size_append,hzs,jK.1,hzl,List.length_append,hl2, ←Nat.add_mul]
        refine Nat.le_of_eq ?_
        rw[Nat.zero_add,Nat.zero_add]
        congr 1
        omega
    |mps=>rw[hr]at hok;cases full<;>(simp only[N6,hn,hl]at hok;exact hok.elim)
    |mpi=>rw[hr]at hok;cases full<;>(simp only[N6,hn,hl]at hok;exact hok.elim)
    |sit=>rw[hr]at hok;cases full<;>(simp only[N6,hn,hl]at hok;exact hok.elim)
    |resv=>rw[hr]at hok;cases full<;>(simp only[N6,hn,hl]at hok;exact hok.elim)
  | _=>rw[hr]at hok;simp only[N6,hn]at hok;exact hok.elim
end Go.Am
namespace Go.Am
open Go Go.MapKept
def rune(s:Bs)(p:Nat):Int:=((Utf8.decode (bs s) p).1:Nat)
def qI(s:Bs)(p:Nat):Nat:=if p<s.length then(Utf8.decode (bs s) p).2 else 0
def jC(i:TI)(q:Nat)(x:D):LR:=
 match i.k,x with
 | .str,.str s=>{ d:=.it q,ok:=True,new:=some (.sit s 0) }
 | _,_=>.bad
def mH(lk:Look)(s:Bool)(x:D):LR:=
 match s,x with
 |true,.it o=>match lk o with
  |some (.sit s p)=>{ d:=.tup [.bool (decide (p<s.length)),.cond (decide (p<s.length)) (.int .i64 (p:Nat)),.cond (decide (p<s.length)) (.int .i32 (rune s p))],
                      ok:=True,rd:=[o],up:=some (o,.sit s (p+qI s p)) }
  | _=>.bad
 | _,_=>.bad
theorem uf{P:Program}{t:TypeId}{w:World}{μ:Mu}{st:St}{vx:Value}{x:D}{q:Nat}(hs:Sim w μ st)(hx:VR w μ st vx x)(hok:(jC (x5 P t) q x).ok)(hq:st[q]? =some (some .resv)):
 ∃v w' μ' ob,(Instr.range t vx).run P w= .ok v w'∧(jC (x5 P t) q x).new=some ob∧Sim w' μ' (st.set q (some ob))∧Step w μ st w' μ' (st.set q (some ob))∧
  VR w' μ' (st.set q (some ob)) v (jC (x5 P t) q x).d:=by
 have hlt:q<st.length:=(List.getElem?_eq_some_iff.1 hq).1
 unfold jC at hok⊢
 split at hok
 ·rename_i s hk
  have:=aS hx;subst this
  have hu:=ku hk
  have h:=dM (x:=.stringIter (bs s) 0) (ob:=.sit s 0) hs hq (fun _=>⟨w.heap.size,rfl,heap_alloc_new _ _⟩)
  refine⟨.pointer (some ⟨w.heap.size,0,none⟩),_,_,_,?_,rfl,h.1,h.2,?_⟩
  ·simp[Instr.range,run_underlying hu]
  ·exact .it _ q ⟨_,rfl⟩ (by simpa using hlt) (by simp[hlt]) (fun s' p e=>by
    refine⟨w.heap.size,by rw[D5],rfl⟩)
 ·exact hok.elim
theorem jD{P:Program}{w:World}{r p:Nat}{s:ByteArray}{ob:Obj}(hb:w.heap[r]? =some ob)(hn:ob= .stringIter s p):(getObj r).run P w= .ok ob w:=by
 subst hn
 simp[getObj,Sem.run,hb]
theorem pB{P:Program}{w:World}{r p:Nat}{s:ByteArray}(o:Obj)(hb:w.heap[r]? =some (.stringIter s p)):(setObj r o).run P w= .ok () { w with heap:=w.heap.setIfInBounds r o }:=by
 simp[setObj,Sem.run,hb]
theorem wR{P:Program}{t:TypeId}{w:World}{μ:Mu}{st:St}{vx:Value}{x:D}{b:Bool}(hs:Sim w μ st)(hx:VR w μ st vx x)(hok:(mH (look st) b x).ok):
 ∃v w' o ob,(Instr.next vx b t).run P w= .ok v w'∧(mH (look st) b x).up=some (o,ob)∧Sim w' μ (st.set o (some ob))∧Step w μ st w' μ (st.set o (some ob))∧
  VR w' μ (st.set o (some ob)) v (mH (look st) b x).d:=by
 unfold mH at hok⊢
 split at hok
 ·rename_i o
  split at hok
  ·rename_i s p hl
   have ho:=F0 hl
   have hlt:o<st.length:=(List.getElem?_eq_some_iff.1 ho).1
   obtain⟨blk,em,ev⟩:∃blk,μ o=some (blk,0)∧vx= .pointer (some ⟨blk,0,none⟩):=by
    cases hx with
    |tr h=>cases h
    |it _ _ _ _ _ h=>exact h s p ho
   subst ev
   have hh:w.heap[blk]? =some (.stringIter (bs s) p):=by
    obtain⟨oZ,e1,e2⟩:=hs.obj o _ ho
    rw[em]at e1;cases e1;exact e2
   by_cases hp:p<s.length
   ·have hr:qI s p=(Utf8.decode (bs s) p).2:=by simp[qI,hp]
    obtain⟨hs1,hs2⟩:=heap_set (w:=w) (o':=.stringIter (bs s) (p+qI s p)) hh
    have m:=cw (w':={ w with heap:=w.heap.setIfInBounds blk (.stringIter (bs s) (p+qI s p)) }) (ob':=.sit s (p+qI s p)) hs ho (fun _ _=>rfl) (fun b hb hne=>hs2 b (fun e=>hne 0 (e▸em))) (by simp) rfl rfl ⟨rfl,Dr.le (Nat.le_refl _)⟩
     (fun b base e=>.inl ⟨base,e⟩) rfl (fun _=>⟨blk,em,hs1⟩)
    refine⟨.tuple #[.bool true,goInt p,.int .i32 (rune s p)],_,o,_,?_,rfl,m.1,m.2,?_⟩
    ·simp[Instr.next,jD hh rfl,fK,hp,pB _ hh,hr,rune]
    ·show VR _ _ _ _ (.tup _)
     refine .tup _ _ (fun j hj _=>by simpa using hj) (fun j hj=>?_)
     match j,hj with
     |0,_=>simp[hp];exact O4 _ _ _ _
     |1,_=>exact .cond _ _ _ (fun _=>aA _ _ _ _ _) (fun e=>by simp[hp]at e)
     |2,_=>exact .cond _ _ _ (fun _=>aA _ _ _ _ _) (fun e=>by simp[hp]at e)
   ·have hr:qI s p=0:=by simp[qI,hp]
    have m:=cw (w':=w) (μ':=μ) (ob':=.sit s (p+qI s p)) hs ho (fun _ _=>rfl) (fun b hb hne=>rfl) (Nat.le_refl _) rfl rfl ⟨rfl,Dr.le (Nat.le_refl _)⟩
     (fun b base e=>.inl ⟨base,e⟩) rfl (fun _=>⟨blk,em,by rw[hr];exact hh⟩)
    refine⟨.tuple #[.bool false],_,o,_,?_,rfl,m.1,m.2,?_⟩
    ·simp[Instr.next,jD hh rfl,fK,hp]
    ·show VR _ _ _ _ (.tup _)
     refine .tup _ _ (fun j hj h=>?_) (fun j hj=>?_)
     ·match j,hj with
      |0,_=>simp
      |1,_=>simp[D.live,hp]at h
      |2,_=>simp[D.live,hp]at h
     ·match j,hj with
      |0,_=>simp[hp];exact O4 _ _ _ _
      |1,_=>exact .cond _ _ _ (fun e=>by simp[hp]at e) (fun _=>rfl)
      |2,_=>exact .cond _ _ _ (fun e=>by simp[hp]at e) (fun _=>rfl)
  ·exact hok.elim
 ·exact hok.elim
end Go.Am
namespace Go.Am
open Go
def D.plain:D→Bool
 | .any| .agg _| .tup _| .fn _ _ _| .ref _ _ _ _ _| .ptr _ _ _ _| .mp _| .it _| .cond _ _=>false
 | _=>true
def kC(i:TI)(e:TI)(len:Nat)(parts:List (Nat×D)):LR:=
 let rows:=fI (List.replicate len e.zero) (parts.map fun p=>(p.1,cellsOf e p.2))
 { d:=.sl false e.size e.bytes rows,ok:=(∃t,i.k= .slice t)∧e.zero.length=e.size∧e.size≠0∧e.zero.all D.one=true∧(∀p∈parts,dn e p.2∧p.1<len)∧len*e.size≤2^24∧len*e.bytes≤top∧1≤e.bytes∧(rows.all fun r=>r.all D.plain)=true }
theorem BG{w:World}{μ:Mu}{st:St}{v:Value}{d:D}(h:VR w μ st v d)(hi:d.plain=true):TR w (own μ st) v d:=by
 cases h<;>first|(cases hi;done)|assumption
theorem BH{st:St}{q:Nat}(hq:st[q]? =some (some .resv)):st.set q (some .resv)=st:=by
 apply List.ext_getElem?
 intro i
 by_cases h:q=i
 ·subst h
  rw[List.getElem?_set_self (List.getElem?_eq_some_iff.1 hq).1,hq]
 ·rw[List.getElem?_set_ne h]
theorem yC{w:World}{μ:Mu}{st:St}{q:Nat}(hs:Sim w μ st)(hq:st[q]? =some (some .resv))(x:Obj):Sim (w.alloc x) μ st∧Step w μ st (w.alloc x) μ st:=by
 have h:=cw (w':=w.alloc x) (μ':=μ) (ob':=.resv) hs hq (fun _ _=>rfl) (fun blk hb _=>gI hb) (by simp) rfl rfl ⟨rfl,Dr.le (Nat.le_refl _)⟩ (fun blk base e=>.inl ⟨base,e⟩) trivial (fun _=>hs.obj q _ hq)
 rwa[BH hq]at h
theorem pC{P:Program}{t el:TypeId}{w:World}{μ:Mu}{st:St}{ps:Array (Nat×Value)}{ds:List (Nat×D)}{len q:Nat}(hs:Sim w μ st)(hps:nI w μ st ps.toList ds)
 (hel:(x5 P t).k= .slice el) (hok:(kC (x5 P t) (x5 P el) len ds).ok) (hq:st[q]? =some (some .resv)):
 ∃v w',(Instr.buildSlice t len ps).run P w= .ok v w'∧Sim w' μ st∧Step w μ st w' μ st∧VR w' μ st v (kC (x5 P t) (x5 P el) len ds).d:=by
 obtain⟨_,h1,h2,h3,h4,h5,h6,h7,h8⟩:=hok
 have hu:=au hel
 obtain⟨inf,z,hi,hz,hc⟩:=fY (w:=w) (μ:=μ) (st:=st) h1 h2
 obtain⟨inf',hi',hsz⟩:=K7 h2
 rw[hi]at hi';cases hi'
 have hz0:=nL (len:=len) hc h3 (by rw[h1];exact h2)
 rw[h1]at hz0
 obtain⟨vs',e1,e2⟩:=nM (len:=len) ps.toList ds _ _ hps hz0 (by simp) h4
 have hlen:(fI (List.replicate len (x5 P el).zero) (ds.map fun p=>(p.1,cellsOf (x5 P el) p.2))).length=len:=by rw[jA];simp
 have h:=yC hs hq (.cells vs' el)
 refine⟨.slice (some ⟨w.heap.size,0,none⟩) len len,_,?_,h.1,h.2,?_⟩
 ·have h5':¬(2^24<len*inf.size):=by rw[←hsz];omega
  have tW:Instr.fill (fun i=>some (i*inf.size,inf.size)) ((Array.range (len*inf.size)).map (z.cells[· %z.cells.size]!)) ps.toList=some vs':=by
   rw[←hsz];exact e1
  by_cases hl0:len*inf.size=0
  ·have:len=0:=by
    rcases Nat.mul_eq_zero.1 hl0 with h|h
    ·exact h
    ·rw[←hsz]at h;exact absurd h h2
   subst this
   have r0:Array.range 0=(#[]:Array Nat):=rfl
   simp[r0]at tW
   simp[Instr.buildSlice,run_underlying hu,D1 hi,newRow,r0,tW]
  ·simp only[Instr.buildSlice,run_underlying hu,Sem.run_bind,Result.andThen_ok,D1 hi]
   simp[h5',hl0,zeroValue,typeInfo,hi,hz,newRow]
   rw[tW]
   simp
 ·refine .tr (.sl false (x5 P el).size (x5 P el).bytes _ _ len len (fun i j=>vs'.getD (i*(x5 P el).size+j) undef) hlen.symm (Nat.le_refl _) (fun e=>by cases e) (by rw[hlen];exact h6) h7 e2.2.1
   (.inr ⟨w.heap.size,0,rfl,by simp,fun ho=>?_,fun i j hi hj=>?_⟩) (fun i j hi hj=>?_))
  ·exact absurd (nA hs ho) (Nat.lt_irrefl _)
  ·obtain⟨v,hv,_,_⟩:=e2.2.2 i j hi (by rw[e2.2.1 _ (List.getElem_mem hi)];exact hj)
   have e:(w.alloc (.cells vs' el)).heap[w.heap.size]? =some (.cells vs' el):=heap_alloc_new _ _
   simp only[World.cell?, e,Nat.zero_add,Array.getD_eq_getD_getElem?, hv,Option.getD_some]
   rfl
  ·obtain⟨v,hv,hr,_⟩:=e2.2.2 i j hi hj
   have hp:=List.all_eq_true.1 h8 _ (List.getElem_mem hi)
   have:=(BG hr (List.all_eq_true.1 hp _ (List.getElem_mem hj))).step h.2
   simpa[Array.getD_eq_getD_getElem?, hv]using this
def strip:D→D
 | .cond _ d=>d
 |d=>d
def qJ(g:Bool):D→Prop
 | .cond c _=>g=true→c=true
 | _=>True
theorem ug{w:World}{μ:Mu}{st:St}{v:Value}{d:D}(h:VR w μ st v d)(hok:qJ true d):VR w μ st v (strip d):=by
 cases d with
 |cond c d=>
  cases h with
  |tr h=>cases h
  |cond _ _ _ h _=>exact h (hok rfl)
 | _=>exact h
def ev1(G:Gl)(fr:Fr)(x:Operand):D:=strip (ev G fr x)
def eok(G:Gl)(g:Bool)(fr:Fr)(x:Operand):Prop:=qJ g (ev G fr x)
def LR.and(r:LR)(p:Prop):LR:={ r with ok:=p∧r.ok }
def elemOf(i:TI):Nat:=match i.k with
 | .slice e=>e
 | .arr _ e=>e
 | .map _ e=>e
 | .ptr e=>e
 | _=>0
def nU(s t:TI):Nat:=match t.k with
 | .str=>elemOf s
 | _=>elemOf t
def keyOf(i:TI):Nat:=match i.k with
 | .map k _=>k
 | _=>0
def nV:D→Bool
 | .bool b=>b
 | _=>false
def kD(c a b:D):LR:=
 match c,a,b with
 | .bool c,.bool a,.bool b=>jI (bif c then a else b)
 | _,_,_=>.bad
def aop(P:Program)(G:Gl)(g:Bool)(o:Op)(fr:Fr)(lk:Look)(q:Nat):LR:=
 let E:=ev1 G fr
 let K:=eok G g fr
 match o with
 | .move x| .assign x=>{ d:=E x,ok:=K x }
 | .pick c a b=>(kD (E c) (E a) (E b)).and (K c∧eok G (g&&nV (E c)) fr a∧eok G (g&& !nV (E c)) fr b)
 | .alloc t=>pL (x5 P t) q
 | .box t x=>(Gx (x5 P t) q (E x)).and (K x∧(x5 P t).k≠ .none)
 | .build t ps=>(kq (x5 P t) (x5 P (elemOf (x5 P t))) (ps.toList.map fun p=>(p.1,E p.2))).and ((∀p∈ps.toList,K p.2)∧(x5 P t).k.agg=true∧(∀n e,(x5 P t).k≠ .arr n e))
 | .buildSlice t len ps=>(bif G.imm t then kC (x5 P t) (x5 P (elemOf (x5 P t))) len (ps.toList.map fun p=>(p.1,E p.2))else eD (x5 P t) (x5 P (elemOf (x5 P t))) len (ps.toList.map fun p=>(p.1,E p.2)) q).and (∀p∈ps.toList,K p.2)
 | .load t a=>(pe (x5 P t) lk (E a)).and (K a∧(x5 P t).k≠ .none)
 | .store t a x=>(jz (x5 P t) lk (E x) (E a)).and (K a∧K x∧(x5 P t).k≠ .none)
 | .binOp op t x y _=>match op,E x with
  | .eql,.bool _| .eql,.agg _| .eql,.y5| .eql,.sl _ _ _ _=>(aEq (x5 P t) (C0 P t) false (E x) (E y)).and (K x∧K y)
  | .neq,.bool _| .neq,.agg _| .neq,.y5| .neq,.sl _ _ _ _=>(aEq (x5 P t) (C0 P t) true (E x) (E y)).and (K x∧K y)
  |op,_=>(lE op (E x) (E y)).and (K x∧K y)
 | .unOp op _ x=>(aUn op (E x)).and (K x)
 | .convert s t x=>(bP (x5 P s) (x5 P t) (x5 P (nU (x5 P s) (x5 P t))) (E x)).and (K x)
 | .nilCheck x=>(aE (E x)).and (K x)
 | .makeFunc (.func f) a b=>{ d:=.fn f (a.toList.map E) (b.toList.map E),ok:=(∀x∈a.toList,K x)∧∀x∈b.toList,K x }
 | .makeMap t none=>aV (x5 P t) (x5 P (keyOf (x5 P t))) (x5 P (elemOf (x5 P t))).k.agg q
 | .makeSlice t l c=>(R9 (x5 P t) (x5 P (elemOf (x5 P t))) (E l) (E c) q).and (K l∧K c)
 | .slice t x lo hi mx=>(hY (x5 P t) (x5 P (elemOf (x5 P t))).size lk (E x) (lo.map E) (hi.map E) (mx.map E)).and (K x∧(∀y∈lo,K y)∧(∀y∈hi,K y)∧∀y∈mx,K y)
 | .fieldAddr t x f=>(Z9 (x5 P t) f (E x)).and (K x)
 | .field t x f=>(kl (x5 P t) f (E x)).and (K x)
 | .indexAddr t x i=>(K4 (x5 P t) (x5 P (elemOf (x5 P t))) lk (E x) (E i)).and (K x∧K i)
 | .index t x i=>(fu (x5 P t) (x5 P (elemOf (x5 P t))) (E x) (E i)).and (K x∧K i)
 | .lookup t m k c=>(cx (x5 P t) (x5 P (keyOf (x5 P t))) (x5 P (elemOf (x5 P t))) lk c (E k) (E m)).and (K m∧K k)
 | .mapUpdate t m k x| .insert t m k x=>(S0 (x5 P t) (x5 P (keyOf (x5 P t))) (x5 P (elemOf (x5 P t))) lk (E k) (E x) (E m)).and (K m∧K k∧K x)
 | .range t x=>(jC (x5 P t) q (E x)).and (K x)
 | .next x b=>(mH lk b (E x)).and (K x)
 | .extract x i=>(dN i (E x)).and (K x)
 | .call { callee:=.builtin b,args,argTypes }=>match b,args.toList,argTypes.toList with
  | .len,[x],[t]=>(yc (x5 P t) lk (E x)).and (K x)
  | .append,[s,x],[t,u]=>(N6 (x5 P t) (x5 P (elemOf (x5 P t))) (x5 P u).k lk (E s) (E x) q).and (K s∧K x)
  | .max,[x,y],_=>(Bx (E x) (E y)).and (K x∧K y)
  | .min,[x,y],_=>(Bz (E x) (E y)).and (K x∧K y)
  | .cap,[x],[t]=>(Dm (x5 P t) (E x)).and (K x)
  | _,_,_=>.bad
 | _=>.bad
def FR(w:World)(μ:Mu)(st:St)(tmps:Array Value)(fr:Fr):Prop:=∀t,VR w μ st (tmps.getD t undef) (fr.get t)
def Glob(G:Gl)(w:World)(μ:Mu)(st:St):Prop:=
 (∀g cs,G g=some cs→TR w (own μ st) (.pointer (some ⟨g,0,none⟩)) (.lB cs))∧(∀g c,G.whole g=some c→g<w.heap.size∧¬own μ st g∧∃ty fr,w.heap[g]? =some (.cells c ty fr))∧∀g,G.wK g=true→g<w.heap.size∧¬own μ st g∧∃m ty fr,w.heap[g]? =some (.cells #[.int .i64 m] ty fr)
theorem Glob.tab{G:Gl}{w:World}{μ:Mu}{st:St}(h:Glob G w μ st):∀g cs,G g=some cs→TR w (own μ st) (.pointer (some ⟨g,0,none⟩)) (.lB cs):=h.1
theorem Glob.all{G:Gl}{w:World}{μ:Mu}{st:St}(h:Glob G w μ st):∀g c,G.whole g=some c→g<w.heap.size∧¬own μ st g∧∃ty fr,w.heap[g]? =some (.cells c ty fr):=h.2.1
theorem Glob.int{G:Gl}{w:World}{μ:Mu}{st:St}(h:Glob G w μ st):∀g,G.wK g=true→g<w.heap.size∧¬own μ st g∧∃m ty fr,w.heap[g]? =some (.cells #[.int .i64 m] ty fr):=h.2.2
theorem Fr.nW(fr:Fr)(t t':Nat)(d:D):(fr.put t d).get t'=if t'=t then d else fr.get t':=by
 induction fr with
 |nil=>
  simp only[Fr.put,Fr.get]
  by_cases h:t=t'
  ·simp[h]
  ·simp[h,Ne.symm h]
 |cons p fr ih=>
  obtain⟨k,e⟩:=p
  simp only[Fr.put]
  by_cases h:k=t
  ·subst h
   simp only[if_true,Fr.get]
   by_cases h2:k=t'
   ·subst h2;simp
   ·simp[h2,Ne.symm h2]
  ·simp only[if_neg h,Fr.get,ih]
   by_cases h2:k=t'
   ·subst h2;simp[h]
   ·simp[h2]
theorem Fr.BI(keep:List Nat)(fr:Fr)(t:Nat):(Fr.only keep fr).get t=fr.get t∨(Fr.only keep fr).get t= .any:=by
 induction fr with
 |nil=>exact .inl rfl
 |cons p fr ih=>
  obtain⟨k,e⟩:=p
  simp only[Fr.only]
  split
  ·simp only[Fr.get]
   split
   ·exact .inl rfl
   ·exact ih
  ·rename_i hk
   simp only[Fr.get]
   split
   ·rename_i h;subst h
    right
    have:∀fr:Fr,(Fr.only keep fr).get k= .any:=fun fr=>by
     induction fr with
     |nil=>rfl
     |cons p fr ih=>
      obtain⟨k',e'⟩:=p
      simp only[Fr.only]
      split
      ·rename_i hk'
       simp only[Fr.get]
       rw[if_neg (fun h=>hk (by rw[←h];exact hk'))]
       exact ih
      ·exact ih
    exact this fr
   ·exact ih
theorem FR.put{w:World}{μ:Mu}{st:St}{tmps:Array Value}{fr:Fr}{t:Nat}{v:Value}{d:D}(h:FR w μ st tmps fr)(hv:VR w μ st v d)(ht:t<tmps.size):FR w μ st (tmps.setIfInBounds t v) (fr.put t d):=fun t'=>by
 rw[Fr.nW]
 by_cases e:t'=t
 ·subst e
  rw[if_pos rfl,fL (v:=v) (by simp[ht])]
  exact hv
 ·rw[if_neg e]
  have:(tmps.setIfInBounds t v).getD t' undef=tmps.getD t' undef:=by simp[Array.getD_eq_getD_getElem?, Array.getElem?_setIfInBounds_ne (Ne.symm e)]
  rw[this]
  exact h t'
theorem FR.only{w:World}{μ:Mu}{st:St}{tmps:Array Value}{fr:Fr}(keep:List Nat)(h:FR w μ st tmps fr):FR w μ st tmps (Fr.only keep fr):=fun t=>by
 rcases Fr.BI keep fr t with e|e
 ·rw[e];exact h t
 ·rw[e];exact .any _
theorem FR.step{w w':World}{μ μ':Mu}{st st':St}{tmps:Array Value}{fr:Fr}(h:FR w μ st tmps fr)(s:Step w μ st w' μ' st'):FR w' μ' st' tmps fr:=fun t=>(h t).step s
theorem Glob.step{G:Gl}{w w':World}{μ μ':Mu}{st st':St}(h:Glob G w μ st)(s:Step w μ st w' μ' st'):Glob G w' μ' st':=
 ⟨fun g cs e=>(h.tab g cs e).step s,fun g c e=>let ⟨h1,h2,ty,fr,h3⟩:=h.all g c e;⟨Nat.lt_of_lt_of_le h1 s.size,fun ho=>(s.own g ho).elim h2 (fun h=>absurd h (by omega)),ty,fr,(s.imm g h1 h2).trans h3⟩,fun g e=>let ⟨h1,h2,m,ty,fr,h3⟩:=h.int g e;⟨Nat.lt_of_lt_of_le h1 s.size,fun ho=>(s.own g ho).elim h2 (fun h=>absurd h (by omega)),m,ty,fr,(s.imm g h1 h2).trans h3⟩⟩
theorem vo{G:Gl}{w:World}{μ:Mu}{st:St}{a:Act}{fr:Fr}(hf:FR w μ st a.tmps fr)(hg:Glob G w μ st)(x:Operand):VR w μ st (a.eval x) (ev G fr x):=by
 cases x with
 |tmp t=>exact hf t
 |const v=>exact nB _ _ _ _
 |global g=>
  simp only[ev]
  cases h:G g with
  |none=>exact .any _
  |some cs=>exact .tr (hg.tab g cs h)
 |func f=>exact .fn f #[] #[] [] [] rfl rfl (fun j h=>absurd h (Nat.not_lt_zero _)) (fun j h=>absurd h (Nat.not_lt_zero _))
theorem fZ{G:Gl}{w:World}{μ:Mu}{st:St}{a:Act}{fr:Fr}(hf:FR w μ st a.tmps fr)(hg:Glob G w μ st){x:Operand}(hok:eok G true fr x):VR w μ st (a.eval x) (ev1 G fr x):=
 ug (vo hf hg x) hok
theorem mR{G:Gl}{w:World}{μ:Mu}{st:St}{a:Act}{fr:Fr}(hf:FR w μ st a.tmps fr)(hg:Glob G w μ st):∀(ps:List (Nat×Operand)),(∀p∈ps,eok G true fr p.2)→
 nI w μ st (ps.map fun(i,x)=>(i,a.eval x)) (ps.map fun p=>(p.1,ev1 G fr p.2))
 | [],_=>trivial
 |(i,x)::ps,h=>⟨rfl,fZ hf hg (h (i,x) (by simp)),mR hf hg ps (fun p hp=>h p (by simp[hp]))⟩
theorem yD{G:Gl}{w:World}{μ:Mu}{st:St}{a:Act}{fr:Fr}(hf:FR w μ st a.tmps fr)(hg:Glob G w μ st)(x:Option Operand)(h:∀y∈x,eok G true fr y):DY w μ st (x.map a.eval) (x.map (ev1 G fr)):=by
 cases x with
 |none=>trivial
 |some x=>exact fZ hf hg (h x rfl)
theorem aW{r:LR}{q:Nat}{st:St}(h1:r.up=none)(h2:r.new=none):r.app q st=st:=by simp[LR.app,h1,h2]
theorem Dq{r:LR}{q o:Nat}{st:St}{ob:Ob}(h1:r.up=some (o,ob))(h2:r.new=none):r.app q st=st.set o (some ob):=by simp[LR.app,h1,h2]
theorem uh{r:LR}{q:Nat}{st:St}{ob:Ob}(h1:r.up=none)(h2:r.new=some ob):r.app q st=st.set q (some ob):=by simp[LR.app,h1,h2]
def LR.still(r:LR):Prop:=r.up=none∧r.new=none
theorem gM(i:TI)(lk:Look)(a:D):(pe i lk a).still:=by unfold pe;(repeat' split)<;>exact⟨rfl,rfl⟩
theorem dy(i:TI)(f:Nat)(a:D):(Z9 i f a).still:=by unfold Z9;(repeat' split)<;>exact⟨rfl,rfl⟩
theorem iI(i:TI)(f:Nat)(a:D):(kl i f a).still:=by unfold kl;(repeat' split)<;>exact⟨rfl,rfl⟩
theorem aX(i:TI)(e:TI)(lk:Look)(x y:D):(K4 i e lk x y).still:=by unfold K4;(repeat' split)<;>exact⟨rfl,rfl⟩
theorem iJ(i e:TI)(x y:D):(fu i e x y).still:=by unfold fu;(repeat' split)<;>exact⟨rfl,rfl⟩
theorem fA(i:TI)(e:Nat)(lk:Look)(x:D)(lo hi mx:Option D):(hY i e lk x lo hi mx).still:=by unfold hY;(repeat' split)<;>exact⟨rfl,rfl⟩
theorem iK(i e:TI)(ps:List (Nat×D)):(kq i e ps).still:=by unfold kq;(repeat' split)<;>exact⟨rfl,rfl⟩
theorem dO(i k e:TI)(lk:Look)(c:Bool)(x y:D):(cx i k e lk c x y).still:=by unfold cx;(repeat' split)<;>exact⟨rfl,rfl⟩
theorem nX(k:IntKind)(n:Int):(arith k n).still:=⟨rfl,rfl⟩
theorem lH(op:BinOp)(x y:D):(lE op x y).still:=by unfold lE;(repeat' split)<;>first|exact⟨rfl,rfl⟩|exact nX _ _
theorem nY(i:TI)(f:Option (List Nat))(n:Bool)(x y:D):(aEq i f n x y).still:=by unfold aEq;(repeat' split)<;>exact⟨rfl,rfl⟩
theorem nZ(op:UnOp)(x:D):(aUn op x).still:=by unfold aUn;(repeat' split)<;>first|exact⟨rfl,rfl⟩|exact nX _ _
theorem eF(x:D):(aE x).still:=by unfold aE;(repeat' split)<;>exact⟨rfl,rfl⟩
theorem fM(s t e:TI)(x:D):(bP s t e x).still:=by unfold bP;(repeat' split)<;>exact⟨rfl,rfl⟩
theorem fN(i:Nat)(x:D):(dN i x).still:=by unfold dN;(repeat' split)<;>exact⟨rfl,rfl⟩
theorem ga(i:TI)(lk:Look)(x:D):(yc i lk x).still:=by unfold yc;(repeat' split)<;>exact⟨rfl,rfl⟩
theorem gg(i:TI)(x:D):(Dm i x).still:=by unfold Dm;(repeat' split)<;>exact⟨rfl,rfl⟩
theorem ji(x y:D):(Bx x y).still:=by unfold Bx;(repeat' split)<;>exact⟨rfl,rfl⟩
theorem jj(x y:D):(Bz x y).still:=by unfold Bz;(repeat' split)<;>exact⟨rfl,rfl⟩
theorem iL(x y z:D):(kD x y z).still:=by unfold kD;(repeat' split)<;>exact⟨rfl,rfl⟩
section
variable {P:Program} {G:Gl} {o:Oper} {a:Act} {w:World} {μ:Mu} {st:St} {fr:Fr} {q:Nat}
def Does(P:Program)(s:Sem Next)(w:World)(μ:Mu)(st:St)(r:LR)(q:Nat):Prop:=
 ∃nx v w' μ',s.run P w= .ok nx w'∧(nx= .value v∨(nx= .skip∧v=undef))∧Sim w' μ' (r.app q st)∧Step w μ st w' μ' (r.app q st)∧VR w' μ' (r.app q st) v r.d
theorem P2{s:Sem Value}{r:LR}{p:Prop}(hs:Sim w μ st)(hst:r.still)(h:∃v,s.run P w= .ok v w∧VR w μ st v r.d):Does P (do pure (.value (←s))) w μ st (r.and p) q:=by
 obtain⟨v,h1,h2⟩:=h
 refine⟨.value v,v,w,μ,by simp[h1],.inl rfl,?_,?_,?_⟩<;>rw[aW (st:=st) (r:=r.and p) hst.1 hst.2]
 ·exact hs
 ·exact Step.refl _ _ _
 ·exact h2
theorem mS{s:Sem Value}{r:LR}{p:Prop}(hu:r.up=none)(h:∃v w' μ' ob,s.run P w= .ok v w'∧r.new=some ob∧Sim w' μ' (st.set q (some ob))∧Step w μ st w' μ' (st.set q (some ob))∧VR w' μ' (st.set q (some ob)) v r.d):
 Does P (do pure (.value (←s))) w μ st (r.and p) q:=by
 obtain⟨v,w',μ',ob,h1,h2,h3,h4,h5⟩:=h
 have e:=uh (r:=r.and p) (q:=q) (st:=st) (ob:=ob) hu h2
 exact⟨.value v,v,w',μ',by simp[h1],.inl rfl,by rw[e];exact h3,by rw[e];exact h4,by rw[e];exact h5⟩
theorem uj{s:Sem Unit}{r:LR}{p:Prop}(hn:r.new=none)(hd:r.d= .any)(h:∃w' o ob,s.run P w= .ok () w'∧r.up=some (o,ob)∧Sim w' μ (st.set o (some ob))∧Step w μ st w' μ (st.set o (some ob))):
 Does P (do s;pure .skip) w μ st (r.and p) q:=by
 obtain⟨w',o,ob,h1,h2,h3,h4⟩:=h
 have e:=Dq (r:=r.and p) (q:=q) (st:=st) (ob:=ob) h2 hn
 exact⟨.skip,undef,w',μ,by simp[h1],.inr ⟨rfl,rfl⟩,by rw[e];exact h3,by rw[e];exact h4,by rw[e,show(r.and p).d=r.d from rfl,hd];exact .any _⟩
theorem um{i:TI}{e:TI}{lk:Look}{x y:D}(h:(K4 i e lk x y).ok):(∃t,i.k= .slice t)∨∃n t,i.k= .arr n t:=by
 unfold K4 at h
 (repeat' split at h)<;>first|exact h.elim|exact .inl ⟨_,by assumption⟩|exact .inr ⟨_,_,by assumption⟩
theorem Eb{i e:TI}{x y:D}(h:(fu i e x y).ok):i.k= .str∨∃n t,i.k= .arr n t:=by
 unfold fu at h
 (repeat' split at h)<;>first|exact h.elim|exact .inl (by assumption)|exact .inr ⟨_,_,by assumption⟩
theorem BJ{i k e:TI}{lk:Look}{c:Bool}{x y:D}(h:(cx i k e lk c x y).ok):∃a b,i.k= .map a b:=by
 unfold cx at h
 (repeat' split at h)<;>first|exact h.elim|exact h.1
theorem oa{i k e:TI}{lk:Look}{x y z:D}(h:(S0 i k e lk x y z).ok):∃a b,i.k= .map a b:=by
 unfold S0 at h
 (repeat' split at h)<;>first|exact h.elim|exact h.1
theorem uo{i e:TI}{l c:D}{q:Nat}(h:(R9 i e l c q).ok):∃t,i.k= .slice t:=by
 unfold R9 at h
 split at h
 ·exact h.1
 ·exact h.elim
theorem BK{i e:TI}{xk:TK}{lk:Look}{s x:D}{q:Nat}(h:(N6 i e xk lk s x q).ok):∃t,i.k= .slice t:=by
 unfold N6 at h
 (repeat' split at h)<;>first|exact h.elim|exact h.1|exact h.1.1
theorem lI(i:TI)(lk:Look)(x a:D):(jz i lk x a).new=none∧(jz i lk x a).d= .any:=by unfold jz;(repeat' split)<;>exact⟨rfl,rfl⟩
theorem ah(i k e:TI)(lk:Look)(x y z:D):(S0 i k e lk x y z).new=none∧(S0 i k e lk x y z).d= .any:=by unfold S0;(repeat' split)<;>exact⟨rfl,rfl⟩
theorem kE(i e:TI)(l c:D)(q:Nat):(R9 i e l c q).up=none:=by unfold R9;split<;>rfl
theorem oc(i:TI)(q:Nat)(x:D):(jC i q x).up=none:=by unfold jC;split<;>rfl
theorem rZ(lk:Look)(b:Bool)(x:D):(mH lk b x).new=none:=by unfold mH;(repeat' split)<;>rfl
theorem od(i k:TI)(ag:Bool)(q:Nat):(aV i k ag q).up=none:=by unfold aV;split<;>rfl
theorem uq{vc va vb:Value}{c a b:D}(hc:VR w μ st vc c)(ha:nV c=true→VR w μ st va a)(hb:nV c=false→VR w μ st vb b)(hok:(kD c a b).ok):
 ∃v,(do pure (.value (if ←asBool vc then va else vb)):Sem Next).run P w= .ok (.value v) w∧VR w μ st v (kD c a b).d:=by
 unfold kD at hok⊢
 split at hok
 ·rename_i c a b
  have:=eE hc;subst this
  refine⟨.bool (bif c then a else b),?_,O4 _ _ _ _⟩
  cases c
  ·have:=eE (hb rfl);subst this;simp[asBool]
  ·have:=eE (ha rfl);subst this;simp[asBool]
 ·exact hok.elim
theorem U5{i:TI}{t:Nat}(h:i.k= .slice t):elemOf i=t:=by simp[elemOf,h]
theorem pX{i:TI}{n t:Nat}(h:i.k= .arr n t):elemOf i=t:=by simp[elemOf,h]
theorem ey{i:TI}{n t:Nat}(h:i.k= .map n t):elemOf i=t∧keyOf i=n:=by simp[elemOf,keyOf,h]
theorem Ec{op:BinOp}{t:TypeId}{x y:Operand}{vx vy:Value}{v:Value}(h1:(binOp op t vx vy).run P w= .ok v w)(h2:(∃k a k' b,vx= .int k a∧vy= .int k' b)∨∃a b,vx= .string a∧vy= .string b):
 (do eqGuard op t x y vx vy;binOp op t vx vy:Sem Value).run P w= .ok v w:=by
 rcases h2 with⟨k,a,k',b,rfl,rfl⟩|⟨a,b,rfl,rfl⟩
 ·simp only[Sem.run_bind,tY,Result.andThen_ok];exact h1
 ·simp only[Sem.run_bind,tZ,Result.andThen_ok];exact h1
def needs:Op→Bool
 | .alloc _| .box _ _| .buildSlice _ _ _| .makeMap _ _| .makeSlice _ _ _| .range _ _| .call { callee:=.builtin .append,.. }=>true
 | _=>false
set_option maxHeartbeats 1000000 in
theorem og(hs:Sim w μ st)(hf:FR w μ st a.tmps fr)(hg:Glob G w μ st)(hq0:needs o.op=true→st[q]? =some (some .resv))
 (hok:(aop P G true o.op fr (look st) q).ok):Does P (execOp a.eval o) w μ st (aop P G true o.op fr (look st) q) q:=by
 have E:∀x,eok G true fr x→VR w μ st (a.eval x) (ev1 G fr x):=fun x h=>fZ hf hg h
 obtain⟨dst,op,type,pos,after,guard⟩:=o
 cases op with
 |move x=>exact⟨.value (a.eval x),_,w,μ,rfl,.inl rfl,by rw[aW rfl rfl];exact hs,by rw[aW rfl rfl];exact Step.refl _ _ _,by rw[aW rfl rfl];exact E x hok⟩
 |assign x=>exact⟨.value (a.eval x),_,w,μ,rfl,.inl rfl,by rw[aW rfl rfl];exact hs,by rw[aW rfl rfl];exact Step.refl _ _ _,by rw[aW rfl rfl];exact E x hok⟩
 |pick c x y=>
  obtain⟨⟨k1,k2,k3⟩,hok⟩:=hok
  have hx:nV (ev1 G fr c)=true→VR w μ st (a.eval x) (ev1 G fr x):=fun h=>E x (by simpa[h]using k2)
  have hy:nV (ev1 G fr c)=false→VR w μ st (a.eval y) (ev1 G fr y):=fun h=>E y (by simpa[h]using k3)
  obtain⟨v,h1,h2⟩:=uq (P:=P) (E c k1) hx hy hok
  have hst:=iL (ev1 G fr c) (ev1 G fr x) (ev1 G fr y)
  refine⟨.value v,v,w,μ,h1,.inl rfl,?_,?_,?_⟩<;>simp only[aop]<;>rw[aW (r:=LR.and _ _) hst.1 hst.2]
  ·exact hs
  ·exact Step.refl _ _ _
  ·exact h2
 |alloc t=>
  have hq:=hq0 rfl
  obtain⟨v,w',μ',ob,h1,h2,h3,h4,h5⟩:=tP (P:=P) hs hok hq
  have e:=uh (r:=pL (x5 P t) q) (q:=q) (st:=st) (ob:=ob) rfl h2
  simp only[aop]
  exact⟨.value v,v,w',μ',by simp[execOp,h1],.inl rfl,by rw[e];exact h3,by rw[e];exact h4,by rw[e];exact h5⟩
 |box t x=>
  have hq:=hq0 rfl
  obtain⟨⟨k1,_⟩,hok⟩:=hok
  exact mS rfl (xZ (P:=P) hs (E x k1) hok hq)
 |build t ps=>
  obtain⟨⟨k1,k2,k3⟩,hok⟩:=hok
  have hk:∃fs,(x5 P t).k= .struct fs:=by
   cases hkk:(x5 P t).k<;>rw[hkk]at k2<;>simp[TK.agg]at k2
   ·exact⟨_,rfl⟩
   ·exact absurd hkk (k3 _ _)
  exact P2 hs (iK _ _ _) (tV (ps:=ps.map fun(i,x)=>(i,a.eval x)) (by simpa using mR hf hg ps.toList k1) (.inl hk) hok)
 |buildSlice t len ps=>
  have hq:=hq0 rfl
  obtain⟨k1,hok⟩:=hok
  cases hi:G.imm t with
  |true=>
  rw[hi]at hok
  obtain⟨el,hel⟩:=hok.1
  simp only[cond_true]at hok
  rw[U5 hel]at hok
  obtain⟨v,w',h1,h2,h3,h4⟩:=pC (P:=P) (t:=t) (el:=el) (len:=len) (q:=q) (ps:=ps.map fun(i,x)=>(i,a.eval x)) hs (by simpa using mR hf hg ps.toList k1) hel hok hq
  simp only[aop,hi,cond_true]
  rw[U5 hel]
  refine⟨.value v,v,w',μ,by simp[execOp,h1],.inl rfl,?_,?_,?_⟩<;>rw[aW rfl rfl]
  ·exact h2
  ·exact h3
  ·exact h4
  |false=>
  rw[hi]at hok
  simp only[cond_false]at hok
  obtain⟨el,hel⟩:=hok.1
  rw[U5 hel]at hok
  have:=mF (P:=P) (t:=t) (el:=el) (len:=len) (q:=q) (ps:=ps.map fun(i,x)=>(i,a.eval x)) hs (by simpa using mR hf hg ps.toList k1) hel hok hq
  simp only[aop,hi,cond_false]
  rw[U5 hel]
  exact mS rfl this
 |load t x=>
  obtain⟨⟨k1,k2⟩,hok⟩:=hok
  exact P2 hs (gM _ _ _) (pP (P:=P) hs (E x k1) hok k2)
 |store t x y=>
  obtain⟨⟨k1,k2,k3⟩,hok⟩:=hok
  exact uj (lI _ _ _ _).1 (lI _ _ _ _).2 (tO (P:=P) hs (E x k1) (E y k2) rfl hok k3)
 |ready=>exact hok.elim
 |waits=>exact hok.elim
 |nilCheck x=>
  obtain⟨k1,hok⟩:=hok
  have hx:=E x k1
  have hst:=eF (ev1 G fr x)
  obtain⟨⟨ad,h1⟩,h2⟩:=pA hx hok
  show Does P _ w μ st ((aE (ev1 G fr x)).and (eok G true fr x)) q
  refine⟨.value (a.eval x),a.eval x,w,μ,by simp only[execOp];rw[h1];rfl,.inl rfl,?_,?_,?_⟩<;>rw[aW (r:=(aE (ev1 G fr x)).and (eok G true fr x)) hst.1 hst.2]
  ·exact hs
  ·exact Step.refl _ _ _
  ·exact h2
 |binOp op t x y ty=>
  have plain:∀(_:eok G true fr x∧eok G true fr y) (_:(lE op (ev1 G fr x) (ev1 G fr y)).ok),Does P (execOp a.eval ⟨dst,.binOp op t x y ty,type,pos,after,guard⟩) w μ st ((lE op (ev1 G fr x) (ev1 G fr y)).and (eok G true fr x∧eok G true fr y)) q:=by
   intro⟨k1,k2⟩ hok
   obtain⟨v,h1,h2,h3⟩:=yh (P:=P) (t:=t) (E x k1) (E y k2) hok
   exact P2 hs (lH _ _ _) ⟨v,Ec h1 h3,h2⟩
  have eqs:∀neg,(op=if neg then .neq else .eql)→∀(_:eok G true fr x∧eok G true fr y) (_:(aEq (x5 P t) (C0 P t) neg (ev1 G fr x) (ev1 G fr y)).ok),
   Does P (execOp a.eval ⟨dst,.binOp op t x y ty,type,pos,after,guard⟩) w μ st ((aEq (x5 P t) (C0 P t) neg (ev1 G fr x) (ev1 G fr y)).and (eok G true fr x∧eok G true fr y)) q:=by
   intro neg hop ⟨k1,k2⟩ hok
   obtain⟨v,h1,h2⟩:=BD (P:=P) (t:=t) (ox:=x) (oy:=y) (E x k1) (E y k2) hok
   rw[←hop]at h1
   exact P2 hs (nY _ _ _ _ _) ⟨v,h1,h2⟩
  have key:(aop P G true (.binOp op t x y ty) fr (look st) q=(lE op (ev1 G fr x) (ev1 G fr y)).and (eok G true fr x∧eok G true fr y))∨∃neg,(op=if neg then .neq else .eql)∧
   aop P G true (.binOp op t x y ty) fr (look st) q=(aEq (x5 P t) (C0 P t) neg (ev1 G fr x) (ev1 G fr y)).and (eok G true fr x∧eok G true fr y):=by
   simp only[aop]
   split<;>first|exact .inl rfl|exact .inr ⟨false,rfl,rfl⟩|exact .inr ⟨true,rfl,rfl⟩
  rcases key with key|⟨neg,hop,key⟩
  ·rw[key]at hok ⊢; exact plain hok.1 hok.2
  ·rw[key]at hok ⊢; exact eqs neg hop hok.1 hok.2
 |unOp op t x=>
  obtain⟨k1,hok⟩:=hok
  exact P2 hs (nZ _ _) (BF (P:=P) (E x k1) hok)
 |convert s t x=>
  obtain⟨k1,hok⟩:=hok
  have hst:=fM (x5 P s) (x5 P t) (x5 P (nU (x5 P s) (x5 P t))) (ev1 G fr x)
  obtain⟨v,w',h1,h2,h3,h4⟩:=qF (P:=P) hs (E x k1) (fun e he=>by simp[nU,elemOf,he]) (fun h e he=>by simp[nU,elemOf,h,he]) hok
  show Does P _ w μ st ((bP (x5 P s) (x5 P t) (x5 P (nU (x5 P s) (x5 P t))) (ev1 G fr x)).and (eok G true fr x)) q
  refine⟨.value v,v,w',μ,by simp[execOp,h1],.inl rfl,?_,?_,?_⟩<;>rw[aW (r:=(bP (x5 P s) (x5 P t) (x5 P (nU (x5 P s) (x5 P t))) (ev1 G fr x)).and (eok G true fr x)) hst.1 hst.2]
  ·exact h2
  ·exact h3
  ·exact h4
 |sliceToArrayPointer=>exact hok.elim
 |makeInterface=>exact hok.elim
 |makeFunc fn first cap=>
  cases fn with
  |func f=>
   obtain⟨k1,k2⟩:=hok
   refine⟨.value (.func (.func f) (first.map a.eval) (cap.map a.eval)),_,w,μ,rfl,.inl rfl,?_,?_,?_⟩<;>rw[aW rfl rfl]
   ·exact hs
   ·exact Step.refl _ _ _
   ·refine .fn f _ _ _ _ (by simp) (by simp) (fun j hj=>?_) (fun j hj=>?_)
    ·simp at hj
     rw[fL (v:=a.eval first[j]) (by simp[hj])]
     simpa using E first[j] (k1 _ (by simp))
    ·simp at hj
     rw[fL (v:=a.eval cap[j]) (by simp[hj])]
     simpa using E cap[j] (k2 _ (by simp))
  | _=>exact hok.elim
 |makeMap t r=>
  have hq:=hq0 rfl
  cases r with
  |none=>
   obtain⟨v,w',μ',ob,h1,h2,h3,h4,h5⟩:=qE (P:=P) hs hok hq
   have e:=uh (r:=aV (x5 P t) (x5 P (keyOf (x5 P t))) (x5 P (elemOf (x5 P t))).k.agg q) (q:=q) (st:=st) (ob:=ob) (od _ _ _ _) h2
   simp only[aop]
   exact⟨.value v,v,w',μ',by simp[execOp,h1],.inl rfl,by rw[e];exact h3,by rw[e];exact h4,by rw[e];exact h5⟩
  |some _=>exact hok.elim
 |makeChan=>exact hok.elim
 |makeSlice t l c=>
  have hq:=hq0 rfl
  obtain⟨⟨k1,k2⟩,hok⟩:=hok
  obtain⟨el,hel⟩:=uo hok
  rw[U5 hel]at hok
  simp only[aop]
  rw[U5 hel]
  exact mS (kE _ _ _ _ _) (nN (P:=P) hs (E l k1) (E c k2) hel hok hq)
 |slice t x lo hi mx=>
  obtain⟨⟨k1,k2,k3,k4⟩,hok⟩:=hok
  exact P2 hs (fA _ _ _ _ _ _ _) (tU (P:=P) hs (E x k1) (yD hf hg lo k2) (yD hf hg hi k3) (yD hf hg mx k4) (fun el h=>by rw[U5 h]) hok)
 |fieldAddr t x f=>
  obtain⟨k1,hok⟩:=hok
  exact P2 hs (dy _ _ _) (nE (P:=P) (E x k1) hok)
 |field t x f=>
  obtain⟨k1,hok⟩:=hok
  exact P2 hs (iI _ _ _) (tS (P:=P) (E x k1) hok)
 |indexAddr t x i=>
  obtain⟨⟨k1,k2⟩,hok⟩:=hok
  have hel:(x5 P t).k= .slice (elemOf (x5 P t))∨∃n,(x5 P t).k= .arr n (elemOf (x5 P t)):=by
   rcases um hok with⟨e,h⟩|⟨n,e,h⟩
   ·rw[U5 h];exact .inl h
   ·rw[pX h];exact .inr ⟨n,h⟩
  exact P2 hs (aX _ _ _ _ _) (nF (P:=P) hs (E x k1) (E i k2) hel hok)
 |index t x i=>
  obtain⟨⟨k1,k2⟩,hok⟩:=hok
  have hel:(x5 P t).k= .str∨∃n,(x5 P t).k= .arr n (elemOf (x5 P t)):=by
   rcases Eb hok with h|⟨n,e,h⟩
   ·exact .inl h
   ·rw[pX h];exact .inr ⟨n,h⟩
  exact P2 hs (iJ _ _ _ _) (tT (P:=P) (E x k1) (E i k2) hel hok)
 |lookup t m k c=>
  obtain⟨⟨k1,k2⟩,hok⟩:=hok
  obtain⟨kt,et,h⟩:=BJ hok
  have e1:=(ey h).1
  have e2:=(ey h).2
  simp only[aop]
  rw[e1,e2]at hok⊢
  exact P2 hs (dO _ _ _ _ _ _ _) (rU (P:=P) hs (E m k1) (E k k2) h hok)
 |mapUpdate t m k x=>
  obtain⟨⟨k1,k2,k3⟩,hok⟩:=hok
  obtain⟨kt,et,h⟩:=oa hok
  have e1:=(ey h).1
  have e2:=(ey h).2
  simp only[aop]
  rw[e1,e2]at hok⊢
  exact uj (ah _ _ _ _ _ _ _).1 (ah _ _ _ _ _ _ _).2 (iH (P:=P) hs (E m k1) (E k k2) (E x k3) h rfl hok)
 |insert t m k x=>
  obtain⟨⟨k1,k2,k3⟩,hok⟩:=hok
  obtain⟨kt,et,h⟩:=oa hok
  have e1:=(ey h).1
  have e2:=(ey h).2
  simp only[aop]
  rw[e1,e2]at hok⊢
  exact uj (ah _ _ _ _ _ _ _).1 (ah _ _ _ _ _ _ _).2 (iH (P:=P) hs (E m k1) (E k k2) (E x k3) h rfl hok)
 |mapEntry=>exact hok.elim
 |entryStore=>exact hok.elim
 |range t x=>
  have hq:=hq0 rfl
  obtain⟨k1,hok⟩:=hok
  exact mS (oc _ _ _) (uf (P:=P) hs (E x k1) hok hq)
 |next x b=>
  obtain⟨k1,hok⟩:=hok
  obtain⟨v,w',o,ob,h1,h2,h3,h4,h5⟩:=wR (P:=P) (t:=type) hs (E x k1) hok
  have e:=Dq (r:=(mH (look st) b (ev1 G fr x)).and (eok G true fr x)) (q:=q) (st:=st) (ob:=ob) h2 (rZ _ _ _)
  exact⟨.value v,v,w',μ,by simp[execOp,h1],.inl rfl,by simp only[aop];rw[e];exact h3,by simp only[aop];rw[e];exact h4,by simp only[aop];rw[e];exact h5⟩
 |entry=>exact hok.elim
 |typeAssert=>exact hok.elim
 |extract x i=>
  obtain⟨k1,hok⟩:=hok
  exact P2 hs (fN _ _) (qG (P:=P) (E x k1) hok)
 |call c=>
  obtain⟨callee,args,argTypes⟩:=c
  cases callee with
  |builtin b=>
   simp only[aop]at hok⊢
   split at hok
   ·rename_i x t ha ht
    obtain⟨k1,hok⟩:=hok
    obtain⟨v,h1,h2⟩:=yt (P:=P) (ty:=type) hs (E x k1) hok
    have e1:args= #[x]:=by rw[←Array.toArray_toList (xs:=args),ha]
    have e2:argTypes= #[t]:=by rw[←Array.toArray_toList (xs:=argTypes),ht]
    subst e1;subst e2
    have:=P2 (q:=q) (p:=eok G true fr x) hs (ga (x5 P t) (look st) (ev1 G fr x)) ⟨v,h1,h2⟩
    simpa[execOp,resolve,invoke,builtin]using this
   ·rename_i s x t u ha ht
    have hq:=hq0 rfl
    obtain⟨⟨k1,k2⟩,hok⟩:=hok
    obtain⟨el,hel⟩:=BK hok
    rw[U5 hel]at hok⊢
    obtain⟨v,w',μ',h1,h2,h3,h4⟩:=rY (P:=P) (ty:=type) hs (E s k1) (E x k2) hel rfl hok hq
    have e1:args= #[s,x]:=by rw[←Array.toArray_toList (xs:=args),ha]
    have e2:argTypes= #[t,u]:=by rw[←Array.toArray_toList (xs:=argTypes),ht]
    subst e1;subst e2
    exact⟨.value v,v,w',μ',by simp[execOp,resolve,invoke,builtin,h1],.inl rfl,h2,h3,h4⟩
   ·rename_i x y ha
    obtain⟨⟨k1,k2⟩,hok⟩:=hok
    obtain⟨v,h1,h2⟩:=yw (P:=P) (ts:=argTypes) (ty:=type) (E x k1) (E y k2) hok
    have e1:args= #[x,y]:=by rw[←Array.toArray_toList (xs:=args),ha]
    subst e1
    have:=P2 (q:=q) (p:=eok G true fr x∧eok G true fr y) hs (ji (ev1 G fr x) (ev1 G fr y)) ⟨v,h1,h2⟩
    simpa[execOp,resolve,invoke,builtin]using this
   ·rename_i x y ha
    obtain⟨⟨k1,k2⟩,hok⟩:=hok
    obtain⟨v,h1,h2⟩:=yx (P:=P) (ts:=argTypes) (ty:=type) (E x k1) (E y k2) hok
    have e1:args= #[x,y]:=by rw[←Array.toArray_toList (xs:=args),ha]
    subst e1
    have:=P2 (q:=q) (p:=eok G true fr x∧eok G true fr y) hs (jj (ev1 G fr x) (ev1 G fr y)) ⟨v,h1,h2⟩
    simpa[execOp,resolve,invoke,builtin]using this
   ·rename_i x t ha ht
    obtain⟨k1,hok⟩:=hok
    obtain⟨v,h1,h2⟩:=yu (P:=P) (ty:=type) (E x k1) hok
    have e1:args= #[x]:=by rw[←Array.toArray_toList (xs:=args),ha]
    have e2:argTypes= #[t]:=by rw[←Array.toArray_toList (xs:=argTypes),ht]
    subst e1;subst e2
    have:=P2 (q:=q) (p:=eok G true fr x) hs (gg (x5 P t) (ev1 G fr x)) ⟨v,h1,h2⟩
    simpa[execOp,resolve,invoke,builtin]using this
   ·exact hok.elim
  |value f=>exact hok.elim
  |invoke r m=>exact hok.elim
 |go=>exact hok.elim
 |defer=>exact hok.elim
 |panic=>exact hok.elim
 |send=>exact hok.elim
 |recv=>exact hok.elim
 |select=>exact hok.elim
end
mutual
def D.sc(n:Nat):D→Prop
 | .agg cs=>D.scs n cs
 | .tup cs=>D.scs n cs
 | .fn _ a b=>D.scs n a∧D.scs n b
 | .ref _ o _ _ _=>o<n
 | .ptr o _ _ _=>o<n
 | .mp o=>o<n
 | .it o=>o<n
 | .cond g d=>g=true→D.sc n d
 | _=>True
def D.scs(n:Nat):List D→Prop
 | []=>True
 |d::r=>D.sc n d∧D.scs n r
end
theorem aP{n:Nat}:∀ {cs:List D},D.scs n cs→∀j (h:j<cs.length),D.sc n (cs[j])
 |d::r,h,0,_=>h.1
 |d::r,h,j+1,hj=>aP (cs:=r) h.2 j (by simpa using hj)
theorem kF{n:Nat}:∀ {cs:List D},(∀j (h:j<cs.length),D.sc n (cs[j]))→D.scs n cs
 | [],_=>trivial
 |d::r,h=>⟨h 0 (by simp),kF fun j hj=>h (j+1) (by simpa using hj)⟩
def Ob.sc(n:Nat):Ob→Prop
 | .arr _ _ _ es=>∀e∈es,D.scs n e
 | .mps _ es=>∀e∈es,D.scs n e.2
 | .mpi _ _ es=>∀e∈es,D.scs n e.2
 | _=>True
def iw(n:Nat)(st:St):Prop:=∀(o:Nat) (ob:Ob),st[o]? =some (some ob)→ob.sc n
theorem TR.sc{w:World}{own:Nat→Prop}{v:Value}{d:D}(h:TR w own v d)(n:Nat):D.sc n d:=by cases h<;>trivial
abbrev fB(P:Program)(f:FuncId):Bool:=match P.funcs[f]? with|some fn=>fn.body.isSome&&fn.name != "runtime.NumGoroutine" |none=>false
def sj(P:Program)(f:FuncId)(vs:Array Value)(w:World)(Q:Ending→World→Prop):Prop:=
 (fB P f=true∧Calls P f vs w Q)∨∃v,(callFunc f vs).run P w= .ok (.value v) w∧Q (Ending.returned v) w
theorem sj.mono{P:Program}{f:FuncId}{vs:Array Value}{w:World}{Q Q':Ending→World→Prop}(h:sj P f vs w Q)(hq:∀e w',Q e w'→Q' e w'):sj P f vs w Q':=by
 rcases h with⟨a,b⟩|⟨v,a,b⟩
 ·exact .inl ⟨a,b.mono hq⟩
 ·exact .inr ⟨v,a,hq _ _ b⟩
theorem sk{P:Program}{f:FuncId}(hb:fB P f=true)(vs:Array Value)(w:World):(callFunc f vs).run P w= .ok (.enter f vs) w:=by
 unfold fB at hb
 cases hfn:P.funcs[f]? with
 |none=>rw[hfn]at hb;cases hb
 |some fn=>
  rw[hfn]at hb
  simp only[Bool.and_eq_true,bne_iff_ne]at hb
  obtain⟨hb1,hb2⟩:=hb
  obtain⟨code,hb3⟩:∃c,fn.body=some c:=by
   cases hbb:fn.body with
   |none=>rw[hbb]at hb1;cases hb1
   |some c=>exact⟨c,rfl⟩
  simp[callFunc,hfn,hb2,hb3]
theorem sj.calls{P:Program}{f:FuncId}{vs:Array Value}{w:World}{Q:Ending→World→Prop}(h:sj P f vs w Q)(hb:fB P f=true):Calls P f vs w Q:=by
 rcases h with⟨_,h⟩|⟨v,h,_⟩
 ·exact h
 ·rw[sk hb]at h;cases h
theorem sj.upon{P:Program}{f:FuncId}{vs:Array Value}{w:World}{R:Ending→World→Prop}{o:Oper}{a:Act}{next:Act→World→Prop}{Q:Exit→Act→World→Prop}(h:sj P f vs w R)
 (hm:∀e w',R e w'→match (motive:=Ending→World→Prop) e,w' with|Ending.returned v,w''=>next (a.put o.dst v) w''| .panicked chain,w''=>Q (.panic chain) a w''| .outgrown,_=>LetsOut Q):o.upon P a next Q ((callFunc f vs).run P w):=by
 rcases h with⟨hb,h⟩|⟨v,h,hq⟩
 ·rw[sk hb,Oper.upon_enter]
  exact h.mono hm
 ·rw[h,Oper.upon_value]
  exact hm _ _ hq
def Spec(P:Program)(G:Gl)(f:FuncId)(args:List D)(st:St)(R:D→St→Prop):Prop:=
 True∧
 ∀(w:World) (μ:Mu) (vs:Array Value),Sim w μ st→Glob G w μ st→vs.size=args.length→(∀j (h:j<args.length),VR w μ st (vs.getD j undef) (args[j]))→
  sj P f vs w fun e w'=>∃v d st' μ',e= .returned v∧R d st'∧Sim w' μ' st'∧Step w μ st w' μ' st'∧VR w' μ' st' v d
def Pure(P:Program)(G:Gl)(f:FuncId)(args:List D)(r:D):Prop:=∀st,Spec P G f args st fun d st'=>d=r∧st'=st
theorem Spec.mono{P:Program}{G:Gl}{f:FuncId}{args:List D}{st:St}{R R':D→St→Prop}(h:Spec P G f args st R)(hr:∀d st',R d st'→R' d st'):Spec P G f args st R':=
 ⟨h.1,fun w μ vs h1 h2 h3 h4=>(h.2 w μ vs h1 h2 h3 h4).mono fun _ _ ⟨v,d,st',μ',a,b,c⟩=>⟨v,d,st',μ',a,hr _ _ b,c⟩⟩
theorem Pure.to{P:Program}{G:Gl}{f:FuncId}{args:List D}{r:D}(h:Pure P G f args r){st:St}{R:D→St→Prop}(hr:R r st):Spec P G f args st R:=
 (h st).mono fun _ _ ⟨a,b⟩=>by subst a;subst b;exact hr
structure S where
 fr:Fr
 st:St
 ok:Prop
def guardOf(ops:Array Oper)(fr:Fr)(o:Oper):Bool:=
 match o.guard with
 |none=>true
 |some (j,want)=>match (ops[j]?).bind (·.dst)with
  |some t=>match fr.get t with
   | .bool b=>b==want
   | .cond c (.bool b)=>c&&(b==want)
   | _=>false
  |none=>false
def cA(ops:Array Oper)(fr:Fr)(o:Oper):Prop:=
 match o.guard with
 |none=>True
 |some (j,_)=>match (ops[j]?).bind (·.dst)with
  |some t=>match fr.get t with
   | .bool _=>True
   | .cond _ (.bool _)=>True
   | _=>False
  |none=>False
def xS(o:Oper)(G:Bool)(fr:Fr)(d:D):Fr:=
 match o.guard with
 |none=>fr.fU o.dst d
 |some _=>fr.fU o.dst (.cond G d)
def LR.ur(r:LR)(st:St):St:=
 let s1:=match r.up with|some (o,ob)=>st.set o (some ob)|none=>st
 match r.new with|some ob=>s1++[some ob]|none=>s1
def jL(N:Nat)(o:Oper):Prop:=match o.dst with|some t=>t<N|none=>True
def O5(P:Program)(Gl:Gl)(N:Nat)(ops:Array Oper)(s:S)(o:Oper):S:=
 let G:=guardOf ops s.fr o
 let r:=if needs o.op then aop P Gl G o.op s.fr (look (s.st++[some .resv])) s.st.length else aop P Gl G o.op s.fr (look s.st) 0
 { fr:=xS o G s.fr r.d,st:=bif G then r.ur s.st else s.st,ok:=s.ok∧jL N o∧cA ops s.fr o∧(G=true→r.ok) }
def bH:Op→Option (Operand×List Operand)
 | .call { callee:=.value f,args,.. }=>some (f,args.toList)
 | _=>none
def Run(P:Program)(Gl:Gl)(N:Nat)(ops:Array Oper):List Oper→S→(Fr→St→Prop)→Prop
 | [],s,K=>s.ok∧K s.fr s.st
 |o::l,s,K=>
  match bH o.op with
  |none=>Run P Gl N ops l (O5 P Gl N ops s o) K
  |some (f,xs)=>
   s.ok∧jL N o∧cA ops s.fr o∧eok Gl (guardOf ops s.fr o) s.fr f∧(∀x∈xs,eok Gl (guardOf ops s.fr o) s.fr x)∧
   match o.guard with
   |none=>(match ev1 Gl s.fr f with
    | .fn g first cap=>Spec P Gl g (first++xs.map (ev1 Gl s.fr)++cap) s.st fun d st'=>Run P Gl N ops l ⟨s.fr.fU o.dst d,st',True⟩ K
    | _=>False)
   |some _=>(match ev1 Gl s.fr f with
    | .fn g first cap=>∃r ups,(guardOf ops s.fr o=true→Spec P Gl g (first++xs.map (ev1 Gl s.fr)++cap) s.st fun d st'=>d=r∧st'=puts s.st ups)∧(guardOf ops s.fr o=false→puts s.st ups=s.st)∧Run P Gl N ops l ⟨xS o (guardOf ops s.fr o) s.fr r,puts s.st ups,True⟩ K
    | _=>False)
structure ke(Gl:Gl)(N:Nat)(w0:World)(μ0:Mu)(st0:St)(fr:Fr)(st:St)(a:Act)(w:World)(μ:Mu):Prop where
 sim:Sim w μ st
 glob:Glob Gl w μ st
 fr:FR w μ st a.tmps fr
 size:a.tmps.size=N
 defers:a.defers=[]
 step:Step w0 μ0 st0 w μ st
def sq(Gl:Gl)(N:Nat)(w0:World)(μ0:Mu)(st0:St)(fr:Fr)(st:St)(a:Act)(w:World):Prop:=∃μ,ke Gl N w0 μ0 st0 fr st a w μ
section
variable {P:Program} {gl:Gl} {N:Nat} {ops:Array Oper} {w0:World} {μ0:Mu} {st0:St}
theorem VR.resv{w:World}{μ:Mu}{st:St}{v:Value}{d:D}(hm:μ st.length=none)(h:VR w μ (st++[some .resv]) v d):VR w μ st v d:=by
 have hl:∀o,o<(st++[some Ob.resv]).length→(st++[some Ob.resv])[o]? ≠some (some .resv)→o<st.length:=by
  intro o h1 h2
  simp at h1
  rcases Nat.lt_or_ge o st.length with h|h
  ·exact h
  ·exfalso;apply h2
   have:o=st.length:=by omega
   subst this;simp
 have lk:∀o,o<st.length→(st++[some Ob.resv])[o]? =st[o]? :=fun o h=>List.getElem?_append_left h
 have ow:∀blk,own μ (st++[some .resv]) blk↔own μ st blk:=by
  intro blk
  constructor
  ·rintro⟨o,ob,base,h1,h2⟩
   rcases Nat.lt_or_ge o st.length with h|h
   ·rw[lk o h]at h1;exact⟨o,ob,base,h1,h2⟩
   ·have:o=st.length∨st.length<o:=by omega
    rcases this with e|e
    ·subst e;rw[hm]at h2;cases h2
    ·rw[List.getElem?_eq_none (by simp;omega)]at h1;cases h1
  ·rintro⟨o,ob,base,h1,h2⟩
   have h:o<st.length:=(List.getElem?_eq_some_iff.1 h1).1
   exact⟨o,ob,base,by rw[lk o h];exact h1,h2⟩
 induction h with
 |any v=>exact .any v
 |tr h=>exact .tr (h.mono (fun blk _ hn=>⟨rfl,fun h=>hn ((ow blk).2 h)⟩) (Nat.le_refl _))
 |agg vs cs hs hc ih=>exact .agg vs cs hs ih
 |tup vs cs hs hc ih=>exact .tup vs cs hs ih
 |fn f vf vc first cap hf hc hfc hcc ih1 ih2=>exact .fn f vf vc first cap hf hc ih1 ih2
 |ref v full o g off len hv ho hr hg h=>
  have hol:=hl o ho hr
  rw[lk o hol]at hr
  exact .ref v full o g off len hv hol hr (fun g' n b es e=>hg g' n b es (by rw[lk o hol];exact e)) (fun n b es e=>h n b es (by rw[lk o hol];exact e))
 |ptr v o g i c hv ho hr hg h=>
  have hol:=hl o ho hr
  rw[lk o hol]at hr
  exact .ptr v o g i c hv hol hr (fun g' n b es e=>hg g' n b es (by rw[lk o hol];exact e)) (fun n b es e=>h n b es (by rw[lk o hol];exact e))
 |mp v o hv ho hr h1 h2=>
  have hol:=hl o ho hr
  rw[lk o hol]at hr
  exact .mp v o hv hol hr (fun ag es e=>h1 ag es (by rw[lk o hol];exact e)) (fun ag k es e=>h2 ag k es (by rw[lk o hol];exact e))
 |it v o hv ho hr h=>
  have hol:=hl o ho hr
  rw[lk o hol]at hr
  exact .it v o hv hol hr (fun s p e=>h s p (by rw[lk o hol];exact e))
 |cond v g d h h0 ih=>exact .cond v g d ih h0
theorem wS{w:World}{μ:Mu}{st:St}(hs:Sim w μ (st++[some .resv])):Sim w μ st∧μ st.length=none:=by
 have hm:μ st.length=none:=hs.obj st.length .resv (by simp)
 have lk:∀o ob,st[o]? =some (some ob)→(st++[some Ob.resv])[o]? =some (some ob):=fun o ob h=>by
  rw[List.getElem?_append_left (List.getElem?_eq_some_iff.1 h).1];exact h
 refine⟨⟨fun o ob h=>?_,fun o1 o2 ob1 ob2 blk b1 b2 h1 h2 m1 m2=>hs.inj o1 o2 ob1 ob2 blk b1 b2 (lk _ _ h1) (lk _ _ h2) m1 m2⟩,hm⟩
 have:=hs.obj o ob (lk o ob h)
 cases ob with
 |arr g n b es=>
  obtain⟨h1,h2,h3⟩:=(this:kj w μ (st++[some .resv]) (μ o) n b es)
  refine(⟨h1,h2,?_⟩:kj w μ st (μ o) n b es)
  rcases h3 with h3|⟨blk,base,c,ty,em,hh,hsz,hc⟩
  ·exact .inl h3
  ·exact .inr ⟨blk,base,c,ty,em,hh,hsz,fun i j hi hj=>let ⟨v,e,hv,h1⟩:=hc i j hi hj;⟨v,e,hv.resv hm,h1⟩⟩
 |mps ag es=>
  obtain⟨blk,ents,clock,ez,em,hh,hsz,hc,hx⟩:=(this:kd _ ag w μ _ (μ o) es).loc
  refine(⟨⟨blk,ents,clock,ez,em,hh,hsz,fun i hi=>?_,hx⟩⟩:kd _ ag w μ st (μ o) es)
  obtain⟨e,e1,e2,e3⟩:=hc i hi
  refine⟨e,e1,e2,?_⟩
  cases ag with
  |true=>exact VR.resv hm e3
  |false=>obtain⟨d,a,b⟩:=e3;exact⟨d,a,b.resv hm⟩
 |mpi ag k es=>
  obtain⟨blk,ents,clock,ez,em,hh,hsz,hc,hx⟩:=(this:kd _ ag w μ _ (μ o) es).loc
  refine(⟨⟨blk,ents,clock,ez,em,hh,hsz,fun i hi=>?_,hx⟩⟩:kd _ ag w μ st (μ o) es)
  obtain⟨e,e1,e2,e3⟩:=hc i hi
  refine⟨e,e1,e2,?_⟩
  cases ag with
  |true=>exact VR.resv hm e3
  |false=>obtain⟨d,a,b⟩:=e3;exact⟨d,a,b.resv hm⟩
 |sit=>exact this
 |resv=>exact this
theorem uw{w w':World}{μ μ':Mu}{st st':St}(hm:μ' st'.length=none)(hl:st.length≤st'.length)(h:Step w μ st w' μ' (st'++[some .resv])):Step w μ st w' μ' st' where
 size:=h.size
 os:=h.os
 output:=h.output
 tape:=h.tape
 imm:=h.imm
 own:=fun blk ⟨o,ob,base,h1,h2⟩=>h.own blk ⟨o,ob,base,by rw[List.getElem?_append_left (List.getElem?_eq_some_iff.1 h1).1];exact h1,h2⟩
 len:=hl
 keep:=fun o ob' ho h1=>h.keep o ob' ho (by rw[List.getElem?_append_left (List.getElem?_eq_some_iff.1 h1).1];exact h1)
theorem ux{G:Gl}{w:World}{μ μ':Mu}{st st':St}(h:Glob G w μ st)(ho:∀blk,own μ' st' blk→own μ st blk):Glob G w μ' st':=⟨fun g cs e=>(h.tab g cs e).mono (fun blk _ hn=>⟨rfl,fun x=>hn (ho blk x)⟩) (Nat.le_refl _),fun g c e=>let ⟨h1,h2,h3⟩:=h.all g c e;⟨h1,fun x=>h2 (ho g x),h3⟩,fun g e=>let ⟨h1,h2,h3⟩:=h.int g e;⟨h1,fun x=>h2 (ho g x),h3⟩⟩
theorem GF{r:LR}{q:Nat}{st:St}(h:r.new=none):r.app q st=r.ur st:=by
 obtain⟨d,ok,rd,up,new⟩:=r
 simp only at h
 subst h
 rfl
theorem uy{g:Bool}{op:Op}{fr:Fr}{lk:Look}{q:Nat}(hn:needs op=false):(aop P gl g op fr lk q).new=none:=by
 cases op with
 |move=>rfl
 |assign=>rfl
 |pick=>exact(iL _ _ _).2
 |alloc=>cases hn
 |box=>cases hn
 |build=>exact(iK _ _ _).2
 |buildSlice=>cases hn
 |load=>exact(gM _ _ _).2
 |store=>exact(lI _ _ _ _).1
 |ready=>rfl
 |waits=>rfl
 |nilCheck=>exact(eF _).2
 |binOp=>simp only[aop];split<;>first|exact(lH _ _ _).2|exact(nY _ _ _ _ _).2
 |unOp=>exact(nZ _ _).2
 |convert=>exact(fM _ _ _ _).2
 |sliceToArrayPointer=>rfl
 |makeInterface=>rfl
 |makeFunc fn=>cases fn<;>rfl
 |makeMap=>cases hn
 |makeChan=>rfl
 |makeSlice=>cases hn
 |slice=>exact(fA _ _ _ _ _ _ _).2
 |fieldAddr=>exact(dy _ _ _).2
 |field=>exact(iI _ _ _).2
 |indexAddr=>exact(aX _ _ _ _ _).2
 |index=>exact(iJ _ _ _ _).2
 |lookup=>exact(dO _ _ _ _ _ _ _).2
 |mapUpdate=>exact(ah _ _ _ _ _ _ _).1
 |insert=>exact(ah _ _ _ _ _ _ _).1
 |mapEntry=>rfl
 |entryStore=>rfl
 |range=>cases hn
 |next=>exact rZ _ _ _
 |entry=>rfl
 |typeAssert=>rfl
 |extract=>exact(fN _ _).2
 |call c=>
  obtain⟨callee,args,argTypes⟩:=c
  cases callee with
  |builtin b=>
   simp only[aop]
   split
   ·exact(ga _ _ _).2
   ·cases hn
   ·exact(ji _ _).2
   ·exact(jj _ _).2
   ·exact(gg _ _).2
   ·rfl
  |value=>rfl
  |invoke=>rfl
 |go=>rfl
 |defer=>rfl
 |panic=>rfl
 |send=>rfl
 |recv=>rfl
 |select=>rfl
theorem yE{i e:TI}{xk:TK}{lk:Look}{s x:D}{q o:Nat}{ob:Ob}(h:(N6 i e xk lk s x q).up=some (o,ob)):∃g n b es,lk o=some (.arr g n b es):=by
 unfold N6 at h
 (repeat' split at h)<;>first|(cases h;done)|skip
 rename_i hl
 cases h
 exact⟨_,_,_,_,hl⟩
theorem GH{g:Bool}{op:Op}{fr:Fr}{st:St}{q o:Nat}{ob:Ob}(hn:needs op=true)(h:(aop P gl g op fr (look (st++[some .resv])) q).up=some (o,ob)):o<st.length:=by
 cases op with
 |alloc=>cases h
 |box=>cases h
 |buildSlice t len ps=>revert h;simp only[aop];cases gl.imm t<;>(intro h;cases h)
 |makeMap t r=>
  cases r with
  |none=>simp only[aop,od]at h;cases h
  |some=>cases h
 |makeSlice=>simp only[aop,LR.and,kE]at h;cases h
 |range=>simp only[aop,LR.and,oc]at h;cases h
 |call c=>
  obtain⟨callee,args,argTypes⟩:=c
  cases callee with
  |builtin b=>
   simp only[aop]at h
   split at h
   ·rw[show(LR.and _ _).up=_ from(ga _ _ _).1]at h;cases h
   ·obtain⟨g,n,b,es,hl⟩:=yE h
    have:=F0 hl
    rcases Nat.lt_or_ge o st.length with h'|h'
    ·exact h'
    ·rw[List.getElem?_append_right h']at this
     rcases Nat.eq_zero_or_pos (o-st.length)with e|e
     ·rw[e]at this;cases this
     ·rw[List.getElem?_eq_none (by simp;omega)]at this;cases this
   ·rw[show(LR.and _ _).up=_ from(ji _ _).1]at h;cases h
   ·rw[show(LR.and _ _).up=_ from(jj _ _).1]at h;cases h
   ·rw[show(LR.and _ _).up=_ from(gg _ _).1]at h;cases h
   ·cases h
  |value=>cases h
  |invoke=>cases h
 | _=>cases hn
theorem Ed{fr:Fr}{st:St}{a:Act}{w:World}{μ:Mu}{o:Oper}(h:ke gl N w0 μ0 st0 fr st a w μ){r:LR}
 (hr:r=if needs o.op then aop P gl true o.op fr (look (st++[some .resv])) st.length else aop P gl true o.op fr (look st) 0) (hok:r.ok) (hd:jL N o):
 ∃nx v w' μ',(execOp a.eval o).run P w= .ok nx w'∧(nx= .value v∨(nx= .skip∧v=undef))∧ke gl N w0 μ0 st0 (fr.fU o.dst r.d) (r.ur st) (a.put o.dst v) w' μ':=by
 have fin:∀ {w' μ' v st'},Sim w' μ' st'→Step w μ st w' μ' st'→VR w' μ' st' v r.d→ke gl N w0 μ0 st0 (fr.fU o.dst r.d) st' (a.put o.dst v) w' μ':=by
  intro w' μ' v st' h1 h2 h3
  refine⟨h1,h.glob.step h2,?_,?_,?_,h.step.trans h2⟩
  ·cases mw:o.dst with
   |none=>exact h.fr.step h2
   |some t=>
    have ht:t<N:=by simpa[jL,mw]using hd
    exact(h.fr.step h2).put h3 (by rw[h.size];exact ht)
  ·cases mw:o.dst with
   |none=>exact h.size
   |some t=>simp[Act.put,h.size]
  ·cases mw:o.dst with
   |none=>exact h.defers
   |some t=>simp[Act.put,h.defers]
 cases hn:needs o.op with
 |false=>
  rw[hn]at hr
  simp only[Bool.false_eq_true,if_false]at hr
  subst hr
  obtain⟨nx,v,w',μ',h1,h2,h3,h4,h5⟩:=og (P:=P) (G:=gl) (q:=0) h.sim h.fr h.glob (fun e=>by rw[hn]at e;cases e) hok
  have hnew:(aop P gl true o.op fr (look st) 0).new=none:=uy hn
  have e:(aop P gl true o.op fr (look st) 0).app 0 st=(aop P gl true o.op fr (look st) 0).ur st:=GF hnew
  rw[e]at h3 h4 h5
  exact⟨nx,v,w',μ',h1,h2,fin h3 h4 h5⟩
 |true=>
  rw[hn]at hr
  simp only[if_true]at hr
  obtain⟨k1,k2⟩:=mQ h.sim
  have hf2:=h.fr.step k2
  have hg2:=h.glob.step k2
  have:=og (P:=P) (G:=gl) (q:=st.length) k1 hf2 hg2 (fun _=>by simp) (by rw[←hr];exact hok)
  rw[←hr]at this
  obtain⟨nx,v,w',μ',h1,h2,h3,h4,h5⟩:=this
  have hup:∀o' ob,r.up=some (o',ob)→o'<st.length:=fun o' ob e=>GH hn (by rw[←hr];exact e)
  have e:(r.new=none∧r.app st.length (st++[some .resv])=r.ur st++[some .resv])∨(r.app st.length (st++[some .resv])=r.ur st):=by
   cases hu:r.up with
   |none=>
    cases hnw:r.new with
    |none=>left;simp[LR.app,LR.ur,hu,hnw]
    |some ob=>right;simp[LR.app,LR.ur,hu,hnw]
   |some p=>
    obtain⟨o',ob'⟩:=p
    have hlt:=hup o' ob' hu
    cases hnw:r.new with
    |none=>left;simp[LR.app,LR.ur,hu,hnw,List.set_append_left _ _ hlt]
    |some ob=>right;simp[LR.app,LR.ur,hu,hnw,List.set_append_left _ _ hlt]
  have hlen:st.length≤(r.ur st).length:=by
   cases hu:r.up with
   |none=>cases hnw:r.new<;>simp[LR.ur,hu,hnw]
   |some p=>cases hnw:r.new<;>simp[LR.ur,hu,hnw]
  rcases e with⟨_,e⟩|e
  ·rw[e]at h3 h4 h5
   obtain⟨s1,s2⟩:=wS h3
   exact⟨nx,v,w',μ',h1,h2,fin s1 (uw s2 hlen (k2.trans h4)) (h5.resv s2)⟩
  ·rw[e]at h3 h4 h5
   exact⟨nx,v,w',μ',h1,h2,fin h3 (k2.trans h4) h5⟩
end
section
variable {P:Program} {gl:Gl} {N:Nat} {ops:Array Oper} {w0:World} {μ0:Mu} {st0:St}
theorem jM{w:World}{μ:Mu}{st:St}{tmps:Array Value}{fr:Fr}{o:Oper}(hf:FR w μ st tmps fr)(hok:cA ops fr o):Region.wanted o (yielded ops tmps)=guardOf ops fr o:=by
 unfold cA at hok
 unfold guardOf Region.wanted
 cases hg:o.guard with
 |none=>rfl
 |some p=>
  obtain⟨j,want⟩:=p
  rw[hg]at hok
  simp only at hok⊢
  cases hd:(ops[j]?).bind (·.dst)with
  |none=>rw[hd]at hok;exact hok.elim
  |some t=>
   rw[hd]at hok
   simp only at hok⊢
   have ht:=hf t
   have yes:∀b,VR w μ st (tmps.getD t undef) (.bool b)→yielded ops tmps j=some b:=fun b h=>by
    have:=eE h
    unfold yielded
    rw[hd]
    simp only[Option.bind_some]
    cases hq:tmps[t]? with
    |none=>simp[Array.getD_eq_getD_getElem?, hq,undef]at this
    |some u=>simp[Array.getD_eq_getD_getElem?, hq]at this;subst this;rfl
   have no:tmps.getD t undef=undef→yielded ops tmps j=none:=fun h=>by
    unfold yielded
    rw[hd]
    simp only[Option.bind_some]
    cases hq:tmps[t]? with
    |none=>rfl
    |some u=>simp[Array.getD_eq_getD_getElem?, hq]at h;subst h;rfl
   split at hok
   ·rename_i b hb
    rw[hb]at ht
    rw[yes b ht];cases b<;>cases want<;>rfl
   ·rename_i c b hb
    rw[hb]at ht
    generalize tmps.getD t undef=u at ht yes no
    cases ht with
    |tr h=>cases h
    |cond _ _ _ h h0=>
     cases c with
     |true=>rw[yes b (h rfl)];cases b<;>cases want<;>rfl
     |false=>rw[no (h0 rfl)];simp
   ·exact hok.elim
theorem Ds{K:Fr→St→Prop}:∀(l:List Oper) (s:S),Run P gl N ops l s K→s.ok
 | [],s,h=>h.1
 |o::l,s,h=>by
  simp only[Run]at h
  split at h
  ·exact(Ds l _ h).1
  ·exact h.1
theorem oh{fr:Fr}{st:St}{a:Act}{w:World}{μ:Mu}{o:Oper}(h:ke gl N w0 μ0 st0 fr st a w μ)(hd:jL N o)(d:D):
 ke gl N w0 μ0 st0 (fr.fU o.dst (.cond false d)) st (a.put o.dst undef) w μ:=by
 refine⟨h.sim,h.glob,?_,?_,?_,h.step⟩
 ·cases mw:o.dst with
  |none=>exact h.fr
  |some t=>
   have ht:t<N:=by simpa[jL,mw]using hd
   exact h.fr.put (.cond _ _ _ (fun e=>by cases e) (fun _=>rfl)) (by rw[h.size];exact ht)
 ·cases mw:o.dst with
  |none=>exact h.size
  |some t=>simp[Act.put,h.size]
 ·cases mw:o.dst with
  |none=>exact h.defers
  |some t=>simp[Act.put,h.defers]
theorem om{fr:Fr}{st:St}{a:Act}{w:World}{μ:Mu}{o:Oper}{d:D}{v:Value}(h:ke gl N w0 μ0 st0 (fr.fU o.dst d) st (a.put o.dst v) w μ)(G:Bool)(hG:G=true):ke gl N w0 μ0 st0 (xS o G fr d) st (a.put o.dst v) w μ:=by
 unfold xS
 split
 ·exact h
 ·refine⟨h.sim,h.glob,fun t=>?_,h.size,h.defers,h.step⟩
  have:=h.fr t
  cases mw:o.dst with
  |none=>rw[mw]at this;exact this
  |some t'=>
   rw[mw]at this
   simp only[Fr.fU,Fr.nW]at this⊢
   split
   ·rename_i e
    rw[if_pos e]at this
    exact .cond _ _ _ (fun _=>this) (fun e=>by rw[hG]at e;cases e)
   ·rename_i e;rw[if_neg e]at this;exact this
theorem mT{o:Oper}{a:Act}{w:World}{μ:Mu}{st:St}{fr:Fr}{f:Operand}{xs:List Operand}{g:Nat}{first cap:List D}(hc:bH o.op=some (f,xs))(hf:FR w μ st a.tmps fr)(hg:Glob gl w μ st)
 (Mw:eok gl true fr f) (Mx:∀x∈xs,eok gl true fr x) (hev:ev1 gl fr f= .fn g first cap):
 ∃vs:Array Value,(execOp a.eval o).run P w=(callFunc g vs).run P w∧vs.size=(first++xs.map (ev1 gl fr)++cap).length∧
  ∀j (h:j<(first++xs.map (ev1 gl fr)++cap).length),VR w μ st (vs.getD j undef) ((first++xs.map (ev1 gl fr)++cap)[j]):=by
 obtain⟨dst,op,type,pos,after,guard⟩:=o
 cases op<;>simp only[bH]at hc<;>first|(cases hc;done)|skip
 rename_i c
 obtain⟨callee,args,argTypes⟩:=c
 cases callee<;>simp only at hc<;>first|(cases hc;done)|skip
 rename_i f'
 cases hc
 have hv:=fZ hf hg Mw
 rw[hev]at hv
 have hargs:∀j (h:j<args.size),VR w μ st (a.eval args[j]) (ev1 gl fr args[j]):=fun j h=>fZ hf hg (Mx _ (by simp))
 have key:∃vf vc:Array Value,a.eval f= .func (.func g) vf vc∧vf.size=first.length∧vc.size=cap.length∧(∀j (h:j<first.length),VR w μ st (vf.getD j undef) (first[j]))∧∀j (h:j<cap.length),VR w μ st (vc.getD j undef) (cap[j]):=by
  generalize a.eval f=vv at hv
  cases hv with
  |tr h=>cases h
  |fn _ vf vc _ _ h1 h2 h3 h4=>exact⟨vf,vc,rfl,h1,h2,h3,h4⟩
 obtain⟨vf,vc,e,h1,h2,h3,h4⟩:=key
 refine⟨vf++args.map a.eval++vc,?_,by simp[h1,h2],fun j hj=>?_⟩
 ·simp[execOp,resolve,e,Deferred.ofValue,invoke]
 ·simp only[List.length_append,List.length_map,Array.length_toList]at hj
  rw[Array.getD_eq_getD_getElem?]
  by_cases c1:j<first.length
  ·rw[Array.getElem?_append_left (by simp[h1];omega),Array.getElem?_append_left (by omega)]
   simp only[List.append_assoc,List.getElem_append_left c1]
   have:=h3 j c1
   rwa[Array.getD_eq_getD_getElem?]at this
  ·by_cases c2:j<first.length+args.size
   ·rw[Array.getElem?_append_left (by simp[h1];omega),Array.getElem?_append_right (by omega)]
    have hj2:j-first.length<args.size:=by omega
    have hg1:(first++args.toList.map (ev1 gl fr)++cap)[j]'(by simp;omega)=ev1 gl fr args[j-first.length]:=by
     rw[List.getElem_append_left (by simp;omega),List.getElem_append_right (by omega)]
     simp
    rw[hg1,h1]
    simpa[hj2]using hargs (j-first.length) hj2
   ·rw[Array.getElem?_append_right (by simp[h1];omega)]
    have hj2:j-(first.length+args.size)<cap.length:=by omega
    have hg1:(first++args.toList.map (ev1 gl fr)++cap)[j]'(by simp;omega)=cap[j-(first.length+args.size)]:=by
     rw[List.getElem_append_right (by simp;omega)]
     simp
    rw[hg1]
    have:=h4 _ hj2
    rw[Array.getD_eq_getD_getElem?]at this
    simpa[h1]using this
theorem eG{K:Fr→St→Prop}{Q:Exit→Act→World→Prop}(hQ:∀fr st a w μ,K fr st→ke gl N w0 μ0 st0 fr st a w μ→Q .normal a w):
 ∀(l:List Oper) (i:Nat),ops.toList.drop i=l→∀(s:S) (a:Act) (w:World) (μ:Mu),ke gl N w0 μ0 st0 s.fr s.st a w μ→Run P gl N ops l s K→wpOps P ops Q (List.range' i l.length) a w
 | [],i,hl,s,a,w,μ,hc,h=>hQ _ _ _ _ _ h.2 hc
 |o::l,i,hl,s,a,w,μ,hc,h=>by
  have hlt:i<ops.size:=by
   rcases Nat.lt_or_ge i ops.size with h'|h'
   ·exact h'
   ·rw[List.drop_eq_nil_of_le (by simpa using h')]at hl;cases hl
  have ho:ops[i]? =some o:=by
   have:(ops.toList.drop i)[0]? =some o:=by rw[hl];rfl
   simpa[List.getElem?_drop]using this
  have hl':ops.toList.drop (i+1)=l:=by
   have:=congrArg List.tail hl
   simpa[List.tail_drop]using this
  simp only[List.length_cons,List.range'_succ]
  rw[wpOps_cons]
  simp only[wpOp,ho]
  simp only[Run]at h
  split at h
  ·rename_i gN
   obtain⟨hok,hd,hgo,hr⟩:=Ds l _ h
   rw[jM hc.fr hgo]
   cases hG:guardOf ops s.fr o with
   |true=>
    simp only[if_true]
    left
    rw[hG]at hr
    obtain⟨nx,v,w',μ',h1,h2,h3⟩:=Ed (P:=P) (o:=o) hc rfl (hr rfl) hd
    unfold Oper.wp
    rw[h1]
    have next:wpOps P ops Q (List.range' (i+1) l.length) (a.put o.dst v) w':=by
     refine eG hQ l (i+1) hl' _ _ _ μ' ?_ h
     simp only[O5,hG,cond_true]
     exact om h3 true rfl
    rcases h2 with rfl|⟨rfl,rfl⟩<;>exact next
   |false=>
    simp only[Bool.false_eq_true,if_false]
    have hgs:∃p,o.guard=some p:=by
     cases hgd:o.guard with
     |none=>simp[guardOf,hgd]at hG
     |some p=>exact⟨p,rfl⟩
    obtain⟨p,hgs⟩:=hgs
    refine eG hQ l (i+1) hl' _ _ _ μ ?_ h
    simp only[O5,hG,cond_false]
    have e:∀d,xS o false s.fr d=s.fr.fU o.dst (.cond false d):=fun d=>by simp[xS,hgs]
    rw[e]
    exact oh hc hd _
  ·rename_i f xs gN
   obtain⟨hok,hd,hgo,hfo,hxo,hr⟩:=h
   rw[jM hc.fr hgo]
   cases hgd:o.guard with
   |none=>
    rw[hgd]at hr
    simp only at hr
    have hG:guardOf ops s.fr o=true:=by simp[guardOf,hgd]
    rw[hG]at hfo hxo⊢
    simp only[if_true]
    left
    split at hr
    ·rename_i g first cap hev
     obtain⟨_,hspec⟩:=hr
     obtain⟨vs,h1,h2,h3⟩:=mT (P:=P) gN hc.fr hc.glob hfo hxo hev
     unfold Oper.wp
     rw[h1]
     refine(hspec w μ vs hc.sim hc.glob h2 h3).upon fun e w' ⟨v,d,st',μ',he,hR,hs',vp,hv⟩=>?_
     subst he
     refine eG hQ l (i+1) hl' ⟨s.fr.fU o.dst d,st',True⟩ _ _ μ' ?_ hR
     refine⟨hs',hc.glob.step vp,?_,?_,?_,hc.step.trans vp⟩
     ·cases mw:o.dst with
      |none=>exact hc.fr.step vp
      |some t=>
       have ht:t<N:=by simpa[jL,mw]using hd
       exact(hc.fr.step vp).put hv (by rw[hc.size];exact ht)
     ·cases mw:o.dst with
      |none=>exact hc.size
      |some t=>simp[Act.put,hc.size]
     ·cases mw:o.dst with
      |none=>exact hc.defers
      |some t=>simp[Act.put,hc.defers]
    ·exact hr.elim
   |some p=>
    rw[hgd]at hr
    simp only at hr
    cases hG:guardOf ops s.fr o with
    |false=>
     simp only[Bool.false_eq_true,if_false]
     split at hr
     ·obtain⟨r,ups,_,hst,hR⟩:=hr
      rw[hst (by assumption)]at hR
      refine eG hQ l (i+1) hl' _ _ _ μ ?_ hR
      have e:∀d,xS o (guardOf ops s.fr o) s.fr d=s.fr.fU o.dst (.cond false d):=fun d=>by simp[xS,hgd,hG]
      rw[e]
      exact oh hc hd _
     ·exact hr.elim
    |true=>
     rw[hG]at hfo hxo hr
     simp only[if_true]
     left
     split at hr
     ·rename_i g first cap hev
      obtain⟨r,ups,hp,_,hR⟩:=hr
      obtain⟨_,hspec⟩:=hp rfl
      obtain⟨vs,h1,h2,h3⟩:=mT (P:=P) gN hc.fr hc.glob hfo hxo hev
      unfold Oper.wp
      rw[h1]
      refine(hspec w μ vs hc.sim hc.glob h2 h3).upon fun e w' ⟨v,d,st',μ',he,⟨hd1,hd2⟩,hs',vp,hv⟩=>?_
      subst he;subst hd1;subst hd2
      refine eG hQ l (i+1) hl' _ _ _ μ' ?_ hR
      refine om ?_ true rfl
      refine⟨hs',hc.glob.step vp,?_,?_,?_,hc.step.trans vp⟩
      ·cases mw:o.dst with
       |none=>exact hc.fr.step vp
       |some t=>
        have ht:t<N:=by simpa[jL,mw]using hd
        exact(hc.fr.step vp).put hv (by rw[hc.size];exact ht)
      ·cases mw:o.dst with
       |none=>exact hc.size
       |some t=>simp[Act.put,hc.size]
      ·cases mw:o.dst with
       |none=>exact hc.defers
       |some t=>simp[Act.put,hc.defers]
     ·exact hr.elim
end
theorem VR.sc{w:World}{μ:Mu}{st:St}{v:Value}{d:D}(h:VR w μ st v d):D.sc st.length d:=by
 induction h with
 |any v=>trivial
 |tr h=>exact h.sc _
 |agg vs cs hs hc ih=>exact kF ih
 |tup vs cs hs hc ih=>exact kF ih
 |fn f vf vc first cap hf hc hfc hcc ih1 ih2=>exact⟨kF ih1,kF ih2⟩
 |ref v full o g off len hv ho=>exact ho
 |ptr v o g i c hv ho=>exact ho
 |mp v o hv ho=>exact ho
 |it v o hv ho=>exact ho
 |cond v g d h h0 ih=>exact ih
theorem Sim.sc{w:World}{μ:Mu}{st:St}(h:Sim w μ st):iw st.length st:=fun o ob ho=>by
 have:=h.obj o ob ho
 cases ob with
 |arr g n b es=>
  obtain⟨_,_,h3⟩:=(this:kj w μ st (μ o) n b es)
  intro e he
  rcases h3 with⟨_,h3⟩|⟨blk,base,c,ty,em,hh,hsz,hc⟩
  ·rw[h3]at he;simp at he
  ·obtain⟨i,hi,rfl⟩:=List.getElem_of_mem he
   exact kF fun j hj=>by obtain⟨v,_,hv,_⟩:=hc i j hi hj;exact hv.sc
 |mps ag es=>
  obtain⟨blk,ents,clock,ez,em,hh,hsz,hc,hx⟩:=(this:kd _ ag w μ _ (μ o) es).loc
  intro e he
  obtain⟨i,hi,rfl⟩:=List.getElem_of_mem (hx.perm.mem_iff.2 he)
  obtain⟨e,_,_,e3⟩:=hc i hi
  cases ag with
  |true=>exact VR.sc e3
  |false=>obtain⟨d,a,b⟩:=e3;rw[a];exact⟨b.sc,trivial⟩
 |mpi ag k es=>
  obtain⟨blk,ents,clock,ez,em,hh,hsz,hc,hx⟩:=(this:kd _ ag w μ _ (μ o) es).loc
  intro e he
  obtain⟨i,hi,rfl⟩:=List.getElem_of_mem (hx.perm.mem_iff.2 he)
  obtain⟨e,_,_,e3⟩:=hc i hi
  cases ag with
  |true=>exact VR.sc e3
  |false=>obtain⟨d,a,b⟩:=e3;rw[a];exact⟨b.sc,trivial⟩
 |sit=>trivial
 |resv=>trivial
theorem VR.uz{w:World}{μ:Mu}{s t:St}{v:Value}{d:D}(h:VR w μ (s++t) v d)(hd:D.sc s.length d):VR w μ s v d:=by
 have lk:∀o,o<s.length→(s++t)[o]? =s[o]? :=fun o h=>List.getElem?_append_left h
 have ow:∀blk,own μ s blk→own μ (s++t) blk:=by
  rintro blk ⟨o,ob,base,h1,h2⟩
  exact⟨o,ob,base,by rw[lk o (List.getElem?_eq_some_iff.1 h1).1];exact h1,h2⟩
 induction h with
 |any v=>exact .any v
 |tr h=>exact .tr (h.mono (fun blk _ hn=>⟨rfl,fun h=>hn (ow blk h)⟩) (Nat.le_refl _))
 |agg vs cs hs hc ih=>exact .agg vs cs hs (fun j hj=>ih j hj (aP hd j hj))
 |tup vs cs hs hc ih=>exact .tup vs cs hs (fun j hj=>ih j hj (aP hd j hj))
 |fn f vf vc first cap hf hc hfc hcc ih1 ih2=>exact .fn f vf vc first cap hf hc (fun j hj=>ih1 j hj (aP hd.1 j hj)) (fun j hj=>ih2 j hj (aP hd.2 j hj))
 |ref v full o g off len hv ho hr hg h=>
  rw[lk o hd]at hr
  exact .ref v full o g off len hv hd hr (fun g' n b es e=>hg g' n b es (by rw[lk o hd];exact e)) (fun n b es e=>h n b es (by rw[lk o hd];exact e))
 |ptr v o g i c hv ho hr hg h=>
  rw[lk o hd]at hr
  exact .ptr v o g i c hv hd hr (fun g' n b es e=>hg g' n b es (by rw[lk o hd];exact e)) (fun n b es e=>h n b es (by rw[lk o hd];exact e))
 |mp v o hv ho hr h1 h2=>
  rw[lk o hd]at hr
  exact .mp v o hv hd hr (fun ag es e=>h1 ag es (by rw[lk o hd];exact e)) (fun ag k es e=>h2 ag k es (by rw[lk o hd];exact e))
 |it v o hv ho hr h=>
  rw[lk o hd]at hr
  exact .it v o hv hd hr (fun s p e=>h s p (by rw[lk o hd];exact e))
 |cond v g d h h0 ih=>exact .cond v g d (fun e=>ih e (hd e)) h0
theorem Sim.uz{w:World}{μ:Mu}{s t:St}(hs:Sim w μ (s++t))(hsc:iw s.length s):Sim w μ s:=by
 have lk:∀o ob,s[o]? =some (some ob)→(s++t)[o]? =some (some ob):=fun o ob h=>by
  rw[List.getElem?_append_left (List.getElem?_eq_some_iff.1 h).1];exact h
 refine⟨fun o ob h=>?_,fun o1 o2 ob1 ob2 blk b1 b2 h1 h2 m1 m2=>hs.inj o1 o2 ob1 ob2 blk b1 b2 (lk _ _ h1) (lk _ _ h2) m1 m2⟩
 have:=hs.obj o ob (lk o ob h)
 have hob:=hsc o ob h
 cases ob with
 |arr g n b es=>
  obtain⟨h1,h2,h3⟩:=(this:kj w μ (s++t) (μ o) n b es)
  refine(⟨h1,h2,?_⟩:kj w μ s (μ o) n b es)
  rcases h3 with h3|⟨blk,base,c,ty,em,hh,hsz,hc⟩
  ·exact .inl h3
  ·exact .inr ⟨blk,base,c,ty,em,hh,hsz,fun i j hi hj=>let ⟨v,e,hv,h1⟩:=hc i j hi hj;⟨v,e,hv.uz (aP (hob _ (List.getElem_mem hi)) j hj),h1⟩⟩
 |mps ag es=>
  obtain⟨blk,ents,clock,ez,em,hh,hsz,hc,hx⟩:=(this:kd _ ag w μ _ (μ o) es).loc
  refine(⟨⟨blk,ents,clock,ez,em,hh,hsz,fun i hi=>?_,hx⟩⟩:kd _ ag w μ s (μ o) es)
  obtain⟨e,e1,e2,e3⟩:=hc i hi
  refine⟨e,e1,e2,?_⟩
  have rQ:=hob _ (hx.perm.mem_iff.1 (List.getElem_mem hi))
  cases ag with
  |true=>exact VR.uz e3 rQ
  |false=>obtain⟨d,a,b⟩:=e3;rw[a]at rQ;exact⟨d,a,b.uz rQ.1⟩
 |mpi ag k es=>
  obtain⟨blk,ents,clock,ez,em,hh,hsz,hc,hx⟩:=(this:kd _ ag w μ _ (μ o) es).loc
  refine(⟨⟨blk,ents,clock,ez,em,hh,hsz,fun i hi=>?_,hx⟩⟩:kd _ ag w μ s (μ o) es)
  obtain⟨e,e1,e2,e3⟩:=hc i hi
  refine⟨e,e1,e2,?_⟩
  have rQ:=hob _ (hx.perm.mem_iff.1 (List.getElem_mem hi))
  cases ag with
  |true=>exact VR.uz e3 rQ
  |false=>obtain⟨d,a,b⟩:=e3;rw[a]at rQ;exact⟨d,a,b.uz rQ.1⟩
 |sit=>exact this
 |resv=>exact this
theorem Step.uz{w w':World}{μ μ':Mu}{st s t:St}(hl:st.length≤s.length)(h:Step w μ st w' μ' (s++t)):Step w μ st w' μ' s where
 size:=h.size
 os:=h.os
 output:=h.output
 tape:=h.tape
 imm:=h.imm
 own:=fun blk ⟨o,ob,base,h1,h2⟩=>h.own blk ⟨o,ob,base,by rw[List.getElem?_append_left (List.getElem?_eq_some_iff.1 h1).1];exact h1,h2⟩
 len:=hl
 keep:=fun o ob' ho h1=>h.keep o ob' ho (by rw[List.getElem?_append_left (List.getElem?_eq_some_iff.1 h1).1];exact h1)
inductive BL where
 |normal
 |exit (id:Nat)
 |ret
abbrev AQ:=BL→Fr→St→Prop
def AQ.then(next:Fr→St→Prop)(Q:AQ):AQ
 | .normal,fr,st=>next fr st
 |e,fr,st=>Q e fr st
def AQ.block(id:Nat)(Q:AQ):AQ
 | .exit i,fr,st=>if i=id then Q .normal fr st else Q (.exit i) fr st
 |e,fr,st=>Q e fr st
def cq(gl:Gl)(N:Nat)(w0:World)(μ0:Mu)(st0:St)(Q:AQ):Exit→Act→World→Prop
 | .normal,a,w=>∃fr st,Q .normal fr st∧sq gl N w0 μ0 st0 fr st a w
 | .exit id,a,w=>∃fr st,Q (.exit id) fr st∧sq gl N w0 μ0 st0 fr st a w
 | .ret,a,w=>∃fr st,Q .ret fr st∧sq gl N w0 μ0 st0 fr st a w
 | _,_,_=>False
def AWp(P:Program)(gl:Gl)(N n0:Nat)(keep:List Nat)(c:Code)(Q:AQ)(fr:Fr)(st:St):Prop:=
 ∀(w0:World) (μ0:Mu) (st0:St),st0.length=n0→∀(a:Act) (w:World),sq gl N w0 μ0 st0 fr st a w→c.wp P (cq gl N w0 μ0 st0 Q) a w
section
variable {P:Program} {gl:Gl} {N n0:Nat} {keep:List Nat} {Q:AQ} {fr:Fr} {st:St}
theorem yF{w0:World}{μ0:Mu}{st0:St}{b:Code}(hl:st0.length=n0){e:Exit}{a:Act}{w:World}(h:cq gl N w0 μ0 st0 (AQ.then (AWp P gl N n0 keep b Q) Q) e a w):
 Exit.then (b.wp P (cq gl N w0 μ0 st0 Q)) (cq gl N w0 μ0 st0 Q) e a w:=by
 cases e with
 |normal=>obtain⟨fr,st,h1,h2⟩:=h;exact h1 w0 μ0 st0 hl a w h2
 |exit id=>exact h
 |ret=>exact h
 |goto=>exact h
 |panic=>exact h
 |outgrown=>exact h
theorem sq_{x y:Code}(h:AWp P gl N n0 keep x (AQ.then (AWp P gl N n0 keep y Q) Q) fr st):AWp P gl N n0 keep (.seq x y) Q fr st:=
 fun w0 μ0 st0 hl a w hc=>wp_seq (wp_mono (h w0 μ0 st0 hl a w hc) fun _ _ _=>yF hl)
theorem su:∀(k k':List Item) (id:Nat),exitTo id k=some k'→k'.length<k.length
 | [],_,_,h=>by simp[exitTo]at h
 |x::k,k',id,h=>by
  by_cases hx:x= .inBlock id
  ·subst hx
   simp[exitTo]at h
   subst h;simp
  ·have:exitTo id k=some k':=by
    cases x<;>simp[exitTo]at h<;>first|exact h|skip
    rename_i id'
    split at h
    ·rename_i e;exact absurd (by rw[e]) hx
    ·exact h
   have:=su k k' id this
   simp;omega
theorem sw{b:Frame}{a a':Act}{k k':List Item}{cs:List Frame}{w w':World}(h:lone (b.at a k) cs w=lone (b.at a' k') cs w'):k=k':=by
 simp only[lone,Machine.mk.injEq]at h
 have:=h.2.1
 simp[Frame.at]at this
 exact this.2.1
theorem kG{c:Code}(h:AWp P gl N n0 keep c (AQ.then (AWp P gl N n0 keep (.loop c) Q) Q) fr st):AWp P gl N n0 keep (.loop c) Q fr st:=by
 intro w0 μ0 st0 hl a w hc b k cs
 obtain⟨e,a',w',hq0,harr⟩:=h w0 μ0 st0 hl a w hc b (.inLoop c::k) cs
 have hq:=yF (P:=P) (gl:=gl) (N:=N) (keep:=keep) hl hq0
 have pass:∀e',e'≠Exit.normal→cq gl N w0 μ0 st0 Q e' a' w'→Arrives P (lone (b.at a (.code c:: .inLoop c::k)) cs w) b (.inLoop c::k) cs e' a' w'→
  ∃e a'' w'',cq gl N w0 μ0 st0 Q e a'' w''∧Arrives P (lone (b.at a (.code (.loop c)::k)) cs w) b k cs e a'' w'':=fun e' hne hq' JX=>
  ⟨e',a',w',hq',.of_steps (.one step_loop) (.pass (x:=.inLoop c) rfl (fun _ _=>.inl hne) JX)⟩
 cases e with
 |normal=>
  obtain⟨e2,a2,w2,hq2,Ee⟩:=hq b k cs
  have hs2:step P (lone (b.at a' (.code (.loop c)::k)) cs w')= .next (lone (b.at a' (.code c:: .inLoop c::k)) cs w'):=step_loop
  have hs3:step P (lone (b.at a' (.inLoop c::k)) cs w')= .next (lone (b.at a' (.code c:: .inLoop c::k)) cs w'):=step_inLoop
  have same:∀m,Steps P (lone (b.at a' (.code (.loop c)::k)) cs w') m→m≠lone (b.at a' (.code (.loop c)::k)) cs w'→Steps P (lone (b.at a' (.inLoop c::k)) cs w') m:=by
   intro m ⟨n,hn⟩ hne
   cases n with
   |zero=>simp[runN]at hn;exact absurd hn.symm hne
   |succ n=>
    simp only[runN,hs2]at hn
    exact⟨n+1,by simp only[runN,hs3];exact hn⟩
  refine⟨e2,a2,w2,hq2,.of_steps (.head step_loop harr) ?_⟩
  cases e2 with
  |normal=>exact same _ Ee (fun e=>by have:=congrArg List.length (sw e);simp at this)
  |exit id=>exact fun k' hk=>same _ (Ee k' hk) (fun e=>by have:=congrArg List.length (sw e);have:=su k k' id hk;simp at *; omega)
  |ret=>
   obtain⟨todo,hs⟩:=Ee
   refine⟨todo,same _ hs (fun e=>?_)⟩
   simp only[lone,Machine.mk.injEq]at e
   have:=e.2.1
   simp[Frame.at]at this
  |goto=>exact hq2.elim
  |panic=>exact hq2.elim
  |outgrown=>exact hq2.elim
 |exit id=>exact pass (.exit id) (by simp) hq harr
 |ret=>exact pass .ret (by simp) hq harr
 |goto l=>exact pass (.goto l) (by simp) hq harr
 |panic ch=>exact pass (.panic ch) (by simp) hq harr
 |outgrown=>exact pass .outgrown (by simp) hq harr
theorem Bn(h:Q .normal fr st):AWp P gl N n0 keep .skip Q fr st:=fun _ _ _ _ _ _ hc=>wp_skip ⟨fr,st,h,hc⟩
theorem Ef(h:Q .ret fr st):AWp P gl N n0 keep .ret Q fr st:=fun _ _ _ _ _ _ hc=>wp_ret ⟨fr,st,h,hc⟩
theorem gO{id:Nat}(h:Q (.exit id) fr st):AWp P gl N n0 keep (.exit id) Q fr st:=fun _ _ _ _ _ _ hc=>wp_exit ⟨fr,st,h,hc⟩
theorem Dt{id:Nat}{c:Code}(h:AWp P gl N n0 keep c (AQ.block id Q) fr st):AWp P gl N n0 keep (.block id c) Q fr st:=
 fun w0 μ0 st0 hl a w hc=>wp_block (wp_mono (h w0 μ0 st0 hl a w hc) fun e a' w' hq=>by
  cases e with
  |normal=>exact hq
  |exit i=>
   obtain⟨fr',st',h1,h2⟩:=hq
   simp only[AQ.block]at h1
   simp only[Exit.inBlock]
   split
   ·rename_i e;rw[if_pos e]at h1;exact⟨fr',st',h1,h2⟩
   ·rename_i e;rw[if_neg e]at h1;exact⟨fr',st',h1,h2⟩
  |ret=>exact hq
  |goto=>exact hq
  |panic=>exact hq
  |outgrown=>exact hq)
theorem GI{c:Operand}{x y:Code}{t:Bool}(hc:ev gl fr c= .bool t)(hx:t=true→AWp P gl N n0 keep x Q fr st)(hy:t=false→AWp P gl N n0 keep y Q fr st):AWp P gl N n0 keep (.cond c x y) Q fr st:=by
 intro w0 μ0 st0 hl a w hcc
 obtain⟨μ,hcn⟩:=hcc
 have hv:=vo hcn.fr hcn.glob c
 rw[hc]at hv
 exact wp_cond_split (eE hv) (fun e=>hx e w0 μ0 st0 hl a w ⟨μ,hcn⟩) (fun e=>hy e w0 μ0 st0 hl a w ⟨μ,hcn⟩)
theorem wT{id:Nat}{l:List Oper}(h:Run P gl N l.toArray l ⟨fr,st,True⟩ (fun fr st=>Q .normal (Fr.only keep fr) st)):AWp P gl N n0 keep (.region id l.toArray false) Q fr st:=by
 intro w0 μ0 st0 hl a w ⟨μ,hc⟩
 refine wp_region ?_
 have:=eG (P:=P) (gl:=gl) (N:=N) (ops:=l.toArray) (w0:=w0) (μ0:=μ0) (st0:=st0) (Q:=cq gl N w0 μ0 st0 Q) (fun fr st a w μ hk hc=>⟨_,_,hk,μ,hc.sim,hc.glob,hc.fr.only keep,hc.size,hc.defers,hc.step⟩) l 0 rfl ⟨fr,st,True⟩ a w μ hc h
 rw[List.range_eq_range']
 simpa using this
theorem kH{c:Code}{Q':AQ}(h:AWp P gl N n0 keep c Q fr st)(hq:∀e fr st,Q e fr st→Q' e fr st):AWp P gl N n0 keep c Q' fr st:=
 fun w0 μ0 st0 hl a w hc=>wp_mono (h w0 μ0 st0 hl a w hc) fun e a' w' hq'=>by
  cases e with
  |normal=>obtain⟨f,s,h1,h2⟩:=hq';exact⟨f,s,hq _ _ _ h1,h2⟩
  |exit i=>obtain⟨f,s,h1,h2⟩:=hq';exact⟨f,s,hq _ _ _ h1,h2⟩
  |ret=>obtain⟨f,s,h1,h2⟩:=hq';exact⟨f,s,hq _ _ _ h1,h2⟩
  |goto=>exact hq'
  |panic=>exact hq'
  |outgrown=>exact hq'
theorem Eh{c:Code}{p:Prop}(hp:∀(w:World) (μ:Mu) (tmps:Array Value),Sim w μ st→FR w μ st tmps fr→p)(h:p→AWp P gl N n0 keep c Q fr st):AWp P gl N n0 keep c Q fr st:=
 fun w0 μ0 st0 hl a w ⟨μ,hc⟩=>h (hp w μ a.tmps hc.sim hc.fr) w0 μ0 st0 hl a w ⟨μ,hc⟩
def Fr.leq:Fr→Fr→Prop
 | [],_=>True
 |(k,d)::r,fr=>fr.get k=d∧Fr.leq r fr
theorem Fr.yG:∀(r fr:Fr),Fr.leq r fr→∀t,r.get t=fr.get t∨r.get t= .any
 | [],_,_,_=>.inr rfl
 |(k,d)::r,fr,h,t=>by
  simp only[Fr.get]
  split
  ·rename_i e;subst e;exact .inl h.1.symm
  ·exact Fr.yG r fr h.2 t
theorem oo{c:Code}{fr':Fr}(hl:Fr.leq fr' fr)(h:AWp P gl N n0 keep c Q fr' st):AWp P gl N n0 keep c Q fr st:=
 fun w0 μ0 st0 hl0 a w ⟨μ,hc⟩=>h w0 μ0 st0 hl0 a w ⟨μ,hc.sim,hc.glob,fun t=>by
  rcases Fr.yG fr' fr hl t with e|e
  ·rw[e];exact hc.fr t
  ·rw[e];exact .any _,hc.size,hc.defers,hc.step⟩
def Fr.sc(n:Nat):Fr→Prop
 | []=>True
 |(_,d)::r=>D.sc n d∧Fr.sc n r
theorem Fr.yH{n:Nat}:∀(fr:Fr),Fr.sc n fr→∀t,D.sc n (fr.get t)
 | [],_,_=>trivial
 |(k,d)::r,h,t=>by
  simp only[Fr.get]
  split
  ·exact h.1
  ·exact Fr.yH r h.2 t
def eH(P:Program)(st:St)(fr:Fr):ResultVar→LR
 | .tmp t=>{ d:=fr.get t,ok:=True }
 | .cell a t=>(pe (x5 P t) (look st) (fr.get a)).and ((x5 P t).k≠ .none)
def Lm(P:Program)(fn:Func)(fr:Fr)(st:St):D:=
 match fn.results.toList with
 | [r]=>(eH P st fr r).d
 |rs=>.tup (rs.map fun r=>(eH P st fr r).d)
def JY(P:Program)(fn:Func)(fr:Fr)(st:St):Prop:=∀r∈fn.results.toList,(eH P st fr r).ok
def qK:Nat→List D→Fr
 | _,[]=>[]
 |i,d::r=>(i,d)::qK (i+1) r
theorem sx:∀(l:List D) (i t:Nat),(qK i l).get t=if h:i≤t∧t-i<l.length then l[t-i]else .any
 | [],i,t=>by simp[qK,Fr.get]
 |d::r,i,t=>by
  simp only[qK,Fr.get]
  by_cases h:i=t
  ·subst h;simp
  ·rw[if_neg h,sx r (i+1) t]
   by_cases h2:i+1≤t∧t-(i+1)<r.length
   ·rw[dif_pos h2,dif_pos ⟨by omega,by simp;omega⟩]
    have:t-i=(t-(i+1))+1:=by omega
    simp[this]
   ·rw[dif_neg h2,dif_neg (by simp;omega)]
def vq(tmps:Array Value):ResultVar→Sem Value
 | .tmp t=>pure (tmps.getD t undef)
 | .cell a t=>do loadVar t (←asAddr (tmps.getD a undef))
theorem yI{fn:Func}{w:World}{μ:Mu}{tmps:Array Value}(hs:Sim w μ st)(hf:FR w μ st tmps fr)(hok:JY P fn fr st):
 ∃v,(results fn tmps).run P w= .ok v w∧VR w μ st v (Lm P fn fr st):=by
 have one:∀r:ResultVar,(eH P st fr r).ok→∃v,(vq tmps r).run P w= .ok v w∧VR w μ st v (eH P st fr r).d:=by
  intro r hr
  cases r with
  |tmp t=>exact⟨_,rfl,hf t⟩
  |cell a t=>
   obtain⟨hk,hok⟩:=hr
   obtain⟨v,h1,h2⟩:=pP (P:=P) (t:=t) hs (hf a) hok hk
   refine⟨v,?_,h2⟩
   have:∃ad,tmps.getD a undef= .pointer (some ad):=by
    cases hd:fr.get a<;>rw[hd]at hok<;>first|(exact hok.elim)|skip
    ·have:=hf a;rw[hd]at this;obtain⟨ad,e,_⟩:=pO this;exact⟨ad,e⟩
    ·have:=hf a;rw[hd]at this
     generalize tmps.getD a undef=u at this
     cases this with
     |tr h=>cases h
     |ptr _ _ _ _ _ hv=>exact hv
   obtain⟨ad,e⟩:=this
   simp only[vq]
   rw[e]at h1⊢
   simpa[Instr.loadAt,Instr.sureAddr,asAddr]using h1
 have many:∀rs:List ResultVar,(∀r∈rs,(eH P st fr r).ok)→∃vs:List Value,(rs.mapM (vq tmps)).run P w= .ok vs w∧
  vs.length=rs.length∧∀j (h:j<rs.length) (h2:j<vs.length),VR w μ st (vs[j]) (eH P st fr rs[j]).d:=by
  intro rs
  induction rs with
  |nil=>exact fun _=>⟨[],rfl,rfl,fun j h=>absurd h (Nat.not_lt_zero _)⟩
  |cons r rs ih=>
   intro h
   obtain⟨v,h1,h2⟩:=one r (h r (by simp))
   obtain⟨vs,h3,h4,h5⟩:=ih (fun r hr=>h r (by simp[hr]))
   refine⟨v::vs,by simp only[List.mapM_cons,Sem.run_bind,h1,h3,Result.andThen_ok];rfl,by simp[h4],fun j hj hj2=>?_⟩
   cases j with
   |zero=>exact h2
   |succ j=>exact h5 j (by simpa using hj) (by simpa using hj2)
 obtain⟨vs,h1,h2,h3⟩:=many fn.results.toList hok
 have Mz:results fn tmps=(fn.results.mapM (vq tmps) >>= fun vs=>pure (if h:vs.size=1 then vs[0]else .tuple vs)):=by
  unfold results
  congr 2
 have hrun:(results fn tmps).run P w= .ok (if h:vs.toArray.size=1 then vs.toArray[0]else .tuple vs.toArray) w:=by
  rw[Mz,Array.mapM_eq_mapM_toList]
  simp only[Sem.run_bind,Sem.run_map,h1,Result.andThen_ok,Sem.run_pure]
 refine⟨_,hrun,?_⟩
 unfold Lm
 by_cases hl:vs.length=1
 ·rw[dif_pos (by simpa using hl)]
  obtain⟨r,hr⟩:=List.length_eq_one_iff.1 (h2.symm.trans hl)
  rw[hr]at h3
  simp only[hr]
  exact h3 0 (by simp) (by omega)
 ·rw[dif_neg (by simpa using hl)]
  have hm:∀rs:List ResultVar,rs.length≠1→(match rs with| [r]=>(eH P st fr r).d|rs=>.tup (rs.map fun r=>(eH P st fr r).d))= .tup (rs.map fun r=>(eH P st fr r).d):=by
   intro rs hn
   match rs,hn with
   | [],_=>rfl
   | [r],hn=>simp at hn
   | _::_::_,_=>rfl
  rw[hm _ (by rw[←h2];exact hl)]
  refine .tup _ _ (fun j hj _=>by simpa[h2]using hj) (fun j hj=>?_)
  simp at hj
  have hj2:j<vs.length:=by rw[h2];simpa using hj
  rw[fL (v:=vs[j]) (by simp[hj2])]
  have h4:=h3 j (by simpa using hj) hj2
  simpa using h4
end
end Go.Am
