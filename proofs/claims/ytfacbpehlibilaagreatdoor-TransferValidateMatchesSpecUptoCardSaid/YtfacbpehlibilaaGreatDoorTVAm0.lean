/-
 AM, part 1: the data-level machine: its values D, its store St, and how they stand for the model's values and worlds.
-/
import Derived.WalkKit
import Derived.KernelRfl
import Derived.MapKept
import Derived.Lib.ConvBytes
import Derived.Laws.AppendOwn
import Derived.Laws.BytesArg
set_option linter.unusedVariables false
set_option linter.unusedSimpArgs false
namespace Go.Am
open Go
abbrev Bs:=List UInt8
def bs(l:Bs):ByteArray:=⟨l.toArray⟩
inductive D where
 |any
 |bool (b:Bool)
 |int (k:IntKind) (n:Int)
 |str (s:Bs)
 |u6b
 |r5g
 |u3I
 |u4v
 |sl (full:Bool) (n b:Nat) (es:List (List D))
 |agg (cs:List D)
 |tup (cs:List D)
 |fn (f:Nat) (first cap:List D)
 |u8j (cs:List D)
 |ref (full:Bool) (o g off len:Nat)
 |ptr (o g i c:Nat)
 |mp (o:Nat)
 |it (o:Nat)
 |cond (g:Bool) (d:D)
 deriving Inhabited
def D.live:D→Bool
 | .cond g _=>g
 | _=>true
inductive Ob where
 |arr (g n b:Nat) (es:List (List D))
 |mps (ag:Bool) (es:List (Bs×List D))
 |mpi (ag:Bool) (k:IntKind) (es:List (Int×List D))
 |sit (s:Bs) (pos:Nat)
 |resv
 deriving Inhabited
abbrev St:=List (Option Ob)
def puts(st:St):List (Nat×Ob)→St
 | []=>st
 |(o,x)::m=>(puts st m).set o (some x)
theorem x8M{st:St}:puts st []=st:=rfl
theorem x6B{st:St}{o:Nat}{x:Ob}{m:List (Nat×Ob)}:puts st ((o,x)::m)=(puts st m).set o (some x):=rfl
abbrev Mu:=Nat→Option (Nat×Nat)
def top:Nat:=140737488355328
def own(μ:Mu)(st:St)(blk:Nat):Prop:=∃o ob base,st[o]? =some (some ob)∧μ o=some (blk,base)
inductive TR(w:World)(own:Nat→Prop):Value→D→Prop
 |any (v:Value) (h:v.oneCell'=true):TR w own v .any
 |bool (b:Bool):TR w own (.bool b) (.bool b)
 |int (k:IntKind) (n:Int):TR w own (.int k n) (.int k n)
 |str (s:Bs):TR w own (.string (bs s)) (.str s)
 |u6b:TR w own (.pointer none) .u6b
 |r5g:TR w own (.slice none 0 0) .r5g
 |u3I:TR w own .nilFunc .u3I
 |u4v:TR w own (.map none) .u4v
 |sl (full:Bool) (n b:Nat) (es:List (List D)) (a:Option Addr) (len cap:Nat) (cv:Nat→Nat→Value)
  (hlen:len=es.length) (hcap:len≤cap) (u9j:full=true→cap=len) (hb:es.length*b≤top) (hb1:1≤b)
  (hn:∀e∈es,e.length=n)
  (ha:es=[]∨∃blk off,a=some ⟨blk,off,none⟩∧blk<w.heap.size∧¬own blk∧
   ∀i j,i<es.length→j<n→w.cell? ⟨blk,off+(i*n+j),none⟩=some (cv i j))
  (hc:∀i j (hi:i<es.length) (hj:j<(es[i]).length),TR w own (cv i j) ((es[i])[j])):
  TR w own (.slice a len cap) (.sl full n b es)
 |u8j (cs:List D) (blk off:Nat) (cv:Nat→Value) (hblk:blk<w.heap.size) (hown:¬own blk)
  (ha:∀j,j<cs.length→w.cell? ⟨blk,off+j,none⟩=some (cv j))
  (hc:∀j (hj:j<cs.length),TR w own (cv j) (cs[j])):TR w own (.pointer (some ⟨blk,off,none⟩)) (.u8j cs)
def u6D(w:World)(m:Option (Nat×Nat))(n:Nat)(es:List (List D))(full:Bool)(off len:Nat)(v:Value):Prop:=
 ∃a cap,v= .slice a len cap∧len≤cap∧off+len≤es.length∧(full=true→cap=len)∧
  (cap=0∨∃blk base,m=some (blk,base)∧a=some ⟨blk,base+off*n,none⟩∧
   ∃c ty,w.heap[blk]? =some (.cells c ty (0,0))∧base+(off+cap)*n≤c.size)
inductive VR(w:World)(μ:Mu)(st:St):Value→D→Prop
 |any (v:Value):VR w μ st v .any
 |tr {v:Value} {d:D} (h:TR w (own μ st) v d):VR w μ st v d
 |agg (vs:Array Value) (cs:List D) (hs:vs.size=cs.length) (hc:∀j (h:j<cs.length),VR w μ st (vs.getD j undef) (cs[j])):
  VR w μ st (.agg vs) (.agg cs)
 |tup (vs:Array Value) (cs:List D) (hs:∀j (h:j<cs.length),(cs[j]).live=true→j<vs.size) (hc:∀j (h:j<cs.length),VR w μ st (vs.getD j undef) (cs[j])):
  VR w μ st (.tuple vs) (.tup cs)
 |fn (f:Nat) (vf vc:Array Value) (first cap:List D) (hf:vf.size=first.length) (hc:vc.size=cap.length)
  (hfc:∀j (h:j<first.length),VR w μ st (vf.getD j undef) (first[j])) (hcc:∀j (h:j<cap.length),VR w μ st (vc.getD j undef) (cap[j])):
  VR w μ st (.func (.func f) vf vc) (.fn f first cap)
 |ref (v:Value) (full:Bool) (o g off len:Nat) (hv:∃a l c,v= .slice a l c) (ho:o<st.length) (hr:st[o]? ≠some (some .resv)) (hg:∀g' n b es,st[o]? =some (some (.arr g' n b es))→g≤g')
  (h:∀n b es,st[o]? =some (some (.arr g n b es))→u6D w (μ o) n es full off len v):VR w μ st v (.ref full o g off len)
 |ptr (v:Value) (o g i c:Nat) (hv:∃a,v= .pointer (some a)) (ho:o<st.length) (hr:st[o]? ≠some (some .resv)) (hg:∀g' n b es,st[o]? =some (some (.arr g' n b es))→g≤g')
  (h:∀n b es,st[o]? =some (some (.arr g n b es))→∃blk base,μ o=some (blk,base)∧v= .pointer (some ⟨blk,base+(i*n+c),none⟩)):
  VR w μ st v (.ptr o g i c)
 |mp (v:Value) (o:Nat) (hv:∃r,v= .map (some r)) (ho:o<st.length) (hr:st[o]? ≠some (some .resv)) (h1:∀ag es,st[o]? =some (some (.mps ag es))→∃blk,μ o=some (blk,0)∧v= .map (some blk))
  (h2:∀ag k es,st[o]? =some (some (.mpi ag k es))→∃blk,μ o=some (blk,0)∧v= .map (some blk)):
  VR w μ st v (.mp o)
 |it (v:Value) (o:Nat) (hv:∃a,v= .pointer (some a)) (ho:o<st.length) (hr:st[o]? ≠some (some .resv)) (h:∀s p,st[o]? =some (some (.sit s p))→∃blk,μ o=some (blk,0)∧v= .pointer (some ⟨blk,0,none⟩)):
  VR w μ st v (.it o)
 |cond (v:Value) (g:Bool) (d:D) (h:g=true→VR w μ st v d) (h0:g=false→v=undef):VR w μ st v (.cond g d)
structure u6V(w:World)(μ:Mu)(st:St)(m:Option (Nat×Nat))(n b:Nat)(es:List (List D)):Prop where
 x9r:es.length*b≤top
 hn:∀e∈es,e.length=n
 loc:(m=none∧es=[])∨∃blk base c ty,m=some (blk,base)∧w.heap[blk]? =some (.cells c ty (0,0))∧base+es.length*n≤c.size∧
  ∀i j (hi:i<es.length) (hj:j<(es[i]).length),∃v,c[base+(i*n+j)]? =some v∧VR w μ st v ((es[i])[j])∧v.oneCell'=true
def w8J(ag:Bool)(w:World)(μ:Mu)(st:St)(v:Value)(cs:List D):Prop:=
 if ag then VR w μ st v (.agg cs)else ∃d,cs=[d]∧VR w μ st v d
structure x6C{K V:Type}(ents:Array MapEntry)(clock:Nat)(es es':List (K×V)):Prop where
 perm:es'.Perm es
 nd:(es.map (·.1)).Nodup
 clk:clock=ents.size
 born:∀(i:Nat) (e:MapEntry),ents[i]? =some e→e.born=i
structure u6c{K:Type}(key:K→Value)(ag:Bool)(w:World)(μ:Mu)(st:St)(m:Option (Nat×Nat))(es:List (K×List D)):Prop where
 loc:∃blk ents clock,∃es':List (K×List D),m=some (blk,0)∧w.heap[blk]? =some (.map ents clock)∧ents.size=es'.length∧
  (∀i (hi:i<es'.length),∃e,ents[i]? =some e∧e.key=key (es'[i]).1∧w8J ag w μ st e.val (es'[i]).2)∧x6C ents clock es es'
def ObR(w:World)(μ:Mu)(st:St)(m:Option (Nat×Nat)):Ob→Prop
 | .arr _ n b es=>u6V w μ st m n b es
 | .mps ag es=>u6c (fun k=>.string (bs k)) ag w μ st m es
 | .mpi ag k es=>u6c (fun n=>.int k n) ag w μ st m es
 | .sit s p=>∃blk,m=some (blk,0)∧w.heap[blk]? =some (.stringIter (bs s) p)
 | .resv=>m=none
structure Sim(w:World)(μ:Mu)(st:St):Prop where
 obj:∀o ob,st[o]? =some (some ob)→ObR w μ st (μ o) ob
 inj:∀o o' ob ob' blk b b',st[o]? =some (some ob)→st[o']? =some (some ob')→μ o=some (blk,b)→μ o'=some (blk,b')→o=o'
def u1k(w w':World)(m m':Option (Nat×Nat)):Ob→Ob→Prop
 | .arr g n b es,.arr g' n' b' es'=>g≤g'∧(g=g'→n'=n∧b'=b∧es'.length=es.length∧m'=m∧
   ∀blk base c ty,m=some (blk,base)→w.heap[blk]? =some (.cells c ty (0,0))→∃c',w'.heap[blk]? =some (.cells c' ty (0,0))∧c'.size=c.size)
 | .mps ag _,.mps ag' _=>ag=ag'∧m'=m
 | .mpi ag k _,.mpi ag' k' _=>ag=ag'∧k=k'∧m'=m
 | .sit _ _,.sit _ _=>m'=m
 | .resv,_=>True
 | _,_=>False
structure Step(w:World)(μ:Mu)(st:St)(w':World)(μ':Mu)(st':St):Prop where
 size:w.heap.size≤w'.heap.size
 os:w'.os=w.os
 output:w'.output=w.output
 tape:w'.tape=w.tape∧w.drawn≤w'.drawn
 imm:∀blk,blk<w.heap.size→¬own μ st blk→w'.heap[blk]? =w.heap[blk]?
 own:∀blk,own μ' st' blk→own μ st blk∨w.heap.size≤blk
 len:st.length≤st'.length
 keep:∀o ob',o<st.length→st'[o]? =some (some ob')→∃ob,st[o]? =some (some ob)∧u1k w w' (μ o) (μ' o) ob ob'
theorem TR.mono{w w':World}{own y0K:Nat→Prop}{v:Value}{d:D}(h:TR w own v d)
 (hk:∀blk,blk<w.heap.size→¬own blk→w'.heap[blk]? =w.heap[blk]? ∧¬y0K blk) (hs:w.heap.size≤w'.heap.size):TR w' y0K v d:=by
 induction h with
 |any v h=>exact .any v h
 |bool b=>exact .bool b
 |int k n=>exact .int k n
 |str s=>exact .str s
 |u6b=>exact .u6b
 |r5g=>exact .r5g
 |u3I=>exact .u3I
 |u4v=>exact .u4v
 |sl full n b es a len cap cv hlen hcap u9j hb hb1 hn ha hc ih=>
  refine .sl full n b es a len cap cv hlen hcap u9j hb hb1 hn ?_ ih
  rcases ha with ha|⟨blk,off,ea,hblk,hown,hcell⟩
  ·exact .inl ha
  ·obtain⟨e1,e2⟩:=hk blk hblk hown
   refine .inr ⟨blk,off,ea,by omega,e2,fun i j hi hj=>?_⟩
   have:=hcell i j hi hj
   simpa only[World.cell?, e1]using this
 |u8j cs blk off cv hblk hown ha hc ih=>
  obtain⟨e1,e2⟩:=hk blk hblk hown
  exact .u8j cs blk off cv (by omega) e2 (fun j hj=>by simpa only[World.cell?, e1]using ha j hj) ih
theorem w1R{w:World}{μ:Mu}{st:St}(hs:Sim w μ st){blk:Nat}(h:own μ st blk):blk<w.heap.size:=by
 obtain⟨o,ob,base,ho,hm⟩:=h
 have:=hs.obj o ob ho
 cases ob with
 |arr g n b es=>
  have h2:u6V w μ st (μ o) n b es:=this
  rcases h2.loc with⟨e,_⟩|⟨u8k,base',c,ty,e,hh,_⟩
  ·rw[hm]at e;cases e
  ·rw[hm]at e;cases e
   rcases Nat.lt_or_ge blk w.heap.size with h'|h'
   ·exact h'
   ·rw[Array.getElem?_eq_none h']at hh;cases hh
 |mps ag es=>
  have h2:u6c _ ag w μ st (μ o) es:=this
  obtain⟨u8k,ents,clock,_,e,hh,_⟩:=h2.loc
  rw[hm]at e;cases e
  rcases Nat.lt_or_ge blk w.heap.size with h'|h'
  ·exact h'
  ·rw[Array.getElem?_eq_none h']at hh;cases hh
 |mpi ag k es=>
  have h2:u6c _ ag w μ st (μ o) es:=this
  obtain⟨u8k,ents,clock,_,e,hh,_⟩:=h2.loc
  rw[hm]at e;cases e
  rcases Nat.lt_or_ge blk w.heap.size with h'|h'
  ·exact h'
  ·rw[Array.getElem?_eq_none h']at hh;cases hh
 |sit s p=>
  obtain⟨u8k,e,hh⟩:∃blk,μ o=some (blk,0)∧w.heap[blk]? =some (.stringIter (bs s) p):=this
  rw[hm]at e;cases e
  rcases Nat.lt_or_ge blk w.heap.size with h'|h'
  ·exact h'
  ·rw[Array.getElem?_eq_none h']at hh;cases hh
 |resv=>
  have e:μ o=none:=this
  rw[hm]at e;cases e
theorem u1k.refl(w:World)(m:Option (Nat×Nat))(ob:Ob):u1k w w m m ob ob:=by
 cases ob with
 |arr g n b es=>exact⟨Nat.le_refl _,fun _=>⟨rfl,rfl,rfl,rfl,fun blk base c ty _ hh=>⟨c,hh,rfl⟩⟩⟩
 |mps=>exact⟨rfl,rfl⟩
 |mpi=>exact⟨rfl,rfl,rfl⟩
 |sit=>rfl
 |resv=>trivial
theorem u1k.trans{w w' w'':World}{m m' m'':Option (Nat×Nat)}{a b c:Ob}(h1:u1k w w' m m' a b)(h2:u1k w' w'' m' m'' b c):u1k w w'' m m'' a c:=by
 cases a with
 |resv=>cases c<;>trivial
 |mps=>cases b<;>cases c<;>simp_all [u1k]
 |mpi=>cases b<;>cases c<;>simp_all [u1k]
 |sit=>cases b<;>cases c<;>simp_all [u1k]
 |arr g n b1 es=>
  cases b with
  |resv=>exact h1.elim
  |mps=>exact h1.elim
  |mpi=>exact h1.elim
  |sit=>exact h1.elim
  |arr g' n' b' es'=>
   cases c with
   |resv=>exact h2.elim
   |mps=>exact h2.elim
   |mpi=>exact h2.elim
   |sit=>exact h2.elim
   |arr g'' n'' b'' y3W=>
    obtain⟨l1,k1⟩:=h1
    obtain⟨l2,k2⟩:=h2
    refine⟨Nat.le_trans l1 l2,fun e=>?_⟩
    have e1:g=g':=by omega
    have e2:g'=g'':=by omega
    obtain⟨a1,a2,a3,a4,a5⟩:=k1 e1
    obtain⟨b1,b2,b3,b4,b5⟩:=k2 e2
    refine⟨b1.trans a1,b2.trans a2,b3.trans a3,b4.trans a4,fun blk base c ty hm hh=>?_⟩
    obtain⟨c',hc',hs'⟩:=a5 blk base c ty hm hh
    obtain⟨c'',hc'',y1L⟩:=b5 blk base c' ty (a4.trans hm) hc'
    exact⟨c'',hc'',y1L.trans hs'⟩
theorem Step.refl(w:World)(μ:Mu)(st:St):Step w μ st w μ st:=
 ⟨Nat.le_refl _,rfl,rfl,⟨rfl,Nat.le_refl _⟩,fun _ _ _=>rfl,fun _ h=>.inl h,Nat.le_refl _,fun _ ob' _ h=>⟨ob',h,u1k.refl _ _ _⟩⟩
theorem Step.trans{w w' w'':World}{μ μ' μ'':Mu}{st st' w8P:St}(h1:Step w μ st w' μ' st')(h2:Step w' μ' st' w'' μ'' w8P):Step w μ st w'' μ'' w8P where
 size:=Nat.le_trans h1.size h2.size
 os:=h2.os.trans h1.os
 output:=h2.output.trans h1.output
 tape:=⟨h2.tape.1.trans h1.tape.1,Nat.le_trans h1.tape.2 h2.tape.2⟩
 imm:=fun blk hb hn=>(h2.imm blk (Nat.lt_of_lt_of_le hb h1.size) (fun ho=>by
  rcases h1.own blk ho with h|h
  ·exact hn h
  ·omega)).trans (h1.imm blk hb hn)
 own:=fun blk ho=>by
  rcases h2.own blk ho with h|h
  ·exact h1.own blk h
  ·exact .inr (Nat.le_trans h1.size h)
 len:=Nat.le_trans h1.len h2.len
 keep:=fun o y1M ho h=>by
  obtain⟨ob',h',s'⟩:=h2.keep o y1M (Nat.lt_of_lt_of_le ho h1.len) h
  obtain⟨ob,h0,s0⟩:=h1.keep o ob' ho h'
  exact⟨ob,h0,s0.trans s'⟩
theorem TR.step{w w':World}{μ μ':Mu}{st st':St}{v:Value}{d:D}(h:TR w (own μ st) v d)(s:Step w μ st w' μ' st'):TR w' (own μ' st') v d:=
 h.mono (fun blk hb hn=>⟨s.imm blk hb hn,fun ho=>by
  rcases s.own blk ho with h|h
  ·exact hn h
  ·omega⟩) s.size
theorem u6D.step{w w':World}{m m':Option (Nat×Nat)}{n g b:Nat}{es es':List (List D)}{full:Bool}{off len:Nat}{v:Value}{n' b':Nat}
 (h:u6D w m n es full off len v) (k:u1k w w' m m' (.arr g n b es) (.arr g n' b' es')):u6D w' m' n' es' full off len v:=by
 obtain⟨_,k⟩:=k
 obtain⟨rfl,rfl,k3,rfl,k5⟩:=k rfl
 obtain⟨a,cap,e1,e2,e3,ef,e4⟩:=h
 refine⟨a,cap,e1,e2,by omega,ef,?_⟩
 rcases e4 with e4|⟨blk,base,em,ea,c,ty,hh,hs⟩
 ·exact .inl e4
 ·obtain⟨c',hc',hs'⟩:=k5 blk base c ty em hh
  exact .inr ⟨blk,base,em,ea,c',ty,hc',by omega⟩
theorem u9C{w w':World}{μ μ':Mu}{st st':St}(s:Step w μ st w' μ' st'){o:Nat}(ho:o<st.length)
 (hr:st[o]? ≠some (some .resv)):st'[o]? ≠some (some .resv):=fun e=>by
 obtain⟨ob,h,k⟩:=s.keep o .resv ho e
 cases ob with
 |resv=>exact hr h
 |arr=>exact k.elim
 |mps=>exact k.elim
 |mpi=>exact k.elim
 |sit=>exact k.elim
theorem VR.step{w w':World}{μ μ':Mu}{st st':St}{v:Value}{d:D}(h:VR w μ st v d)(s:Step w μ st w' μ' st'):VR w' μ' st' v d:=by
 induction h with
 |any v=>exact .any v
 |tr h=>exact .tr (h.step s)
 |agg vs cs hs hc ih=>exact .agg vs cs hs ih
 |tup vs cs hs hc ih=>exact .tup vs cs hs ih
 |fn f vf vc first cap hf hc hfc hcc ih1 ih2=>exact .fn f vf vc first cap hf hc ih1 ih2
 |ref v full o g off len hv ho hr hg h=>
  have back:∀g' n b es,st'[o]? =some (some (.arr g' n b es))→∃g0 n0 b0 es0,st[o]? =some (some (.arr g0 n0 b0 es0))∧u1k w w' (μ o) (μ' o) (.arr g0 n0 b0 es0) (.arr g' n b es):=by
   intro g' n b es e
   obtain⟨ob,h0,k⟩:=s.keep o _ ho e
   cases ob with
   |arr g0 n0 b0 es0=>exact⟨g0,n0,b0,es0,h0,k⟩
   |mps=>exact k.elim
   |mpi=>exact k.elim
   |sit=>exact k.elim
   |resv=>exact absurd h0 hr
  refine .ref v full o g off len hv (Nat.lt_of_lt_of_le ho s.len) (u9C s ho hr) (fun g' n b es e=>?_) (fun n b es e=>?_)
  ·obtain⟨g0,n0,b0,es0,h0,k⟩:=back g' n b es e
   exact Nat.le_trans (hg g0 n0 b0 es0 h0) k.1
  ·obtain⟨g0,n0,b0,es0,h0,k⟩:=back g n b es e
   have e1:g0=g:=Nat.le_antisymm k.1 (hg g0 n0 b0 es0 h0)
   subst e1
   exact(h n0 b0 es0 h0).step k
 |ptr v o g i c hv ho hr hg h=>
  have back:∀g' n b es,st'[o]? =some (some (.arr g' n b es))→∃g0 n0 b0 es0,st[o]? =some (some (.arr g0 n0 b0 es0))∧u1k w w' (μ o) (μ' o) (.arr g0 n0 b0 es0) (.arr g' n b es):=by
   intro g' n b es e
   obtain⟨ob,h0,k⟩:=s.keep o _ ho e
   cases ob with
   |arr g0 n0 b0 es0=>exact⟨g0,n0,b0,es0,h0,k⟩
   |mps=>exact k.elim
   |mpi=>exact k.elim
   |sit=>exact k.elim
   |resv=>exact absurd h0 hr
  refine .ptr v o g i c hv (Nat.lt_of_lt_of_le ho s.len) (u9C s ho hr) (fun g' n b es e=>?_) (fun n b es e=>?_)
  ·obtain⟨g0,n0,b0,es0,h0,k⟩:=back g' n b es e
   exact Nat.le_trans (hg g0 n0 b0 es0 h0) k.1
  ·obtain⟨g0,n0,b0,es0,h0,k⟩:=back g n b es e
   have e1:g0=g:=Nat.le_antisymm k.1 (hg g0 n0 b0 es0 h0)
   subst e1
   obtain⟨_,k⟩:=k
   obtain⟨rfl,rfl,k3,k4,k5⟩:=k rfl
   obtain⟨blk,base,em,ev⟩:=h _ _ _ h0
   exact⟨blk,base,k4.trans em,ev⟩
 |mp v o hv ho hr h1 h2=>
  refine .mp v o hv (Nat.lt_of_lt_of_le ho s.len) (u9C s ho hr) (fun ag es e=>?_) (fun ag kk es e=>?_)
  ·obtain⟨ob,h0,k⟩:=s.keep o _ ho e
   cases ob with
   |arr=>exact k.elim
   |mps ag0 es0=>
    obtain⟨blk,em,ev⟩:=h1 ag0 es0 h0
    exact⟨blk,(show μ' o=μ o from k.2).trans em,ev⟩
   |mpi=>exact k.elim
   |sit=>exact k.elim
   |resv=>exact absurd h0 hr
  ·obtain⟨ob,h0,k⟩:=s.keep o _ ho e
   cases ob with
   |arr=>exact k.elim
   |mpi ag0 k0 es0=>
    obtain⟨blk,em,ev⟩:=h2 ag0 k0 es0 h0
    exact⟨blk,(show μ' o=μ o from k.2.2).trans em,ev⟩
   |mps=>exact k.elim
   |sit=>exact k.elim
   |resv=>exact absurd h0 hr
 |it v o hv ho hr h=>
  refine .it v o hv (Nat.lt_of_lt_of_le ho s.len) (u9C s ho hr) (fun s0 p e=>?_)
  obtain⟨ob,h0,k⟩:=s.keep o _ ho e
  cases ob with
  |arr=>exact k.elim
  |mps=>exact k.elim
  |mpi=>exact k.elim
  |sit s1 p1=>
   obtain⟨blk,em,ev⟩:=h s1 p1 h0
   exact⟨blk,(show μ' o=μ o from k).trans em,ev⟩
  |resv=>exact absurd h0 hr
 |cond v g d h h0 ih=>exact .cond v g d ih h0
theorem w8J.step{ag:Bool}{w w':World}{μ μ':Mu}{st st':St}{v:Value}{cs:List D}(h:w8J ag w μ st v cs)(s:Step w μ st w' μ' st'):w8J ag w' μ' st' v cs:=by
 cases ag with
 |true=>exact VR.step h s
 |false=>
  obtain⟨d,e,h⟩:=h
  exact⟨d,e,h.step s⟩
theorem ObR.step{w w':World}{μ μ':Mu}{st st':St}{m:Option (Nat×Nat)}{ob:Ob}(h:ObR w μ st m ob)(s:Step w μ st w' μ' st')
 (hb:∀blk base,m=some (blk,base)→w'.heap[blk]? =w.heap[blk]?):ObR w' μ' st' m ob:=by
 cases ob with
 |arr g n b es=>
  obtain⟨h1,h2,h3⟩:=(h:u6V w μ st m n b es)
  refine(⟨h1,h2,?_⟩:u6V w' μ' st' m n b es)
  rcases h3 with h3|⟨blk,base,c,ty,em,hh,hsz,hc⟩
  ·exact .inl h3
  ·refine .inr ⟨blk,base,c,ty,em,(hb blk base em).trans hh,hsz,fun i j hi hj=>?_⟩
   obtain⟨v,e,hv,h1⟩:=hc i j hi hj
   exact⟨v,e,hv.step s,h1⟩
 |mps ag es=>
  obtain⟨blk,ents,clock,ez,em,hh,hsz,hc,hx⟩:=(h:u6c _ ag w μ st m es).loc
  refine(⟨⟨blk,ents,clock,ez,em,(hb blk 0 em).trans hh,hsz,fun i hi=>?_,hx⟩⟩:u6c _ ag w' μ' st' m es)
  obtain⟨e,e1,e2,e3⟩:=hc i hi
  exact⟨e,e1,e2,e3.step s⟩
 |mpi ag k es=>
  obtain⟨blk,ents,clock,ez,em,hh,hsz,hc,hx⟩:=(h:u6c _ ag w μ st m es).loc
  refine(⟨⟨blk,ents,clock,ez,em,(hb blk 0 em).trans hh,hsz,fun i hi=>?_,hx⟩⟩:u6c _ ag w' μ' st' m es)
  obtain⟨e,e1,e2,e3⟩:=hc i hi
  exact⟨e,e1,e2,e3.step s⟩
 |sit t p=>
  obtain⟨blk,em,hh⟩:=h
  exact⟨blk,em,(hb blk 0 em).trans hh⟩
 |resv=>exact h
theorem x4d{μ μ':Mu}{st:St}{o:Nat}{x:Option Ob}{blk:Nat}(hμ:∀o',o'≠o→μ' o'=μ o')(h:own μ' (st.set o x) blk):
 (∃o' ob base,o'≠o∧st[o']? =some (some ob)∧μ o'=some (blk,base))∨(∃ob base,x=some ob∧μ' o=some (blk,base)):=by
 obtain⟨o',ob,base,ho,hm⟩:=h
 by_cases e:o'=o
 ·subst e
  rw[List.getElem?_set]at ho
  simp only[if_true]at ho
  split at ho
  ·cases ho;exact .inr ⟨ob,base,rfl,hm⟩
  ·cases ho
 ·rw[List.getElem?_set_ne (Ne.symm e)]at ho
  exact .inl ⟨o',ob,base,e,ho,(hμ o' e)▸hm⟩
theorem u1L{w w':World}{μ μ':Mu}{st:St}{o:Nat}{ob ob':Ob}(hs:Sim w μ st)(ho:st[o]? =some (some ob))
 (hμ:∀o',o'≠o→μ' o'=μ o')
 (u1v:∀blk,blk<w.heap.size→(∀base,μ o≠some (blk,base))→w'.heap[blk]? =w.heap[blk]?)
 (hsize:w.heap.size≤w'.heap.size) (hos:w'.os=w.os) (hout:w'.output=w.output) (x9s:w'.tape=w.tape∧w.drawn≤w'.drawn)
 (hblk:∀blk base,μ' o=some (blk,base)→(∃b0,μ o=some (blk,b0))∨w.heap.size≤blk)
 (hstep:u1k w w' (μ o) (μ' o) ob ob')
 (hob:Step w μ st w' μ' (st.set o (some ob'))→ObR w' μ' (st.set o (some ob')) (μ' o) ob'):
 Sim w' μ' (st.set o (some ob'))∧Step w μ st w' μ' (st.set o (some ob')):=by
 have hlt:o<st.length:=(List.getElem?_eq_some_iff.1 ho).1
 have other:∀o' ob1 blk base,o'≠o→st[o']? =some (some ob1)→μ o'=some (blk,base)→w'.heap[blk]? =w.heap[blk]? :=by
  intro o' ob1 blk base hne h1 hm
  refine u1v blk (w1R hs ⟨o',ob1,base,h1,hm⟩) (fun b0 h0=>hne ?_)
  exact hs.inj o' o ob1 ob blk base b0 h1 ho hm h0
 have step:Step w μ st w' μ' (st.set o (some ob')):=by
  refine⟨hsize,hos,hout,x9s,fun blk hb hn=>u1v blk hb (fun base e=>hn ⟨o,ob,base,ho,e⟩),fun blk hw=>?_,by simp,fun o' ob1 hl h1=>?_⟩
  ·rcases x4d hμ hw with⟨o',ob1,base,hne,h1,hm⟩|⟨ob1,base,_,hm⟩
   ·exact .inl ⟨o',ob1,base,h1,hm⟩
   ·rcases hblk blk base hm with⟨b0,h0⟩|h
    ·exact .inl ⟨o,ob,b0,ho,h0⟩
    ·exact .inr h
  ·by_cases e:o'=o
   ·subst e
    rw[List.getElem?_set_self hlt]at h1
    cases h1
    exact⟨ob,ho,hstep⟩
   ·rw[List.getElem?_set_ne (Ne.symm e)]at h1
    refine⟨ob1,h1,?_⟩
    rw[hμ o' e]
    cases ob1 with
    |arr g n b es=>
     exact⟨Nat.le_refl _,fun _=>⟨rfl,rfl,rfl,rfl,fun blk base c ty hm hh=>⟨c,(other o' _ blk base e h1 hm).trans hh,rfl⟩⟩⟩
    |mps=>exact⟨rfl,rfl⟩
    |mpi=>exact⟨rfl,rfl,rfl⟩
    |sit=>rfl
    |resv=>trivial
 refine⟨⟨fun o' ob1 h1=>?_,fun o1 o2 ob1 ob2 blk b1 b2 h1 h2 m1 m2=>?_⟩,step⟩
 ·by_cases e:o'=o
  ·subst e
   rw[List.getElem?_set_self hlt]at h1
   cases h1
   exact hob step
  ·rw[List.getElem?_set_ne (Ne.symm e)]at h1
   rw[hμ o' e]
   exact(hs.obj o' ob1 h1).step step (fun blk base hm=>other o' ob1 blk base e h1 hm)
 ·by_cases e1:o1=o
  ·by_cases e2:o2=o
   ·rw[e1,e2]
   ·subst e1
    rw[List.getElem?_set_ne (Ne.symm e2)]at h2
    rw[hμ o2 e2]at m2
    rcases hblk blk b1 m1 with⟨b0,h0⟩|h
    ·exact hs.inj _ _ ob ob2 blk b0 b2 ho h2 h0 m2
    ·exact absurd (w1R hs ⟨o2,ob2,b2,h2,m2⟩) (by omega)
  ·rw[List.getElem?_set_ne (Ne.symm e1)]at h1
   rw[hμ o1 e1]at m1
   by_cases e2:o2=o
   ·subst e2
    rcases hblk blk b2 m2 with⟨b0,h0⟩|h
    ·exact hs.inj _ _ ob1 ob blk b1 b0 h1 ho m1 h0
    ·exact absurd (w1R hs ⟨o1,ob1,b1,h1,m1⟩) (by omega)
   ·rw[List.getElem?_set_ne (Ne.symm e2)]at h2
    rw[hμ o2 e2]at m2
    exact hs.inj _ _ ob1 ob2 blk b1 b2 h1 h2 m1 m2
def upd(μ:Mu)(o:Nat)(m:Option (Nat×Nat)):Mu:=fun o'=>if o'=o then m else μ o'
theorem r5Z(μ:Mu)(o:Nat)(m:Option (Nat×Nat)):upd μ o m o=m:=by simp[upd]
theorem r8S(μ:Mu)(o:Nat)(m:Option (Nat×Nat)){o':Nat}(h:o'≠o):upd μ o m o'=μ o':=by simp[upd,h]
theorem u9D{w:World}{μ:Mu}{st:St}(hs:Sim w μ st):
 Sim w (upd μ st.length none) (st++[some .resv])∧Step w μ st w (upd μ st.length none) (st++[some .resv]):=by
 have look:∀o ob,(st++[some Ob.resv])[o]? =some (some ob)→(o<st.length∧st[o]? =some (some ob))∨(o=st.length∧ob= .resv):=by
  intro o ob h
  rcases Nat.lt_or_ge o st.length with hl|hl
  ·rw[List.getElem?_append_left hl]at h;exact .inl ⟨hl,h⟩
  ·rw[List.getElem?_append_right hl]at h
   have:o-st.length=0:=by
    rcases Nat.eq_zero_or_pos (o-st.length)with h0|h0
    ·exact h0
    ·rw[List.getElem?_eq_none (by simp;omega)]at h;cases h
   rw[this]at h
   simp at h
   exact .inr ⟨by omega,h.symm⟩
 have step:Step w μ st w (upd μ st.length none) (st++[some .resv]):=by
  refine⟨Nat.le_refl _,rfl,rfl,⟨rfl,Nat.le_refl _⟩,fun _ _ _=>rfl,fun blk hw=>?_,by simp,fun o ob hl h=>?_⟩
  ·obtain⟨o,ob,base,h,hm⟩:=hw
   rcases look o ob h with⟨hl,h⟩|⟨e,_⟩
   ·rw[r8S μ _ _ (by omega)]at hm;exact .inl ⟨o,ob,base,h,hm⟩
   ·subst e;rw[r5Z]at hm;cases hm
  ·rw[List.getElem?_append_left hl]at h
   refine⟨ob,h,?_⟩
   rw[r8S μ _ _ (by omega)]
   exact u1k.refl _ _ _
 refine⟨⟨fun o ob h=>?_,fun o1 o2 ob1 ob2 blk b1 b2 h1 h2 m1 m2=>?_⟩,step⟩
 ·rcases look o ob h with⟨hl,h⟩|⟨e,e2⟩
  ·rw[r8S μ _ _ (by omega)]
   exact(hs.obj o ob h).step step (fun _ _ _=>rfl)
  ·subst e;subst e2;exact r5Z _ _ _
 ·rcases look o1 ob1 h1 with⟨l1,h1⟩|⟨e,_⟩
  ·rcases look o2 ob2 h2 with⟨l2,h2⟩|⟨e,_⟩
   ·rw[r8S μ _ _ (by omega)]at m1 m2
    exact hs.inj _ _ _ _ _ _ _ h1 h2 m1 m2
   ·subst e;rw[r5Z]at m2;cases m2
  ·subst e;rw[r5Z]at m1;cases m1
theorem u3K{w:World}{o:Obj}{blk:Nat}(h:blk<w.heap.size):(w.alloc o).heap[blk]? =w.heap[blk]? :=by
 simp only[World.alloc,Array.getElem?_push]
 rw[if_neg (by omega)]
theorem heap_alloc_new(w:World)(o:Obj):(w.alloc o).heap[w.heap.size]? =some o:=by
 show(w.heap.push o)[w.heap.size]? =some o
 simp
theorem u3L{w:World}{μ:Mu}{st:St}{q:Nat}{x:Obj}{ob:Ob}(hs:Sim w μ st)(hq:st[q]? =some (some .resv))
 (hob:Step w μ st (w.alloc x) (upd μ q (some (w.heap.size,0))) (st.set q (some ob))→
  ObR (w.alloc x) (upd μ q (some (w.heap.size,0))) (st.set q (some ob)) (some (w.heap.size,0)) ob):
 Sim (w.alloc x) (upd μ q (some (w.heap.size,0))) (st.set q (some ob))∧Step w μ st (w.alloc x) (upd μ q (some (w.heap.size,0))) (st.set q (some ob)):=by
 refine u1L hs hq (fun o' h=>r8S _ _ _ h) (fun blk hb _=>u3K hb) (by simp) rfl rfl ⟨rfl,Nat.le_refl _⟩ (fun blk base e=>?_) trivial (fun s=>by rw[r5Z];exact hob s)
 rw[r5Z]at e;cases e;exact .inr (Nat.le_refl _)
theorem u8l{w:World}{μ:Mu}{st:St}{q g n b:Nat}{es:List (List D)}{cells:Array Value}{ty:TypeId}
 (w3P:∀i j (hi:i<es.length) (hj:j<(es[i]).length),∃v,cells[i*n+j]? =some v∧VR w μ st v ((es[i])[j])∧v.oneCell'=true)
 (hsz:es.length*n≤cells.size) (hn:∀e∈es,e.length=n) (hb:es.length*b≤top)
 (s:Step w μ st (w.alloc (.cells cells ty)) (upd μ q (some (w.heap.size,0))) (st.set q (some (.arr g n b es)))):
 ObR (w.alloc (.cells cells ty)) (upd μ q (some (w.heap.size,0))) (st.set q (some (.arr g n b es))) (some (w.heap.size,0)) (.arr g n b es):=by
 refine(⟨hb,hn,.inr ⟨w.heap.size,0,cells,ty,rfl,heap_alloc_new _ _,by omega,fun i j hi hj=>?_⟩⟩:u6V _ _ _ _ _ _ _)
 obtain⟨v,e,hv,h1⟩:=w3P i j hi hj
 exact⟨v,by rw[Nat.zero_add];exact e,hv.step s,h1⟩
inductive TK where
 |none
 |slice (e:Nat)
 |str
 |struct (fs:List (Nat×Nat×Bool))
 |arr (len e:Nat)
 |map (k e:Nat)
 |ptr (e:Nat)
 |int (k:IntKind)
 |bool
 |other
structure TI where
 size:Nat
 bytes:Nat
 zero:List D
 dfl:List D
 zv:Option D
 k:TK
def TK.agg:TK→Bool
 | .struct _| .arr _ _=>true
 | _=>false
def u6W:Value→D
 | .bool b=>.bool b
 | .int k n=>.int k n
 | .string s=>.str s.data.toList
 | .pointer none=>.u6b
 | .slice a l c=>if a=none∧l=0∧c=0 then .r5g else .any
 | .nilFunc=>.u3I
 | .map none=>.u4v
 | .func (.func f) a c=>if a.size=0∧c.size=0 then .fn f [] []else .any
 | _=>.any
def x1K:Value→D
 | .agg cs=>.agg (cs.toList.map u6W)
 |v=>u6W v
def u2p:Option TypeDesc→Bool
 |some (.struct _)|some (.array _ _)=>true
 | _=>false
def fsz(P:Program)(t:TypeId):Nat:=
 match P.info? t,P.underlying t with
 |some i,some _=>i.size
 | _,_=>0
def kindOf(P:Program):Option TypeDesc→TK
 |some (.slice e)=>.slice e
 |some .string=>.str
 |some (.struct fs)=>.struct (fs.toList.map fun f=>(f.offset,fsz P f.type,u2p (P.underlying f.type)))
 |some (.array n e)=>.arr n e
 |some (.map k e)=>.map k e
 |some (.pointer e)=>.ptr e
 |some (.int k)=>.int k
 |some .bool=>.bool
 |some _=>.other
 |Option.none=>.none
def fby(P:Program)(t:TypeId):Nat:=
 match P.info? t with
 |some i=>i.bytes
 |Option.none=>0
def w2x(P:Program):Nat→TypeId→List D
 |0,_=>[]
 |n+1,t=>match P.underlying t with
  |some (.slice e)=>[.sl false (fsz P e) (fby P e) []]
  |some (.struct fs)=>(fs.toList.map fun f=>w2x P n f.type).flatten
  |some (.array m e)=>(List.replicate (if m≤64 then m else 0) (w2x P n e)).flatten
  | _=>match P.info? t with
   |some i=>(i.zero.map fun v=>v.cells.toList.map u6W).getD []
   |Option.none=>[]
def r5c(P:Program)(t:TypeId):TI:=
 match P.info? t with
 |some i=>{ size:=i.size,bytes:=i.bytes,zero:=(i.zero.map fun v=>v.cells.toList.map u6W).getD [],dfl:=w2x P 12 t,zv:=i.zero.map x1K,k:=kindOf P (P.underlying t) }
 |Option.none=>{ size:=0,bytes:=0,zero:=[],dfl:=[],zv:=none,k:=.none }
abbrev Fr:=List (Nat×D)
def Fr.get:Fr→Nat→D
 | [],_=>.any
 |(k,d)::r,t=>if k=t then d else Fr.get r t
def Fr.put:Fr→Nat→D→Fr
 | [],t,d=>[(t,d)]
 |(k,e)::r,t,d=>if k=t then(k,d)::r else(k,e)::Fr.put r t d
def Fr.u5c(fr:Fr):Option Nat→D→Fr
 |none,_=>fr
 |some t,d=>fr.put t d
def Fr.only(keep:List Nat):Fr→Fr
 | []=>[]
 |(k,d)::r=>if keep.contains k then(k,d)::Fr.only keep r else Fr.only keep r
structure Gl where
 tab:Nat→Option (List D)
 imm:TypeId→Bool
 whole:Nat→Option (Array Value):=fun _=>none
instance:CoeFun Gl (fun _=>Nat→Option (List D)):=⟨Gl.tab⟩
def ev(G:Gl)(fr:Fr):Operand→D
 | .tmp t=>fr.get t
 | .const v=>x1K v
 | .global g=>match G g with
  |some cs=>.u8j cs
  |none=>.any
 | .func f=>.fn f [] []
structure LR where
 d:D
 ok:Prop
 rd:List Nat:=[]
 up:Option (Nat×Ob):=none
 new:Option Ob:=none
def LR.bad:LR:={ d:=.any,ok:=False }
def mkv(agg:Bool)(cs:List D):D:=if agg then .agg cs else cs.headD .any
def D.one:D→Bool
 | .any| .agg _| .tup _| .cond _ _=>false
 | _=>true
abbrev Look:=Nat→Option Ob
def look(st:St):Look:=fun o=>(st[o]?).join
def w1C(i:TI)(lk:Look):D→LR
 | .ptr o g k c=>match lk o with
  |some (.arr g' n _ es)=>{ d:=mkv i.k.agg (((es.getD k []).drop c).take i.size),ok:=g'=g∧k<es.length∧c+i.size≤n∧(i.k.agg=false→i.size=1),rd:=[o] }
  | _=>.bad
 | .u8j cs=>{ d:=mkv i.k.agg (cs.take i.size),ok:=i.size≤cs.length∧(i.k.agg=false→i.size=1) }
 | _=>.bad
def cellsOf(i:TI)(x:D):List D:=if i.k.agg then(match x with| .agg cs=>cs| _=>[])else [x]
def u3v(i:TI)(x:D):Prop:=
 if i.k.agg then(match x with| .agg cs=>cs.length=i.size∧cs.all D.one=true| _=>False)else(x.one=true∧i.size=1)
def splice(cs:List D)(c:Nat)(new:List D):List D:=cs.take c++new++cs.drop (c+new.length)
def u6X(i:TI)(lk:Look)(x:D):D→LR
 | .ptr o g k c=>match lk o with
  |some (.arr g' n b es)=>{ d:=.any,ok:=g'=g∧k<es.length∧c+i.size≤n∧u3v i x,rd:=[o],up:=some (o,.arr g' n b (es.set k (splice (es.getD k []) c (cellsOf i x)))) }
  | _=>.bad
 | _=>.bad
def x6D(i:TI)(q:Nat)(x:D):LR:=
 { d:=.ptr q 0 0 0,ok:=u3v i x,new:=some (.arr 0 i.size 0 [cellsOf i x]) }
def w1S(i:TI)(q:Nat):LR:=
 { d:=.ptr q 0 0 0,ok:=i.zero.length=i.size∧i.size≠0∧i.zero.all D.one=true,new:=some (.arr 0 i.size 0 [i.zero]) }
def u0w(i:TI)(f:Nat):D→LR
 | .ptr o g k c=>match i.k with
  | .struct fs=>match fs[f]? with
   |some (off,sz,_)=>{ d:=.ptr o g k (c+off),ok:=sz≠0 }
   |none=>.bad
  | _=>.bad
 | .u8j cs=>match i.k with
  | .struct fs=>match fs[f]? with
   |some (off,sz,_)=>{ d:=.u8j (cs.drop off),ok:=sz≠0∧off<cs.length }
   |none=>.bad
  | _=>.bad
 | _=>.bad
def u7y(i:TI)(f:Nat):D→LR
 | .agg cs=>match i.k with
  | .struct fs=>match fs[f]? with
   |some (off,sz,ag)=>{ d:=mkv ag ((cs.drop off).take sz),ok:=off+sz≤cs.length∧sz≠0∧(ag=false→sz=1) }
   |none=>.bad
  | _=>.bad
 | _=>.bad
def rowAt(cs:List D)(k n:Nat):List D:=(cs.drop (k*n)).take n
theorem w8b(a:D)(cs:List D)(k n:Nat):rowAt (a::cs) k n=((a::cs).drop (k*n)).take n:=rfl
def r7B(i:TI)(e:TI)(lk:Look)(x:D):D→LR
 | .int _ m=>match i.k,x with
  | .slice _,.sl _ n _ es=>{ d:=.u8j (es.getD m.toNat e.dfl),ok:=0≤m∧m<es.length∧n=e.size∧e.size≠0 }
  | .slice _,.ref _ o g off len=>match lk o with
   |some (.arr g' n _ es)=>{ d:=.ptr o g (off+m.toNat) 0,ok:=0≤m∧m<len∧g'=g∧n=e.size∧off+len≤es.length∧e.size≠0,rd:=[o] }
   | _=>.bad
  | .arr len _,.ptr o g k c=>{ d:=.ptr o g k (c+m.toNat*e.size),ok:=0≤m∧m<len∧2≤len∧e.size≠0 }
  | .arr len _,.u8j cs=>{ d:=.u8j (rowAt cs m.toNat e.size),ok:=0≤m∧m<len∧2≤len∧e.size≠0 }
  | _,_=>.bad
 | _=>.bad
def r6p(s:Bs)(i:Int):Int:=((s.getD i.toNat 0).toNat:Int)
def u4E(i:TI)(e:TI)(x:D):D→LR
 | .int _ m=>match i.k,x with
  | .str,.str s=>{ d:=.int .u8 (r6p s m),ok:=0≤m∧m<s.length }
  | .arr len _,.agg cs=>{ d:=mkv e.k.agg ((cs.drop (m.toNat*e.size)).take e.size),ok:=0≤m∧m<len∧m.toNat*e.size+e.size≤cs.length∧e.k≠ .none∧(e.k.agg=false→e.size=1) }
  | _,_=>.bad
 | _=>.bad
def w3Q(cs:List D):List (Nat×List D)→List D
 | []=>cs
 |(off,new)::r=>w3Q (splice cs off new) r
theorem r5w{st:St}{o:Nat}{ob:Ob}(h:look st o=some ob):st[o]? =some (some ob):=by
 unfold look at h
 cases e:st[o]? with
 |none=>rw[e]at h;cases h
 |some x=>rw[e]at h;cases x with
  |none=>cases h
  |some y=>cases h;rfl
theorem u5d(b o j:Nat):(⟨b,o,none⟩:Addr).add j=⟨b,o+j,none⟩:=by unfold Addr.add;split<;>simp_all
theorem u6E{P:Program}{t:TypeId}(h:(r5c P t).k≠ .none):∃inf u,P.info? t=some inf∧P.underlying t=some u∧
 (r5c P t).size=inf.size∧(r5c P t).bytes=inf.bytes∧(r5c P t).k=kindOf P (some u)∧(r5c P t).zero=(inf.zero.map fun v=>v.cells.toList.map u6W).getD []:=by
 unfold r5c at*
 cases hi:P.info? t with
 |none=>rw[hi]at h;exact absurd rfl h
 |some inf=>
  rw[hi]at h
  cases hu:P.underlying t with
  |none=>rw[hu]at h;exact absurd rfl h
  |some u=>exact⟨inf,u,rfl,rfl,rfl,rfl,rfl,rfl⟩
theorem w1T(P:Program)(u:TypeDesc):(kindOf P (some u)).agg=u2p (some u):=by cases u<;>rfl
theorem r5V{P:Program}{t:TypeId}{inf:TypeInfo}(h:P.info? t=some inf)(w:World):(sizeOf t).run P w= .ok inf.size w:=by
 simp[sizeOf,typeInfo,h]
theorem u2h{P:Program}{t:TypeId}{u:TypeDesc}(h:P.underlying t=some u)(w:World):(isAgg t).run P w= .ok (u2p (some u)) w:=by
 cases u<;>simp[isAgg,run_underlying h,u2p]
def Reads(w:World)(μ:Mu)(st:St)(a:Addr)(cs:List D):Prop:=∀j (h:j<cs.length),∃v,w.cell? (a.add j)=some v∧VR w μ st v (cs[j])
theorem Reads.take{w:World}{μ:Mu}{st:St}{a:Addr}{cs:List D}(h:Reads w μ st a cs)(n:Nat):Reads w μ st a (cs.take n):=fun j hj=>by
 simp only[List.length_take]at hj
 obtain⟨v,e,hv⟩:=h j (by omega)
 exact⟨v,e,by simpa using hv⟩
theorem u7z{P:Program}{t:TypeId}{w:World}{μ:Mu}{st:St}{a:Addr}{cs:List D}(hr:Reads w μ st a cs)
 (hsz:(r5c P t).size=cs.length) (hk:(r5c P t).k≠ .none) (h1:(r5c P t).k.agg=false→(r5c P t).size=1):
 ∃v,(loadVar t a).run P w= .ok v w∧VR w μ st v (mkv (r5c P t).k.agg cs):=by
 obtain⟨inf,u,hi,hu,es,_,ek,_⟩:=u6E hk
 have ea:(r5c P t).k.agg=u2p (some u):=by rw[ek,w1T]
 rw[ea]at h1⊢
 have x5P:=u2h hu w
 cases hA:u2p (some u)with
 |false=>
  have hl:cs.length=1:=by rw[←hsz];exact h1 hA
  obtain⟨v,e,hv⟩:=hr 0 (by omega)
  have e0:a.add 0=a:=by simp[Addr.add]
  rw[e0]at e
  refine⟨v,?_,?_⟩
  ·simp[loadVar,x5P,hA,e]
  ·obtain⟨c,rfl⟩:=List.length_eq_one_iff.1 hl
   exact hv
 |true=>
  have hf:∀j,∃v,j<cs.length→w.cell? (a.add j)=some v∧∀h:j<cs.length,VR w μ st v (cs[j]):=fun j=>by
   by_cases hj:j<cs.length
   ·obtain⟨v,e,hv⟩:=hr j hj
    exact⟨v,fun _=>⟨e,fun _=>hv⟩⟩
   ·exact⟨undef,fun h=>absurd h hj⟩
  obtain⟨f,hf⟩:=Classical.axiomOfChoice hf
  have hl:=run_loadCells (P:=P) w a cs.length f (fun j hj=>(hf j hj).1)
  refine⟨.agg ((List.range cs.length).map f).toArray,?_,?_⟩
  ·simp[loadVar,x5P,hA,r5V hi, ←es,hsz,hl]
  ·refine .agg _ _ (by simp) (fun j hj=>?_)
   have:=(hf j hj).2 hj
   simpa[hj]using this
theorem w8Q{w:World}{μ:Mu}{st:St}{v:Value}{o g k c n b:Nat}{es:List (List D)}(hs:Sim w μ st)(hv:VR w μ st v (.ptr o g k c))
 (hl:look st o=some (.arr g n b es)) (hk:k<es.length):
 ∃blk base cells ty,v= .pointer (some ⟨blk,base+(k*n+c),none⟩)∧μ o=some (blk,base)∧w.heap[blk]? =some (.cells cells ty (0,0))∧
  base+es.length*n≤cells.size∧(es[k]).length=n∧∀j (hj:j<(es[k]).length),∃u,cells[base+(k*n+j)]? =some u∧VR w μ st u ((es[k])[j])∧u.oneCell'=true:=by
 have ho:=r5w hl
 obtain⟨hb,hn,x4e⟩:=(hs.obj o _ ho:u6V w μ st (μ o) n b es)
 cases hv with
 |tr h=>cases h
 |ptr _ _ _ _ _ _ _ _ _ h=>
  obtain⟨blk,base,em,ev⟩:=h n b es ho
  rcases x4e with⟨e,_⟩|⟨u8k,base',cells,ty,em',hh,hsz,hc⟩
  ·rw[em]at e;cases e
  ·rw[em]at em';cases em'
   exact⟨blk,base,cells,ty,ev,em,hh,hsz,hn _ (List.getElem_mem hk),fun j hj=>hc k j hk hj⟩
theorem getD_eq{es:List (List D)}{k:Nat}(h:k<es.length):es.getD k []=es[k]:=by simp[List.getD,h]
theorem w8R{w:World}{μ:Mu}{st:St}{v:Value}{o g k c n b:Nat}{es:List (List D)}(hs:Sim w μ st)(hv:VR w μ st v (.ptr o g k c))
 (hl:look st o=some (.arr g n b es)) (hk:k<es.length):∃a,v= .pointer (some a)∧Reads w μ st a ((es.getD k []).drop c):=by
 obtain⟨blk,base,cells,ty,ev,em,hh,hsz,hlen,hc⟩:=w8Q hs hv hl hk
 refine⟨_,ev,fun j hj=>?_⟩
 rw[getD_eq hk]at hj
 simp only[List.length_drop]at hj
 obtain⟨u,eu,hu,_⟩:=hc (c+j) (by omega)
 refine⟨u,?_,?_⟩
 ·rw[u5d]
  simp only[World.cell?, hh]
  rw[show base+(k*n+c)+j=base+(k*n+(c+j))by omega]
  simpa using eu
 ·simp only[getD_eq hk,List.getElem_drop];exact hu
theorem w1U{w:World}{μ:Mu}{st:St}{v:Value}{cs:List D}(hv:VR w μ st v (.u8j cs)):∃a,v= .pointer (some a)∧Reads w μ st a cs:=by
 cases hv with
 |tr h=>
  cases h with
  |u8j _ blk off cv hblk hown ha hc=>
   refine⟨_,rfl,fun j hj=>⟨cv j,?_,.tr (hc j hj)⟩⟩
   rw[u5d];exact ha j hj
theorem w1V{P:Program}{t:TypeId}{w:World}{μ:Mu}{st:St}{va:Value}{a:D}(hs:Sim w μ st)(hv:VR w μ st va a)
 (hok:(w1C (r5c P t) (look st) a).ok) (y0L:(r5c P t).k≠ .none):
 ∃v,(Instr.loadAt t va).run P w= .ok v w∧VR w μ st v (w1C (r5c P t) (look st) a).d:=by
 cases a with
 |ptr o g k c=>
  simp only[w1C]at*
  cases hl:look st o with
  |none=>rw[hl]at hok;exact hok.elim
  |some ob=>
   rw[hl]at hok
   cases ob with
   |arr g' n b es=>
    obtain⟨rfl,hk,hcn,h1⟩:=hok
    obtain⟨ad,e,hr⟩:=w8R hs hv hl hk
    subst e
    have hlen:(es[k]).length=n:=by
     have ho:=r5w hl
     exact(hs.obj o _ ho:u6V w μ st (μ o) n b es).hn _ (List.getElem_mem hk)
    have:=u7z (P:=P) (t:=t) (hr.take (r5c P t).size) (by simp only[getD_eq hk,List.length_take,List.length_drop,hlen];omega) y0L h1
    obtain⟨v,e1,e2⟩:=this
    exact⟨v,by simpa[Instr.loadAt,Instr.sureAddr]using e1,e2⟩
   |mps=>exact hok.elim
   |mpi=>exact hok.elim
   |sit=>exact hok.elim
   |resv=>exact hok.elim
 |u8j cs=>
  obtain⟨hle,h1⟩:=hok
  obtain⟨ad,e,hr⟩:=w1U hv
  subst e
  obtain⟨v,e1,e2⟩:=u7z (P:=P) (t:=t) (hr.take (r5c P t).size) (by simp only[List.length_take];omega) y0L h1
  exact⟨v,by simpa[Instr.loadAt,Instr.sureAddr]using e1,e2⟩
 | _=>exact hok.elim
theorem one_cell{w:World}{μ:Mu}{st:St}{v:Value}{d:D}(h:VR w μ st v d)(h1:d.one=true):v.oneCell'=true:=by
 cases h with
 |any=>simp[D.one]at h1
 |tr h=>cases h<;>first|rfl|(simp[D.one]at h1)
 |agg=>simp[D.one]at h1
 |tup=>simp[D.one]at h1
 |fn=>rfl
 |ref _ _ _ _ _ _ hv=>obtain⟨a,l,c,rfl⟩:=hv;rfl
 |ptr _ _ _ _ _ hv=>obtain⟨a,rfl⟩:=hv;rfl
 |mp _ _ hv=>obtain⟨a,rfl⟩:=hv;rfl
 |it _ _ hv=>obtain⟨a,rfl⟩:=hv;rfl
 |cond=>simp[D.one]at h1
theorem u7f{w:World}{μ:Mu}{st:St}{v:Value}{i:TI}{x:D}(h:VR w μ st v x)(hok:u3v i x):
 v.cells.size=i.size∧(cellsOf i x).length=i.size∧(∀j (hj:j<(cellsOf i x).length),∃u,v.cells[j]? =some u∧VR w μ st u ((cellsOf i x)[j])∧u.oneCell'=true):=by
 unfold u3v at hok
 unfold cellsOf
 split at hok
 ·rename_i x5P
  cases x with
  |agg cs=>
   obtain⟨hl,hall⟩:=hok
   simp only[x5P,if_true]
   cases h with
   |tr h=>cases h
   |agg vs _ hsz hc=>
    refine⟨by simpa[Value.cells,hsz]using hl,hl,fun j hj=>?_⟩
    have hv:=hc j hj
    have hjs:j<vs.size:=by omega
    refine⟨vs[j],by simp[Value.cells,hjs],by simpa[hjs]using hv,one_cell (by simpa[hjs]using hv) ?_⟩
    exact List.all_eq_true.1 hall _ (List.getElem_mem hj)
  | _=>exact hok.elim
 ·rename_i x5P
  obtain⟨h1,hsz⟩:=hok
  have x3t:=one_cell h h1
  have hcs:v.cells= #[v]:=by cases v<;>first|rfl|(simp[Value.oneCell']at x3t)
  simp only[x5P]
  refine⟨by rw[hcs,hsz];rfl,by simp[hsz],fun j hj=>?_⟩
  simp at hj
  subst hj
  exact⟨v,by rw[hcs];rfl,by simpa using h,x3t⟩
theorem r7D{P:Program}{t:TypeId}(h:(r5c P t).size≠0):∃inf,P.info? t=some inf∧(r5c P t).size=inf.size:=by
 unfold r5c at*
 cases hi:P.info? t with
 |none=>rw[hi]at h;exact absurd rfl h
 |some inf=>exact⟨inf,rfl,rfl⟩
theorem x3u{n i j k:Nat}(hj:j<n)(hne:i≠k):i*n+j<k*n∨k*n+n≤i*n+j:=by
 rcases Nat.lt_or_gt_of_ne hne with h|h
 ·left
  have:(i+1)*n≤k*n:=Nat.mul_le_mul_right n h
  rw[Nat.add_mul]at this
  omega
 ·right
  have:(k+1)*n≤i*n:=Nat.mul_le_mul_right n h
  rw[Nat.add_mul]at this
  omega
theorem w5l{α:Type}(cur vs:List α)(p q:Nat)(hp:p+vs.length≤cur.length):
 (cur.take p++vs++cur.drop (p+vs.length))[q]? =if p≤q∧q<p+vs.length then vs[q-p]? else cur[q]? :=by
 rw[List.append_assoc,List.getElem?_append]
 simp only[List.length_take]
 have hm:min p cur.length=p:=by omega
 rw[hm]
 by_cases h1:q<p
 ·rw[if_pos h1,if_neg (by omega),List.getElem?_take];simp[h1]
 ·rw[if_neg h1,List.getElem?_append]
  by_cases h2:q<p+vs.length
  ·rw[if_pos (by omega),if_pos (by omega)]
  ·rw[if_neg (by omega),if_neg (by omega),List.getElem?_drop]
   congr 1;omega
theorem u2q{cs new:List D}{c:Nat}(h:c+new.length≤cs.length):(splice cs c new).length=cs.length:=by
 unfold splice;simp;omega
theorem w1W{cs new:List D}{c:Nat}(h:c+new.length≤cs.length)(j:Nat):
 (splice cs c new)[j]? =if c≤j∧j<c+new.length then new[j-c]? else cs[j]? :=by
 unfold splice;exact w5l cs new c j h
theorem w5m{P:Program}{t:TypeId}{w:World}{μ:Mu}{st:St}{va vx:Value}{a x:D}{r:LR}(hs:Sim w μ st)(hv:VR w μ st va a)(hx:VR w μ st vx x)
 (hr:r=u6X (r5c P t) (look st) x a) (hok:r.ok) (hk:(r5c P t).k≠ .none):
 ∃w' o ob,(Instr.storeAt t va vx).run P w= .ok () w'∧r.up=some (o,ob)∧Sim w' μ (st.set o (some ob))∧Step w μ st w' μ (st.set o (some ob)):=by
 subst hr
 cases a with
 |ptr o g k c=>
  simp only[u6X]at*
  cases hl:look st o with
  |none=>rw[hl]at hok;exact hok.elim
  |some ob=>
   rw[hl]at hok
   cases ob with
   |arr g' n b es=>
    obtain⟨rfl,hkl,hcn,y1N⟩:=hok
    obtain⟨blk,base,cells,ty,ev,em,hh,hsz,hlen,hc⟩:=w8Q hs hv hl hkl
    subst ev
    have ho:=r5w hl
    obtain⟨hb,hn,x4e⟩:=(hs.obj o _ ho:u6V w μ st (μ o) n b es)
    obtain⟨c1,c2,c3⟩:=u7f hx y1N
    obtain⟨inf,u,hi,hu,esz,_⟩:=u6E hk
    have hvl:vx.cells.toList.length=(r5c P t).size:=by simpa using c1
    have hkn:k*n+n≤es.length*n:=by
     have:(k+1)*n≤es.length*n:=Nat.mul_le_mul_right n hkl
     rw[Nat.add_mul]at this;omega
    have x3t:∀v∈vx.cells.toList,v.oneCell'=true:=fun v hv=>by
     obtain⟨j,hj,e⟩:=List.getElem_of_mem hv
     obtain⟨u,eu,_,hu⟩:=c3 j (by simp at hj;omega)
     have:vx.cells[j]? =some v:=by rw[←e];simp at hj;simp[hj]
     rw[this]at eu;cases eu;exact hu
    have hrun:=run_storeCells_at (P:=P) blk (base+(k*n+c)) ty vx.cells.toList 0 cells w hh (by rw[hvl];omega) x3t
    have x4f:=getD_eq hkl
    have x5Q:(splice es[k] c (cellsOf (r5c P t) x)).length=n:=by rw[u2q (by rw[hlen,c2];exact hcn),hlen]
    let u6Y:Array Value:=(cells.toList.take (base+(k*n+c)+0)++vx.cells.toList++cells.toList.drop (base+(k*n+c)+0+vx.cells.toList.length)).toArray
    have hsize':u6Y.size=cells.size:=by simp[u6Y];omega
    have hh':(w.setRow blk u6Y).heap[blk]? =some (.cells u6Y ty (0,0)):=setRow_heap w blk cells u6Y ty (0,0) hh
    have hget:∀q,u6Y[q]? =if base+(k*n+c)≤q∧q<base+(k*n+c)+(r5c P t).size then vx.cells[q-(base+(k*n+c))]? else cells[q]? :=fun q=>by
     have:=w5l cells.toList vx.cells.toList (base+(k*n+c)) q (by rw[hvl];simp;omega)
     simp only[u6Y,List.getElem?_toArray,Nat.add_zero]
     rw[this,hvl];simp
    refine⟨w.setRow blk u6Y,o,_,?_,rfl,?_⟩
    ·simp only[Instr.storeAt,Instr.sureAddr,storeVar,Sem.run_bind,Sem.run_pure,Result.andThen_ok,r5V hi]
     rw[←esz,if_neg (by rw[c1];simp)]
     exact hrun
    ·refine u1L hs ho (fun _ _=>rfl) (fun u8k hb' hne=>?_) ?_ rfl rfl ⟨rfl,Nat.le_refl _⟩ (fun u8k base' e=>.inl ⟨base',e⟩) ?_ (fun s=>?_)
     ·exact setRow_other w _ _ _ (fun e=>hne base (by rw[e];exact em))
     ·rw[setRow_size];exact Nat.le_refl _
     ·refine⟨Nat.le_refl _,fun _=>⟨rfl,rfl,by simp,rfl,fun u8k base' c' ty' e' h'=>?_⟩⟩
      rw[em]at e';cases e'
      rw[hh]at h';cases h'
      exact⟨u6Y,hh',hsize'⟩
     ·change u6V _ _ _ _ _ _ _
      refine⟨by simpa using hb,fun e he=>?_,.inr ⟨blk,base,u6Y,ty,em,hh',by rw[hsize'];simpa using hsz,fun i j hi' hj'=>?_⟩⟩
      ·rcases List.mem_or_eq_of_mem_set he with h|h
       ·exact hn e h
       ·rw[h,x4f];exact x5Q
      ·have hil:i<es.length:=by simpa using hi'
       by_cases hik:i=k
       ·subst hik
        simp only[List.getElem_set_self,x4f]at hj'⊢
        rw[x5Q]at hj'
        rw[x4f]at s
        rw[hget]
        have hsg:=w1W (cs:=es[i]) (new:=cellsOf (r5c P t) x) (c:=c) (by rw[hlen,c2];exact hcn) j
        by_cases hin:c≤j∧j<c+(r5c P t).size
        ·rw[if_pos (by omega)]
         obtain⟨u,eu,hu,hu1⟩:=c3 (j-c) (by omega)
         refine⟨u,by rw[←eu];congr 1;omega,?_,hu1⟩
         rw[if_pos (by omega),List.getElem?_eq_getElem (by rw[x5Q];exact hj'),List.getElem?_eq_getElem (by omega)]at hsg
         rw[Option.some.inj hsg]
         exact hu.step s
        ·rw[if_neg (by omega)]
         obtain⟨u,eu,hu,hu1⟩:=hc j (by omega)
         refine⟨u,eu,?_,hu1⟩
         rw[if_neg (by omega),List.getElem?_eq_getElem (by rw[x5Q];exact hj'),List.getElem?_eq_getElem (by omega)]at hsg
         rw[Option.some.inj hsg]
         exact hu.step s
       ·have w1X:(es.set k (splice (es.getD k []) c (cellsOf (r5c P t) x)))[i]=es[i]:=by simp[List.getElem_set,Ne.symm hik]
        simp only[w1X]at hj'⊢
        rcases x4e with⟨e,_⟩|⟨x6E,x9t,y0M,ty2,em2,hh2,_,hc2⟩
        ·rw[em]at e;cases e
        ·rw[em]at em2;cases em2
         rw[hh]at hh2;cases hh2
         obtain⟨u,eu,hu,hu1⟩:=hc2 i j hil hj'
         have hji:j<n:=by rw[←hn _ (List.getElem_mem hil)];exact hj'
         have:=x3u hji hik
         refine⟨u,?_,hu.step s,hu1⟩
         rw[hget,if_neg (by omega)];exact eu
   |mps=>exact hok.elim
   |mpi=>exact hok.elim
   |sit=>exact hok.elim
   |resv=>exact hok.elim
 | _=>exact hok.elim
theorem u3m(w:World)(μ:Mu)(st:St)(v:Value):VR w μ st v (u6W v):=by
 cases v with
 |bool b=>exact .tr (.bool b)
 |int k n=>exact .tr (.int k n)
 |string s=>exact .tr (show TR w _ (.string (bs s.data.toList)) _ from .str _)
 |pointer a=>cases a with
  |none=>exact .tr .u6b
  |some a=>exact .any _
 |slice a l c=>
  simp only[u6W]
  split
  ·rename_i h;obtain⟨rfl,rfl,rfl⟩:=h;exact .tr .r5g
  ·exact .any _
 |nilFunc=>exact .tr .u3I
 |map a=>cases a with
  |none=>exact .tr .u4v
  |some a=>exact .any _
 |func f a c=>
  cases f with
  |func f=>
   simp only[u6W]
   split
   ·rename_i h
    exact .fn f a c [] [] h.1 h.2 (fun j h=>absurd h (Nat.not_lt_zero _)) (fun j h=>absurd h (Nat.not_lt_zero _))
   ·exact .any _
  | _=>exact .any _
 | _=>exact .any _
theorem u9P(w:World)(μ:Mu)(st:St)(v:Value):VR w μ st v (x1K v):=by
 unfold x1K
 split
 ·rename_i cs
  refine .agg _ _ (by simp) (fun j hj=>?_)
  simp at hj
  simp only[List.getElem_map]
  have:cs.getD j undef=cs.toList[j]'(by simpa using hj):=by simp[hj]
  rw[this]
  exact u3m _ _ _ _
 ·exact u3m _ _ _ _
theorem w8S{P:Program}{t:TypeId}{w:World}{μ:Mu}{st:St}{vx:Value}{x:D}{q:Nat}(hs:Sim w μ st)(hx:VR w μ st vx x)
 (hok:(x6D (r5c P t) q x).ok) (hq:st[q]? =some (some .resv)):
 ∃v w' μ' ob,(Instr.box t vx).run P w= .ok v w'∧(x6D (r5c P t) q x).new=some ob∧Sim w' μ' (st.set q (some ob))∧Step w μ st w' μ' (st.set q (some ob))∧
  VR w' μ' (st.set q (some ob)) v (x6D (r5c P t) q x).d:=by
 obtain⟨c1,c2,c3⟩:=u7f hx hok
 have hlt:q<st.length:=(List.getElem?_eq_some_iff.1 hq).1
 have h:=u3L (x:=.cells vx.cells t) (ob:=.arr 0 (r5c P t).size 0 [cellsOf (r5c P t) x]) hs hq (fun s=>u8l (fun i j hi hj=>by
  simp at hi;subst hi
  obtain⟨u,eu,hu,hu1⟩:=c3 j (by simpa using hj)
  exact⟨u,by simpa using eu,by simpa using hu,hu1⟩) (by simp[c1]) (by simp[c2]) (by simp[top]) s)
 refine⟨.pointer (some ⟨w.heap.size,0,none⟩),_,_,_,?_,rfl,h.1,h.2,?_⟩
 ·simp[Instr.box,newVar,newRow]
 ·refine .ptr _ q 0 0 0 ⟨_,rfl⟩ (by simpa using hlt) (by simp[hlt]) (fun g' n b es e=>Nat.zero_le _) (fun n b es e=>?_)
  exact⟨w.heap.size,0,by rw[r5Z],by simp⟩
theorem u8U{P:Program}{t:TypeId}{inf:TypeInfo}{z:Value}(hz:inf.zero=some z)(hi:P.info? t=some inf):(r5c P t).zero=z.cells.toList.map u6W:=by
 simp[r5c,hi,hz]
theorem w5n{P:Program}{t:TypeId}{w:World}{μ:Mu}{st:St}{q:Nat}(hs:Sim w μ st)(hok:(w1S (r5c P t) q).ok)(hq:st[q]? =some (some .resv)):
 ∃v w' μ' ob,(Instr.alloc t true (.tuple #[])).run P w= .ok v w'∧(w1S (r5c P t) q).new=some ob∧Sim w' μ' (st.set q (some ob))∧Step w μ st w' μ' (st.set q (some ob))∧
  VR w' μ' (st.set q (some ob)) v (w1S (r5c P t) q).d:=by
 obtain⟨h1,h2,h3⟩:=hok
 obtain⟨inf,hi,hsz⟩:=r7D h2
 have hlt:q<st.length:=(List.getElem?_eq_some_iff.1 hq).1
 cases hz:inf.zero with
 |none=>exfalso;apply h2;rw[←h1];simp[r5c,hi,hz]
 |some z=>
  have ez:=u8U hz hi
  have hzl:z.cells.size=(r5c P t).size:=by rw[←h1,ez];simp
  have h:=u3L (x:=.cells z.cells t) (ob:=.arr 0 (r5c P t).size 0 [(r5c P t).zero]) hs hq (fun s=>u8l (fun i j hi hj=>by
   simp at hi;subst hi
   simp[ez]at hj
   refine⟨z.cells[j],by simp[hj],?_⟩
   simp only[ez,List.getElem_cons_zero,List.getElem_map,Array.getElem_toList]
   refine⟨u3m _ _ _ _,one_cell (u3m w μ st _) ?_⟩
   rw[ez]at h3
   exact List.all_eq_true.1 h3 _ (List.mem_map_of_mem (by simp))) (by simp[hzl]) (by simp[h1]) (by simp[top]) s)
  refine⟨.pointer (some ⟨w.heap.size,0,none⟩),_,_,_,?_,rfl,h.1,h.2,?_⟩
  ·simp[Instr.alloc,newVar,newRow,zeroValue,typeInfo,hi,hz]
  ·refine .ptr _ q 0 0 0 ⟨_,rfl⟩ (by simpa using hlt) (by simp[hlt]) (fun g' n b es e=>Nat.zero_le _) (fun n b es e=>?_)
   exact⟨w.heap.size,0,by rw[r5Z],by simp⟩
def InK(k:IntKind)(n:Int):Prop:=k.min≤n∧n≤k.max
def r6T:Option D→Nat→Nat
 |some (.int _ m),_=>m.toNat
 | _,n=>n
def w3R:Option D→Prop
 |none=>True
 |some (.int _ m)=>0≤m
 | _=>False
def u5U(i:TI)(e:Nat)(lk:Look)(x:D)(lo hi mx:Option D):LR:=
 match x with
 | .str s=>{ d:=.str ((s.drop (r6T lo 0)).take (r6T hi s.length-r6T lo 0)),ok:=i.k= .str∧w3R lo∧w3R hi∧mx=none∧r6T lo 0≤r6T hi s.length∧r6T hi s.length≤s.length }
 | .sl full n b es=>{ d:=.sl (match mx with|none=>full&&r6T hi es.length==es.length|some _=>r6T mx 0==r6T hi es.length) n b ((es.drop (r6T lo 0)).take (r6T hi es.length-r6T lo 0)),ok:=(∃t,i.k= .slice t)∧n=e∧e≠0∧w3R lo∧w3R hi∧w3R mx∧(mx.isSome=true→hi.isSome=true)∧r6T lo 0≤r6T hi es.length∧r6T hi es.length≤r6T mx es.length∧r6T mx es.length≤es.length }
 | .ref full o g off len=>match lk o with
  |some (.arr g' n _ es)=>{ d:=.ref (match mx with|none=>full&&r6T hi len==len|some _=>r6T mx 0==r6T hi len) o g (off+r6T lo 0) (r6T hi len-r6T lo 0),ok:=(∃t,i.k= .slice t)∧g'=g∧n=e∧e≠0∧w3R lo∧w3R hi∧w3R mx∧(mx.isSome=true→hi.isSome=true)∧r6T lo 0≤r6T hi len∧r6T hi len≤r6T mx len∧r6T mx len≤len,rd:=[o] }
  | _=>.bad
 | .r5g=>{ d:=.r5g,ok:=(∃t,i.k= .slice t)∧e≠0∧w3R lo∧w3R hi∧w3R mx∧(mx.isSome=true→hi.isSome=true)∧r6T lo 0=0∧r6T hi 0=0∧r6T mx 0=0 }
 | _=>.bad
def u5e(ag:Bool)(x:D):List D:=if ag then(match x with| .agg cs=>cs| _=>[])else [x]
def w3S(ag:Bool)(sz:Nat)(x:D):Prop:=if ag then(match x with| .agg cs=>cs.length=sz| _=>False)else(x.one=true∧sz=1)
def u3W(fs:List (Nat×Nat×Bool))(cs:List D):List (Nat×D)→List D
 | []=>cs
 |(f,x)::r=>match fs[f]? with
  |some (off,_,ag)=>u3W fs (splice cs off (u5e ag x)) r
  |none=>cs
def u2r(fs:List (Nat×Nat×Bool))(size:Nat):List (Nat×D)→Prop
 | []=>True
 |(f,x)::r=>match fs[f]? with
  |some (off,sz,ag)=>w3S ag sz x∧off+sz≤size∧u2r fs size r
  |none=>False
def u7A(i:TI)(e:TI)(parts:List (Nat×D)):LR:=
 match i.k with
 | .struct fs=>{ d:=.agg (u3W fs i.zero parts),ok:=i.zero.length=i.size∧i.size≠0∧fs.all (fun f=>f.2.1 != 0)=true∧u2r fs i.size parts }
 | .arr _ _=>{ d:=.agg (w3Q i.zero (parts.map fun p=>(p.1*e.size,u5e e.k.agg p.2))),ok:=i.zero.length=i.size∧i.size≠0∧(∀p∈parts,w3S e.k.agg e.size p.2∧p.1*e.size+e.size≤i.size)∧e.k≠ .none }
 | _=>.bad
def u4Q(es:List (List D)):List (Nat×List D)→List (List D)
 | []=>es
 |(i,cs)::r=>u4Q (es.set i cs) r
def u3X(i:TI)(e:TI)(len:Nat)(parts:List (Nat×D))(q:Nat):LR:=
 { d:=.ref true q 0 0 len,ok:=(∃t,i.k= .slice t)∧e.zero.length=e.size∧e.size≠0∧e.zero.all D.one=true∧(∀p∈parts,u3v e p.2∧p.1<len)∧len*e.size≤2^24∧len*e.bytes≤top,new:=some (.arr 0 e.size e.bytes (u4Q (List.replicate len e.zero) (parts.map fun p=>(p.1,cellsOf e p.2)))) }
def r8Q(i:TI)(e:TI)(l c:D)(q:Nat):LR:=
 match l,c with
 | .int .i64 l,.int .i64 c=>{ d:=.ref (decide (c=l)) q 0 0 l.toNat,ok:=(∃t,i.k= .slice t)∧0≤l∧l≤c∧c.toNat*e.bytes≤top∧c.toNat≤top∧e.zero.length=e.size∧e.size≠0∧e.zero.all D.one=true,new:=some (.arr 0 e.size e.bytes (List.replicate l.toNat e.zero)) }
 | _,_=>.bad
def u1C(i:TI)(k:TI)(ag:Bool)(q:Nat):LR:=
 match i.k,k.k with
 | .map _ _,.str=>{ d:=.mp q,ok:=True,new:=some (.mps ag []) }
 | .map _ _,.int kk=>{ d:=.mp q,ok:=True,new:=some (.mpi ag kk []) }
 | _,_=>.bad
def assoc{K V:Type}[DecidableEq K](k:K):List (K×V)→Option V
 | []=>none
 |(a,v)::r=>if k=a then some v else assoc k r
def r5j{K V:Type}[DecidableEq K](k:K)(v:V):List (K×V)→List (K×V)
 | []=>[(k,v)]
 |(a,u)::r=>if k=a then(k,v)::r else(a,u)::r5j k v r
def nz1(d c:D):D:=match c with
 | .r5g=>(match d with| .sl f n b []=>if 1≤b then .sl f n b []else .r5g| _=>.r5g)
 |c=>c
def nz:List D→List D→List D
 | [],cs=>cs
 | _::_,[]=>[]
 |d::ds,c::cs=>nz1 d c::nz ds cs
def u1m(vi:TI)(r:Option (List D)):D:=match r with
 |some cs=>mkv vi.k.agg cs
 |none=>match vi.zv with
  |some (.agg cs)=>.agg (nz vi.dfl cs)
  |some .r5g=>nz1 (vi.dfl.headD .any) .r5g
  |some z=>z
  |none=>.any
def u6d(vi:TI)(u9Q:Bool)(r:Option (List D)):D:=
 if u9Q then .tup [u1m vi r,.bool r.isSome]else u1m vi r
def u2N(i ki vi:TI)(lk:Look)(u9Q:Bool)(key:D):D→LR
 | .mp o=>match lk o,key with
  |some (.mps ag es),.str k=>{ d:=u6d vi u9Q (assoc k es),ok:=(∃a b,i.k= .map a b)∧ki.k= .str∧ag=vi.k.agg∧vi.zv.isSome=true,rd:=[o] }
  |some (.mpi ag kk es),.int kk' k=>{ d:=u6d vi u9Q (assoc k es),ok:=(∃a b,i.k= .map a b)∧ki.k= .int kk∧kk'=kk∧ag=vi.k.agg∧vi.zv.isSome=true,rd:=[o] }
  | _,_=>.bad
 | .u4v=>match key with
  | .str _=>{ d:=u6d vi u9Q none,ok:=(∃a b,i.k= .map a b)∧ki.k= .str∧vi.zv.isSome=true }
  | _=>.bad
 | _=>.bad
def r9i(i ki vi:TI)(lk:Look)(key x:D):D→LR
 | .mp o=>match lk o,key with
  |some (.mps ag es),.str k=>{ d:=.any,ok:=(∃a b,i.k= .map a b)∧ki.k= .str∧ag=vi.k.agg∧u3v vi x,rd:=[o],up:=some (o,.mps ag (r5j k (nz vi.dfl (cellsOf vi x)) es)) }
  |some (.mpi ag kk es),.int kk' k=>{ d:=.any,ok:=(∃a b,i.k= .map a b)∧ki.k= .int kk∧kk'=kk∧ag=vi.k.agg∧u3v vi x,rd:=[o],up:=some (o,.mpi ag kk (r5j k (nz vi.dfl (cellsOf vi x)) es)) }
  | _,_=>.bad
 | _=>.bad
def arith(k:IntKind)(n:Int):LR:={ d:=.int k (k.wrap n),ok:=True }
def w2y(op:BinOp)(k:IntKind)(x y:Int):Int:=
 let a:=BitVec.ofInt k.bits x
 let b:=BitVec.ofInt k.bits y
 match op with
 | .and=>k.wrap (a&&&b).toNat
 | .or=>k.wrap (a|||b).toNat
 | .xor=>k.wrap (a ^^^ b).toNat
 | _=>k.wrap (a&&& ~~~b).toNat
def u7g(b:Bool):LR:={ d:=.bool b,ok:=True }
def r8f(P:Program)(t:TypeId):Nat:=
 match P.underlying t with
 |some (.int _)=>1
 |some .string=>2
 |some .bool=>3
 | _=>0
def r5D(P:Program):Nat→List Field→Nat→Option (List Nat)
 |0,_,_=>none
 | _+1,[],_=>some []
 |n+1,f::fs,k0=>if f.offset==k0&&f.name != "_" then
  (if r8f P f.type != 0 then(match r5D P n fs (k0+1)with|some r=>some (r8f P f.type::r)|none=>none)
  else match P.underlying f.type with
   |some (.struct g)=>match r5D P n g.toList 0 with
    |some ks=>match P.info? f.type with
     |some inf=>if !P.stoodInHeld f.type&&inf.size==ks.length then(match r5D P n fs (k0+ks.length)with|some r=>some (ks++r)|none=>none)else none
     |none=>none
    |none=>none
   | _=>none)
  else none
def r5Y(P:Program)(t:TypeId):Option (List Nat):=
 match P.underlying t with
 |some (.struct fields)=>if !P.stoodInHeld t&& !P.eqGuardType P.depth t&&fields.toList.zipIdx.all (fun(f,j)=>f.offset==j&&f.name != "_")then some (fields.toList.map fun f=>r8f P f.type)
  else if !P.stoodInHeld t&& !P.eqGuardType P.depth t then r5D P 40 fields.toList 0 else none
 | _=>none
def u7B:Nat→D→D→Option Bool
 |1,.int k a,.int k' b=>if k=k' then some (decide (a=b))else none
 |2,.str a,.str b=>some (decide (a=b))
 |3,.bool a,.bool b=>some (decide (a=b))
 | _,_,_=>none
def r7g:List Nat→List D→List D→Option Bool
 | [],[],[]=>some true
 |k::ks,a::x,b::y=>match u7B k a b,r7g ks x y with
  |some p,some q=>some (p&&q)
  | _,_=>none
 | _,_,_=>none
def w1q(a b:Bs):Bs:=a++b
def u1M(a b:Bs):Prop:=a.length+b.length≤9223372036854775807
instance{a b:Bs}:Decidable (u1M a b):=by unfold u1M;exact inferInstance
def u8m(op:BinOp)(x y:D):LR:=
 match x,y with
 | .int k a,.int k' b=>
  match op with
  | .shl=>{ d:=.int k (k.wrap (a*2^(min b.toNat k.bits))),ok:=0≤b }
  | .shr=>{ d:=.int k (a.fdiv (2^(min b.toNat k.bits))),ok:=0≤b }
  | _=>if k=k' then
   match op with
   | .add=>arith k (a+b)
   | .sub=>arith k (a-b)
   | .mul=>arith k (a*b)
   | .quo=>{ d:=.int k (a.tdiv b),ok:=b≠0∧InK k (a.tdiv b) }
   | .rem=>{ d:=.int k (a.tmod b),ok:=b≠0 }
   | .eql=>u7g (decide (a=b))
   | .neq=>u7g (!decide (a=b))
   | .lss=>u7g (decide (a<b))
   | .leq=>u7g (decide (a≤b))
   | .gtr=>u7g (decide (b<a))
   | .geq=>u7g (decide (b≤a))
   |op=>{ d:=.int k (w2y op k a b),ok:=True }
   else .bad
 | .str a,.str b=>match op with
  | .add=>{ d:=.str (w1q a b),ok:=u1M a b }
  | .eql=>u7g (decide (a=b))
  | .neq=>u7g (!decide (a=b))
  | .lss=>u7g (Op.bytesLess a b)
  | .gtr=>u7g (!(Op.bytesLess a b||decide (a=b)))
  | .leq=>u7g (Op.bytesLess a b||decide (a=b))
  | .geq=>u7g (!Op.bytesLess a b)
  | _=>.bad
 | _,_=>.bad
def aEq(i:TI)(flat:Option (List Nat))(neg:Bool)(x y:D):LR:=
 match x,y with
 | .bool a,.bool b=>{ d:=.bool (if neg then !decide (a=b)else decide (a=b)),ok:=i.k= .bool }
 | .agg a,.agg b=>match flat with
  |some ks=>match r7g ks a b with
   |some r=>{ d:=.bool (if neg then !r else r),ok:=True }
   |none=>.bad
  |none=>.bad
 | .r5g,.r5g=>{ d:=.bool (!neg),ok:=∃t,i.k= .slice t }
 | _,_=>.bad
def aUn(op:UnOp)(x:D):LR:=
 match op,x with
 | .not,.bool b=>u7g (!b)
 | .neg,.int k n=>arith k (0-n)
 | _,_=>.bad
def w2z(n:Int):Bs:=(Utf8.encode n).data.toList
def u2s(a:Bs):List (List D):=a.map fun c=>[.int .u8 (c.toNat:Int)]
def strOf(es:List (List D)):Bs:=es.map fun r=>match r with| [.int _ n]=>UInt8.ofNat n.toNat| _=>0
def x1L:List D→Bool
 | [.int .u8 _]=>true
 | _=>false
def u2t(s t e:TI)(x:D):LR:=
 match x,s.k,t.k with
 | .sl _ n _ es,.slice _,.str=>{ d:=.str (strOf es),ok:=e.k= .int .u8∧n=1∧es.all x1L=true∧(es=[])=False }
 | .str a,.str,.slice _=>{ d:=.sl false 1 1 (u2s a),ok:=e.k= .int .u8∧a.length≤top }
 | .int _ n,.int _,.int k=>{ d:=.int k (k.wrap n),ok:=True }
 | .str a,.str,.str=>{ d:=.str a,ok:=True }
 | .int _ n,.int _,.str=>{ d:=.str (w2z n),ok:=True }
 | _,_,_=>.bad
def u0J(x:D):LR:=
 match x with
 | .ptr _ _ _ _=>{ d:=x,ok:=True }
 | .u8j _=>{ d:=x,ok:=True }
 | _=>.bad
def u3M(ix:Nat):D→LR
 | .tup cs=>match cs[ix]? with
  |some (.cond g d)=>{ d:=d,ok:=g=true }
  |some d=>{ d:=d,ok:=True }
  |none=>.bad
 | _=>.bad
def u5V(lk:Look)(e:TI):D→Option (List (List D))
 | .sl _ n _ es=>if n=e.size then some es else none
 | .r5g=>some []
 | .ref _ o g off len=>match lk o with
  |some (.arr g' n _ es)=>if g'=g∧n=e.size∧off+len≤es.length then some ((es.drop off).take len)else none
  | _=>none
 | .str s=>some (s.map fun c=>[.int .u8 (c.toNat:Int)])
 | _=>none
def x1M:D→List Nat
 | .ref _ o _ _ _=>[o]
 | _=>[]
def xOk(e:TI)(xk:TK):D→Prop
 | .str _=>xk= .str∧e.size=1
 | _=>∃t,xk= .slice t
def w8c(i e:TI)(xk:TK)(x:D)(n:Nat):Prop:=
 (∃t,i.k= .slice t)∧e.zero.length=e.size∧e.size≠0∧e.zero.all D.one=true∧n*e.bytes≤top∧n≤top∧xOk e xk x
def r8g(i:TI)(e:TI)(xk:TK)(lk:Look)(src x:D)(q:Nat):LR:=
 match u5V lk e x with
 |none=>.bad
 |some news=>
  match src with
  | .r5g=>{ d:=.ref false q 0 0 news.length,ok:=w8c i e xk x news.length,rd:=x1M x,new:=some (.arr 0 e.size e.bytes news) }
  | .sl true n _ es=>{ d:=.ref false q 0 0 (es.length+news.length),ok:=w8c i e xk x (es.length+news.length)∧n=e.size∧(es=[]∨news≠ []),rd:=x1M x,new:=some (.arr 0 e.size e.bytes (es++news)) }
  | .ref true o g off len=>match lk o with
   |some (.arr g' n _ es)=>{ d:=.ref false q 0 0 (len+news.length),ok:=w8c i e xk x (len+news.length)∧g'=g∧n=e.size∧off+len≤es.length∧(len=0∨news≠ []),rd:=o::x1M x,new:=some (.arr 0 e.size e.bytes ((es.drop off).take len++news)) }
   | _=>.bad
  | .ref false o g off len=>match lk o with
   |some (.arr g' n b es)=>{ d:=.ref false o (g+1) 0 (len+news.length),ok:=w8c i e xk x (len+news.length)∧g'=g∧n=e.size∧b=e.bytes∧off+len≤es.length,rd:=o::x1M x,up:=some (o,.arr (g+1) n b ((es.drop off).take len++news)) }
   | _=>.bad
  | _=>.bad
def w8T(i:TI)(lk:Look):D→LR
 | .str s=>{ d:=.int .i64 s.length,ok:=i.k= .str }
 | .r5g=>{ d:=.int .i64 0,ok:=∃t,i.k= .slice t }
 | .sl _ _ _ es=>{ d:=.int .i64 es.length,ok:=∃t,i.k= .slice t }
 | .ref _ o g _ len=>match lk o with
  |some (.arr g' _ _ _)=>{ d:=.int .i64 len,ok:=(∃t,i.k= .slice t)∧g'=g,rd:=[o] }
  | _=>.bad
 | .u4v=>{ d:=.int .i64 0,ok:=∃a b,i.k= .map a b }
 | .mp o=>match lk o with
  |some (.mps _ es)=>{ d:=.int .i64 es.length,ok:=∃a b,i.k= .map a b,rd:=[o] }
  |some (.mpi _ _ es)=>{ d:=.int .i64 es.length,ok:=∃a b,i.k= .map a b,rd:=[o] }
  | _=>.bad
 | _=>.bad
def x3v(i:TI):D→LR
 | .r5g=>{ d:=.int .i64 0,ok:=∃t,i.k= .slice t }
 | _=>.bad
def x1N(x y:D):LR:=
 match x,y with
 | .int k a,.int _ b=>{ d:=.int k (max a b),ok:=True }
 | _,_=>.bad
def x1O(x y:D):LR:=
 match x,y with
 | .int k a,.int _ b=>{ d:=.int k (min a b),ok:=True }
 | _,_=>.bad
theorem w5o{P:Program}{t:TypeId}{k:TK}(h:(r5c P t).k=k)(hk:k≠ .none):∃inf u,P.info? t=some inf∧P.underlying t=some u∧kindOf P (some u)=k∧
 (r5c P t).size=inf.size∧(r5c P t).bytes=inf.bytes∧(r5c P t).zero=(inf.zero.map fun v=>v.cells.toList.map u6W).getD []:=by
 obtain⟨inf,u,h1,h2,h3,h4,h5,h6⟩:=u6E (P:=P) (t:=t) (by rw[h];exact hk)
 exact⟨inf,u,h1,h2,h5▸h,h3,h4,h6⟩
theorem w2A{P:Program}{t:TypeId}{fs:List (Nat×Nat×Bool)}(h:(r5c P t).k= .struct fs):∃fields,P.underlying t=some (.struct fields)∧
 fs=fields.toList.map fun f=>(f.offset,fsz P f.type,u2p (P.underlying f.type)):=by
 obtain⟨inf,u,_,hu,hk,_⟩:=w5o h (by simp)
 cases u<;>simp only[kindOf]at hk<;>first|(cases hk;done)|skip
 rename_i fields
 exact⟨fields,hu,(TK.struct.inj hk).symm⟩
theorem u0K{P:Program}{t:TypeId}{e:Nat}(h:(r5c P t).k= .slice e):P.underlying t=some (.slice e):=by
 obtain⟨inf,u,_,hu,hk,_⟩:=w5o h (by simp)
 cases u<;>simp only[kindOf]at hk<;>first|(cases hk;exact hu)|(cases hk;done)
theorem x6F{P:Program}{t:TypeId}{n e:Nat}(h:(r5c P t).k= .arr n e):P.underlying t=some (.array n e):=by
 obtain⟨inf,u,_,hu,hk,_⟩:=w5o h (by simp)
 cases u<;>simp only[kindOf]at hk<;>first|(cases hk;exact hu)|(cases hk;done)
theorem u7C{P:Program}{t:TypeId}(h:(r5c P t).k= .str):P.underlying t=some .string:=by
 obtain⟨inf,u,_,hu,hk,_⟩:=w5o h (by simp)
 cases u<;>simp only[kindOf]at hk<;>first|exact hu|(cases hk;done)
theorem w5p{P:Program}{t:TypeId}{k:IntKind}(h:(r5c P t).k= .int k):P.underlying t=some (.int k):=by
 obtain⟨inf,u,_,hu,hk,_⟩:=w5o h (by simp)
 cases u<;>simp only[kindOf]at hk<;>first|(cases hk;exact hu)|(cases hk;done)
theorem w8U{P:Program}{t:TypeId}{k e:Nat}(h:(r5c P t).k= .map k e):P.underlying t=some (.map k e):=by
 obtain⟨inf,u,_,hu,hk,_⟩:=w5o h (by simp)
 cases u<;>simp only[kindOf]at hk<;>first|(cases hk;exact hu)|(cases hk;done)
theorem x6G{P:Program}{t:TypeId}(h:(r5c P t).k= .bool):P.underlying t=some .bool:=by
 obtain⟨inf,u,_,hu,hk,_⟩:=w5o h (by simp)
 cases u<;>simp only[kindOf]at hk<;>first|exact hu|(cases hk;done)
theorem w8V{P:Program}{fields:Array Field}{f off sz:Nat}{ag:Bool}
 (h:(fields.toList.map fun f=>(f.offset,fsz P f.type,u2p (P.underlying f.type)))[f]? =some (off,sz,ag)):
 ∃fld,fields[f]? =some fld∧fld.offset=off∧fsz P fld.type=sz∧u2p (P.underlying fld.type)=ag:=by
 rw[List.getElem?_map]at h
 cases hf:fields[f]? with
 |none=>rw[show fields.toList[f]? =none by simpa using hf]at h;cases h
 |some fld=>
  rw[show fields.toList[f]? =some fld by simpa using hf]at h
  simp at h
  exact⟨fld,rfl,h.1,h.2.1,h.2.2⟩
theorem u9R{P:Program}{t:TypeId}{sz:Nat}(h:fsz P t=sz)(h0:sz≠0):∃inf u,P.info? t=some inf∧P.underlying t=some u∧inf.size=sz:=by
 unfold fsz at h
 cases hi:P.info? t with
 |none=>rw[hi]at h;exact absurd h.symm h0
 |some inf=>
  cases hu:P.underlying t with
  |none=>rw[hi,hu]at h;exact absurd h.symm h0
  |some u=>rw[hi,hu]at h;exact⟨inf,u,rfl,rfl,h⟩
theorem u0F{w:World}{μ:Mu}{st:St}{v:Value}{k:IntKind}{n:Int}(h:VR w μ st v (.int k n)):v= .int k n:=by
 cases h with|tr h=>cases h;rfl
theorem u3J{w:World}{μ:Mu}{st:St}{v:Value}{s:Bs}(h:VR w μ st v (.str s)):v= .string (bs s):=by
 cases h with|tr h=>cases h;rfl
theorem u3Y{w:World}{μ:Mu}{st:St}{v:Value}{b:Bool}(h:VR w μ st v (.bool b)):v= .bool b:=by
 cases h with|tr h=>cases h;rfl
theorem u5t{w:World}{μ:Mu}{st:St}{v:Value}(h:VR w μ st v .r5g):v= .slice none 0 0:=by
 cases h with|tr h=>cases h;rfl
theorem w3T{w:World}{μ:Mu}{st:St}{v:Value}{cs:List D}(h:VR w μ st v (.agg cs)):∃vs,v= .agg vs∧vs.size=cs.length∧∀j (h:j<cs.length),VR w μ st (vs.getD j undef) (cs[j]):=by
 cases h with
 |tr h=>cases h
 |agg vs _ hs hc=>exact⟨vs,rfl,hs,hc⟩
theorem u0a(w:World)(μ:Mu)(st:St)(k:IntKind)(n:Int):VR w μ st (.int k n) (.int k n):=.tr (.int k n)
theorem r8T(w:World)(μ:Mu)(st:St)(b:Bool):VR w μ st (.bool b) (.bool b):=.tr (.bool b)
theorem u9S(w:World)(μ:Mu)(st:St)(s:Bs):VR w μ st (.string (bs s)) (.str s):=.tr (.str s)
theorem u9T{P:Program}{t:TypeId}{w:World}{μ:Mu}{st:St}{va:Value}{a:D}{f:Nat}(hv:VR w μ st va a)
 (hok:(u0w (r5c P t) f a).ok):∃v,(Instr.fieldAt t va f).run P w= .ok v w∧VR w μ st v (u0w (r5c P t) f a).d:=by
 have go:∀fs off sz ag ad,(r5c P t).k= .struct fs→fs[f]? =some (off,sz,ag)→sz≠0→
  (Instr.fieldAt t (.pointer (some ad)) f).run P w= .ok (.pointer (some (ad.add off))) w:=by
  intro fs off sz ag ad hk hf h0
  obtain⟨fields,hu,rfl⟩:=w2A hk
  obtain⟨fld,e1,e2,e3,e4⟩:=w8V hf
  obtain⟨inf,u,hi,_,hsz⟩:=u9R e3 h0
  have hn:inf.size≠0:=by rw[hsz];exact h0
  simp[Instr.fieldAt,run_underlying hu,e1,Instr.sureAddr,fieldPlace,r5V hi,hn,e2]
 cases a with
 |ptr o g k c=>
  simp only[u0w]at*
  split at hok
  ·rename_i fs hk
   split at hok
   ·rename_i off sz ag hf
    cases hv with
    |tr h=>cases h
    |ptr _ _ _ _ _ hvv ho hr hg h=>
     obtain⟨ad,rfl⟩:=hvv
     refine⟨_,go fs off sz ag ad hk hf hok,.ptr _ o g k (c+off) ⟨_,rfl⟩ ho hr hg (fun n b es e=>?_)⟩
     obtain⟨blk,base,em,ev⟩:=h n b es e
     refine⟨blk,base,em,?_⟩
     cases ev
     rw[u5d];congr 3;omega
   ·exact hok.elim
  ·exact hok.elim
 |u8j cs=>
  simp only[u0w]at*
  split at hok
  ·rename_i fs hk
   split at hok
   ·rename_i off sz ag hf
    obtain⟨h0,hlt⟩:=hok
    cases hv with
    |tr h=>
     cases h with
     |u8j _ blk y1O cv hblk hown ha hc=>
      refine⟨_,go fs off sz ag _ hk hf h0,?_⟩
      rw[u5d]
      refine .tr (.u8j _ blk (y1O+off) (fun j=>cv (off+j)) hblk hown (fun j hj=>?_) (fun j hj=>?_))
      ·simp at hj
       rw[Nat.add_assoc];exact ha (off+j) (by omega)
      ·simp at hj
       simp only[List.getElem_drop];exact hc (off+j) (by omega)
   ·exact hok.elim
  ·exact hok.elim
 | _=>exact hok.elim
theorem w1Y{P:Program}{t:TypeId}{w:World}{μ:Mu}{st:St}{vs:Array Value}{cs:List D}{off sz:Nat}{ag:Bool}(hsz:vs.size=cs.length)
 (hc:∀j (h:j<cs.length),VR w μ st (vs.getD j undef) (cs[j])) (hle:off+sz≤cs.length) (h1:ag=false→sz=1)
 {u:TypeDesc} (hu:P.underlying t=some u) (hag:u2p (some u)=ag) (hs:ag=true→∃inf,P.info? t=some inf∧inf.size=sz):
 ∃v,(part t vs off).run P w= .ok v w∧VR w μ st v (mkv ag ((cs.drop off).take sz)):=by
 have hr:=u2h hu w
 cases ag with
 |false=>
  have:=h1 rfl;subst this
  have hlt:off<vs.size:=by omega
  refine⟨vs[off],by simp[part,hr,hag,hlt],?_⟩
  have:=hc off (by omega)
  simp only[Array.getD_eq_getD_getElem?, Array.getElem?_eq_getElem hlt,Option.getD_some]at this
  have e:(cs.drop off).take 1=[cs[off]'(by omega)]:=by
   rw[List.drop_eq_getElem_cons (by omega)];rfl
  rw[e];exact this
 |true=>
  obtain⟨inf,hi,hsz'⟩:=hs rfl
  refine⟨.agg (vs.extract off (off+sz)),by simp[part,hr,hag,r5V hi,hsz'],?_⟩
  simp only[mkv,if_true]
  refine .agg _ _ (by simp;omega) (fun j hj=>?_)
  simp at hj
  have:=hc (off+j) (by omega)
  have hlt:off+j<vs.size:=by omega
  simp only[Array.getD_eq_getD_getElem?, Array.getElem?_eq_getElem hlt,Option.getD_some]at this
  simp only[List.getElem_take,List.getElem_drop,Array.getD_eq_getD_getElem?]
  rw[Array.getElem?_eq_getElem (by simp;omega)]
  simpa using this
theorem w5q{P:Program}{t:TypeId}{w:World}{μ:Mu}{st:St}{va:Value}{a:D}{f:Nat}(hv:VR w μ st va a)
 (hok:(u7y (r5c P t) f a).ok):∃v,(Instr.field t va f).run P w= .ok v w∧VR w μ st v (u7y (r5c P t) f a).d:=by
 cases a with
 |agg cs=>
  simp only[u7y]at*
  split at hok
  ·rename_i fs hk
   split at hok
   ·rename_i off sz ag hf
    obtain⟨hle,h0,h1⟩:=hok
    obtain⟨fields,hu,rfl⟩:=w2A hk
    obtain⟨fld,e1,e2,e3,e4⟩:=w8V hf
    obtain⟨inf,u,hi,hu2,x9u⟩:=u9R e3 h0
    obtain⟨vs,rfl,hsz,hc⟩:=w3T hv
    rw[hu2]at e4
    obtain⟨v,h2,h3⟩:=w1Y (P:=P) (t:=fld.type) (off:=off) (sz:=sz) (ag:=ag) hsz hc hle h1 hu2 e4 (fun _=>⟨inf,hi,x9u⟩)
    exact⟨v,by simpa[Instr.field,run_underlying hu,e1,asAgg,e2]using h2,h3⟩
   ·exact hok.elim
  ·exact hok.elim
 | _=>exact hok.elim
theorem u0c(P:Program)(w:World)(k:IntKind)(n:Int):(asIntOf (.int k n)).run P w= .ok (k,n) w:=rfl
theorem toNat_lt{m:Int}{n:Nat}(h0:0≤m)(h:m<n):m.toNat<n:=by omega
theorem u9U{P:Program}{t el:TypeId}{w:World}{μ:Mu}{st:St}{vx vi:Value}{x ix:D}(hs:Sim w μ st)(hx:VR w μ st vx x)(hi:VR w μ st vi ix)
 (hel:(r5c P t).k= .slice el∨∃n,(r5c P t).k= .arr n el)
 (hok:(r7B (r5c P t) (r5c P el) (look st) x ix).ok):
 ∃v,(Instr.indexAt t vx vi).run P w= .ok v w∧VR w μ st v (r7B (r5c P t) (r5c P el) (look st) x ix).d:=by
 cases ix with
 |int k m=>
  have:=u0F hi;subst this
  rcases hel with hel|⟨N,hel⟩
  ·have hu:=u0K hel
   cases x with
   |sl full n b es=>
    simp only[r7B,hel]at*
    obtain⟨h0,hlt,rfl,he⟩:=hok
    obtain⟨inf,w1D,hsz⟩:=r7D he
    cases hx with
    |tr h=>
     cases h with
     |sl _ _ _ _ a len cap cv hlen hcap u9j hb hb1 hn ha hc=>
      rcases ha with ha|⟨blk,off,ea,hblk,hown,hcell⟩
      ·subst ha;simp at hlt;omega
      ·subst ea
       have hlt':m<(len:Int):=by rw[hlen];exact hlt
       have hmn:=toNat_lt h0 hlt
       refine⟨.pointer (some ((⟨blk,off,none⟩:Addr).add (m.toNat*inf.size))),?_,?_⟩
       ·simp[Instr.indexAt,u0c,run_underlying hu,h0,hlt',r5V w1D]
       ·rw[u5d, ←hsz,show es.getD m.toNat (r5c P el).dfl=es[m.toNat]by simp[hmn]]
        refine .tr (.u8j _ blk _ (cv m.toNat) hblk hown (fun j hj=>?_) (fun j hj=>hc m.toNat j hmn hj))
        rw[Nat.add_assoc]
        exact hcell m.toNat j hmn (by rw[←hn _ (List.getElem_mem hmn)];exact hj)
   |ref full o g off len=>
    simp only[r7B,hel]at*
    cases hl:look st o with
    |none=>rw[hl]at hok;exact hok.elim
    |some ob=>
     rw[hl]at hok
     cases ob with
     |arr g' n b es=>
      obtain⟨h0,hlt,rfl,rfl,hle,he⟩:=hok
      obtain⟨inf,w1D,hsz⟩:=r7D he
      have ho:=r5w hl
      cases hx with
      |tr h=>cases h
      |ref _ _ _ _ _ _ hvv hol hr hg h=>
       obtain⟨a,cap,ev,h1,h2,h3,h4⟩:=h _ _ _ ho
       subst ev
       rcases h4 with h4|⟨blk,base,em,ea,c,ty,hh,y1P⟩
       ·omega
       ·subst ea
        have hlt':m<(len:Int):=hlt
        refine⟨.pointer (some ((⟨blk,base+off*(r5c P el).size,none⟩:Addr).add (m.toNat*inf.size))),?_,?_⟩
        ·simp[Instr.indexAt,u0c,run_underlying hu,h0,hlt',r5V w1D]
        ·rw[u5d, ←hsz]
         refine .ptr _ o g' (off+m.toNat) 0 ⟨_,rfl⟩ hol hr hg (fun n b es' e=>?_)
         rw[ho]at e;cases e
         refine⟨blk,base,em,?_⟩
         rw[Nat.add_mul];congr 3;omega
     |mps=>exact hok.elim
     |mpi=>exact hok.elim
     |sit=>exact hok.elim
     |resv=>exact hok.elim
   | _=>simp only[r7B,hel]at hok;exact hok.elim
  ·have hu:=x6F hel
   cases x with
   |ptr o g kk c=>
    simp only[r7B,hel]at*
    obtain⟨h0,hlt,h2,he⟩:=hok
    obtain⟨inf,w1D,hsz⟩:=r7D he
    cases hx with
    |tr h=>cases h
    |ptr _ _ _ _ _ hvv ho hr hg h=>
     obtain⟨ad,rfl⟩:=hvv
     refine⟨.pointer (some (ad.add (m.toNat*inf.size))),?_,?_⟩
     ·simp[Instr.indexAt,u0c,run_underlying hu,h0,hlt,r5V w1D,Instr.sureAddr]
     ·refine .ptr _ o g kk _ ⟨_,rfl⟩ ho hr hg (fun n b es e=>?_)
      obtain⟨blk,base,em,ev⟩:=h n b es e
      cases ev
      refine⟨blk,base,em,?_⟩
      rw[u5d,hsz];congr 3;omega
   |u8j cs=>
    simp only[r7B,hel]at*
    obtain⟨h0,hlt,h2,he⟩:=hok
    obtain⟨inf,w1D,hsz⟩:=r7D he
    cases hx with
    |tr h=>
     cases h with
     |u8j _ blk off cv hblk hown ha hc=>
      refine⟨.pointer (some ((⟨blk,off,none⟩:Addr).add (m.toNat*inf.size))),?_,?_⟩
      ·simp[Instr.indexAt,u0c,run_underlying hu,h0,hlt,r5V w1D,Instr.sureAddr]
      ·rw[u5d, ←hsz]
       refine .tr (.u8j _ blk _ (fun j=>cv (m.toNat*(r5c P el).size+j)) hblk hown (fun j hj=>?_) (fun j hj=>?_))
       ·simp[rowAt]at hj
        rw[Nat.add_assoc];exact ha _ (by omega)
       ·simp[rowAt]at hj
        simp only[rowAt,List.getElem_take,List.getElem_drop];exact hc _ (by omega)
   | _=>simp only[r7B,hel]at hok;exact hok.elim
 | _=>exact hok.elim
theorem w5r{P:Program}{t el:TypeId}{w:World}{μ:Mu}{st:St}{vx vi:Value}{x ix:D}(hx:VR w μ st vx x)(hi:VR w μ st vi ix)
 (hel:(r5c P t).k= .str∨∃n,(r5c P t).k= .arr n el)
 (hok:(u4E (r5c P t) (r5c P el) x ix).ok):
 ∃v,(Instr.index t vx vi).run P w= .ok v w∧VR w μ st v (u4E (r5c P t) (r5c P el) x ix).d:=by
 cases ix with
 |int k m=>
  have:=u0F hi;subst this
  rcases hel with hel|⟨N,hel⟩
  ·have hu:=u7C hel
   cases x with
   |str s=>
    simp only[u4E,hel]at*
    obtain⟨h0,hlt⟩:=hok
    have:=u3J hx;subst this
    have hmn:=toNat_lt h0 hlt
    refine⟨.int .u8 ((s[m.toNat]).toNat:Int),?_,?_⟩
    ·have e:(bs s)[m.toNat]? =some (s[m.toNat]):=by
      rw[ByteArray.getElem?_lt' _ _ (by simpa[bs,ByteArray.size]using hmn)]
      simp[bs,ByteArray.getElem_eq_getElem_data]
     simp[Instr.index,u0c,run_underlying hu,h0,e]
    ·have:s.getD m.toNat 0=s[m.toNat]:=by simp[List.getD,hmn]
     unfold r6p;rw[this];exact u0a _ _ _ _ _
   | _=>simp only[u4E,hel]at hok;exact hok.elim
  ·have hu:=x6F hel
   cases x with
   |agg cs=>
    simp only[u4E,hel]at*
    obtain⟨h0,hlt,hle,hk,h1⟩:=hok
    obtain⟨vs,rfl,hsz,hc⟩:=w3T hx
    obtain⟨inf,u,hi,hu2,es,_,ek,_⟩:=u6E hk
    have ea:u2p (some u)=(r5c P el).k.agg:=by rw[ek,w1T]
    obtain⟨v,h2,h3⟩:=w1Y (P:=P) (t:=el) (w:=w) (μ:=μ) (st:=st) (off:=m.toNat*(r5c P el).size) (sz:=(r5c P el).size) hsz hc hle h1 hu2 ea (fun _=>⟨inf,hi,es.symm⟩)
    refine⟨v,?_,h3⟩
    simp[Instr.index,u0c,run_underlying hu,h0,hlt,r5V hi, ←es,h2]
   | _=>simp only[u4E,hel]at hok;exact hok.elim
 | _=>exact hok.elim
theorem u5f{P:Program}{w:World}{μ:Mu}{st:St}{x:D}{v:Value}(h:VR w μ st v x)(hok:w3R (some x)){y:Nat}{code:BoundsCode}(hy:r6T (some x) 0≤y):
 (Instr.sliceBound v y code).run P w= .ok (r6T (some x) 0) w:=by
 cases x with
 |int k m=>
  have:=u0F h;subst this
  have h0:0≤m:=hok
  have h1:m≤(y:Int):=by simp only[r6T]at hy;omega
  simp[Instr.sliceBound,u0c,h0,h1,r6T]
 | _=>exact hok.elim
def x4g(w:World)(μ:Mu)(st:St):Option Value→Option D→Prop
 |none,none=>True
 |some v,some d=>VR w μ st v d
 | _,_=>False
theorem u2u{x:D}(h:w3R (some x))(n m:Nat):r6T (some x) n=r6T (some x) m:=by
 cases x with
 |int k i=>rfl
 | _=>exact h.elim
theorem w1E(n:Nat):r6T none n=n:=rfl
theorem u3T{P:Program}{w:World}{μ:Mu}{st:St}{lo hi mx:Option Value}{dlo dhi dmx:Option D}(hlo:x4g w μ st lo dlo)(hhi:x4g w μ st hi dhi)(hmx:x4g w μ st mx dmx)
 (blo:w3R dlo) (bhi:w3R dhi) (bmx:w3R dmx) {len cap:Nat} {isS:Bool} (hm:dmx.isSome=true→dhi.isSome=true)
 (h1:r6T dlo 0≤r6T dhi len) (h2:r6T dhi len≤r6T dmx cap) (h3:r6T dmx cap≤cap):
 (Instr.sliceBounds isS len cap lo hi mx).run P w= .ok (r6T dlo 0,r6T dhi len,r6T dmx cap) w:=by
 unfold Instr.sliceBounds
 cases dmx with
 |none=>
  cases mx with
  |some _=>exact hmx.elim
  |none=>
   cases dhi with
   |none=>
    cases hi with
    |some _=>exact hhi.elim
    |none=>
     cases dlo with
     |none=>cases lo with
      |some _=>exact hlo.elim
      |none=>simp[r6T]
     |some l=>cases lo with
      |none=>exact hlo.elim
      |some vl=>
       have e:=fun c=>u5f (P:=P) (code:=c) hlo blo (y:=len) (by simpa[r6T]using h1)
       simp[e,w1E]
   |some hD=>
    cases hi with
    |none=>exact hhi.elim
    |some vh=>
     have eh:=fun c=>u5f (P:=P) (code:=c) hhi bhi (y:=cap) (by rw[u2u bhi 0 len];simpa[r6T]using h2)
     have eq:=u2u bhi 0 len
     cases dlo with
     |none=>cases lo with
      |some _=>exact hlo.elim
      |none=>simp[eh,eq,w1E]
     |some l=>cases lo with
      |none=>exact hlo.elim
      |some vl=>
       have e:=fun c=>u5f (P:=P) (code:=c) hlo blo (y:=r6T (some hD) 0) (by rw[eq];exact h1)
       simp[eh,e,w1E];exact eq
 |some mD=>
  cases mx with
  |none=>exact hmx.elim
  |some vm=>
   have em:=fun c=>u5f (P:=P) (code:=c) hmx bmx (y:=cap) (by rw[u2u bmx 0 cap];exact h3)
   have eqm:=u2u bmx 0 cap
   cases dhi with
   |none=>exact absurd (hm rfl) (by simp)
   |some hD=>
    cases hi with
    |none=>exact hhi.elim
    |some vh=>
     have eq:=u2u bhi 0 len
     have eh:=fun c=>u5f (P:=P) (code:=c) hhi bhi (y:=r6T (some mD) 0) (by rw[eq,eqm];exact h2)
     cases dlo with
     |none=>cases lo with
      |some _=>exact hlo.elim
      |none=>simp[em,eh,w1E];exact⟨eq,eqm⟩
     |some l=>cases lo with
      |none=>exact hlo.elim
      |some vl=>
       have e:=fun c=>u5f (P:=P) (code:=c) hlo blo (y:=r6T (some hD) 0) (by rw[eq];exact h1)
       simp[em,eh,e];exact⟨eq,eqm⟩
theorem u4R(s:Bs):(bs s).size=s.length:=by simp[bs,ByteArray.size]
theorem w1Z(s:Bs)(l h:Nat):(bs s).extract l h=bs ((s.drop l).take (h-l)):=by
 apply ByteArray.ext
 simp[bs,ByteArray.data_extract,List.extract_toArray,List.extract_eq_take_drop]
theorem w5s{P:Program}{t:TypeId}{w:World}{μ:Mu}{st:St}{vx:Value}{x:D}{lo hi mx:Option Value}{dlo dhi dmx:Option D}{e:Nat}(hs:Sim w μ st)(hx:VR w μ st vx x)
 (hlo:x4g w μ st lo dlo) (hhi:x4g w μ st hi dhi) (hmx:x4g w μ st mx dmx) (he:∀el,(r5c P t).k= .slice el→e=(r5c P el).size)
 (hok:(u5U (r5c P t) e (look st) x dlo dhi dmx).ok):
 ∃v,(Instr.sliceAt t vx lo hi mx).run P w= .ok v w∧VR w μ st v (u5U (r5c P t) e (look st) x dlo dhi dmx).d:=by
 cases x with
 |str s=>
  simp only[u5U]at*
  obtain⟨hk,blo,bhi,rfl,h1,h2⟩:=hok
  have hu:=u7C hk
  have:=u3J hx;subst this
  cases mx with
  |some _=>exact hmx.elim
  |none=>
   have hb:=u3T (P:=P) (isS:=false) hlo hhi hmx blo bhi trivial (len:=(bs s).size) (cap:=(bs s).size) (by simp) (by rw[u4R];exact h1) (by rw[u4R];exact h2) (Nat.le_refl _)
   rw[u4R]at hb
   refine⟨.string (bs ((s.drop (r6T dlo 0)).take (r6T dhi s.length-r6T dlo 0))),?_,u9S _ _ _ _⟩
   simp[Instr.sliceAt,run_underlying hu,Instr.slice,hb,w1Z,u4R]
 |sl full n b es=>
  simp only[u5U]at*
  obtain⟨⟨el,hk⟩,hne,he0,blo,bhi,bmx,hm,h1,h2,h3⟩:=hok
  have hu:=u0K hk
  have hes:=he el hk
  obtain⟨inf,w1D,hsz⟩:=r7D (P:=P) (t:=el) (by rw[←hes];exact he0)
  cases hx with
  |tr h=>
   cases h with
   |sl _ _ _ _ a len cap cv hlen hcap u9j hb hb1 hn ha hc=>
    subst hlen
    cases dmx with
    |none=>
     cases mx with
     |some _=>exact hmx.elim
     |none=>
      simp only[w1E]at h2 h3
      have hb2:=u3T (P:=P) (isS:=true) hlo hhi hmx blo bhi trivial (len:=es.length) (cap:=cap) (by simp) h1 (by rw[w1E];omega) (Nat.le_refl _)
      refine⟨.slice (if cap=r6T dlo 0 then a else a.map (·.add (r6T dlo 0*inf.size))) (r6T dhi es.length-r6T dlo 0) (cap-r6T dlo 0),?_,?_⟩
      ·simp[Instr.sliceAt,run_underlying hu,Instr.slice,hb2,r5V w1D,w1E]
      ·refine .tr (.sl _ _ _ _ _ _ _ (fun i j=>cv (r6T dlo 0+i) j) (by simp;omega) (by omega) (fun hf=>?_) ?_ hb1 (fun e he=>hn e (List.mem_of_mem_drop (List.mem_of_mem_take he))) ?_ (fun i j hi hj=>?_))
       ·simp at hf
        have:=u9j hf.1
        omega
       ·have:((es.drop (r6T dlo 0)).take (r6T dhi es.length-r6T dlo 0)).length≤es.length:=by simp;omega
        exact Nat.le_trans (Nat.mul_le_mul_right b this) hb
       ·by_cases x6H:(es.drop (r6T dlo 0)).take (r6T dhi es.length-r6T dlo 0)=[]
        ·exact .inl x6H
        ·have hpos:0<((es.drop (r6T dlo 0)).take (r6T dhi es.length-r6T dlo 0)).length:=List.length_pos_iff.2 x6H
         simp at hpos
         rcases ha with ha|⟨blk,off,ea,hblk,hown,hcell⟩
         ·subst ha;simp at hpos
         ·refine .inr ⟨blk,off+r6T dlo 0*n,?_,hblk,hown,fun i j hi hj=>?_⟩
          ·rw[if_neg (by omega),ea,Option.map_some,u5d,hne,hes,hsz]
          ·simp at hi
           have:=hcell (r6T dlo 0+i) j (by omega) hj
           rw[Nat.add_mul]at this
           rw[show off+r6T dlo 0*n+(i*n+j)=off+(r6T dlo 0*n+i*n+j)by omega]
           exact this
       ·simp at hi
        have:=hc (r6T dlo 0+i) j (by omega) (by simpa using hj)
        simpa using this
    |some mD=>
     cases mx with
     |none=>exact hmx.elim
     |some vm=>
      have em:r6T (some mD) 0=r6T (some mD) es.length:=u2u bmx _ _
      have em2:r6T (some mD) cap=r6T (some mD) es.length:=u2u bmx _ _
      have hb2:=u3T (P:=P) (isS:=true) hlo hhi hmx blo bhi bmx (len:=es.length) (cap:=cap) hm h1 (by rw[em2];exact h2) (by omega)
      rw[em2]at hb2
      refine⟨.slice (if r6T (some mD) es.length=r6T dlo 0 then a else a.map (·.add (r6T dlo 0*inf.size))) (r6T dhi es.length-r6T dlo 0) (r6T (some mD) es.length-r6T dlo 0),?_,?_⟩
      ·simp[Instr.sliceAt,run_underlying hu,Instr.slice,hb2,r5V w1D]
      ·refine .tr (.sl _ _ _ _ _ _ _ (fun i j=>cv (r6T dlo 0+i) j) (by simp;omega) (by omega) (fun hf=>?_) ?_ hb1 (fun e he=>hn e (List.mem_of_mem_drop (List.mem_of_mem_take he))) ?_ (fun i j hi hj=>?_))
       ·simp at hf
        omega
       ·have:((es.drop (r6T dlo 0)).take (r6T dhi es.length-r6T dlo 0)).length≤es.length:=by simp;omega
        exact Nat.le_trans (Nat.mul_le_mul_right b this) hb
       ·by_cases x6H:(es.drop (r6T dlo 0)).take (r6T dhi es.length-r6T dlo 0)=[]
        ·exact .inl x6H
        ·have hpos:0<((es.drop (r6T dlo 0)).take (r6T dhi es.length-r6T dlo 0)).length:=List.length_pos_iff.2 x6H
         simp at hpos
         rcases ha with ha|⟨blk,off,ea,hblk,hown,hcell⟩
         ·subst ha;simp at hpos
         ·refine .inr ⟨blk,off+r6T dlo 0*n,?_,hblk,hown,fun i j hi hj=>?_⟩
          ·rw[if_neg (by omega),ea,Option.map_some,u5d,hne,hes,hsz]
          ·simp at hi
           have:=hcell (r6T dlo 0+i) j (by omega) hj
           rw[Nat.add_mul]at this
           rw[show off+r6T dlo 0*n+(i*n+j)=off+(r6T dlo 0*n+i*n+j)by omega]
           exact this
       ·simp at hi
        have:=hc (r6T dlo 0+i) j (by omega) (by simpa using hj)
        simpa using this
 |ref full o g off len=>
  simp only[u5U]at*
  cases hl:look st o with
  |none=>rw[hl]at hok;exact hok.elim
  |some ob=>
   rw[hl]at hok
   cases ob with
   |arr g' n b es=>
    obtain⟨⟨el,hk⟩,rfl,hne,he0,blo,bhi,bmx,hm,h1,h2,h3⟩:=hok
    have hu:=u0K hk
    have hes:=he el hk
    obtain⟨inf,w1D,hsz⟩:=r7D (P:=P) (t:=el) (by rw[←hes];exact he0)
    have ho:=r5w hl
    cases hx with
    |tr h=>cases h
    |ref _ _ _ _ _ _ hvv hol hr hg h=>
     obtain⟨a,cap,ev,c1,c2,c3,c4⟩:=h _ _ _ ho
     subst ev
     have shape:∀m f,r6T dhi len≤m→m≤cap→(f=true→m=r6T dhi len)→u6D w (μ o) n es f (off+r6T dlo 0) (r6T dhi len-r6T dlo 0)
      (.slice (if m=r6T dlo 0 then a else a.map (·.add (r6T dlo 0*inf.size))) (r6T dhi len-r6T dlo 0) (m-r6T dlo 0)):=by
      intro m f hm1 hm2 hmf
      refine⟨_,_,rfl,by omega,by omega,fun hf=>by rw[hmf hf],?_⟩
      by_cases hz:m=r6T dlo 0
      ·left;omega
      ·right
       rcases c4 with c4|⟨blk,base,em,ea,c,ty,hh,y1P⟩
       ·omega
       ·refine⟨blk,base,em,?_,c,ty,hh,?_⟩
        ·rw[if_neg hz,ea,Option.map_some,u5d, ←hsz, ←hes, ←hne,Nat.add_mul];congr 2;omega
        ·have:(off+r6T dlo 0+(m-r6T dlo 0))*n≤(off+cap)*n:=Nat.mul_le_mul_right n (by omega)
         omega
     cases dmx with
     |none=>
      cases mx with
      |some _=>exact hmx.elim
      |none=>
       simp only[w1E]at h2 h3
       have hb2:=u3T (P:=P) (isS:=true) hlo hhi hmx blo bhi trivial (len:=len) (cap:=cap) (by simp) h1 (by rw[w1E];omega) (Nat.le_refl _)
       refine⟨.slice (if cap=r6T dlo 0 then a else a.map (·.add (r6T dlo 0*inf.size))) (r6T dhi len-r6T dlo 0) (cap-r6T dlo 0),by simp[Instr.sliceAt,run_underlying hu,Instr.slice,hb2,r5V w1D,w1E],.ref _ _ o g' _ _ ⟨_,_,_,rfl⟩ hol hr hg (fun n' b' es' e'=>?_)⟩
       rw[ho]at e';cases e'
       refine shape cap _ (by omega) (Nat.le_refl _) (fun hf=>?_)
       simp at hf
       have:=c3 hf.1
       omega
     |some mD=>
      cases mx with
      |none=>exact hmx.elim
      |some vm=>
       have em:r6T (some mD) 0=r6T (some mD) len:=u2u bmx _ _
       have em2:r6T (some mD) cap=r6T (some mD) len:=u2u bmx _ _
       have hb2:=u3T (P:=P) (isS:=true) hlo hhi hmx blo bhi bmx (len:=len) (cap:=cap) hm h1 (by rw[em2];exact h2) (by omega)
       rw[em2]at hb2
       refine⟨.slice (if r6T (some mD) len=r6T dlo 0 then a else a.map (·.add (r6T dlo 0*inf.size))) (r6T dhi len-r6T dlo 0) (r6T (some mD) len-r6T dlo 0),by simp[Instr.sliceAt,run_underlying hu,Instr.slice,hb2,r5V w1D],.ref _ _ o g' _ _ ⟨_,_,_,rfl⟩ hol hr hg (fun n' b' es' e'=>?_)⟩
       rw[ho]at e';cases e'
       refine shape (r6T (some mD) len) _ (by omega) (by omega) (fun hf=>?_)
       simp at hf
       omega
   |mps=>exact hok.elim
   |mpi=>exact hok.elim
   |sit=>exact hok.elim
   |resv=>exact hok.elim
 |r5g=>
  simp only[u5U]at*
  obtain⟨⟨el,hk⟩,he0,blo,bhi,bmx,hm,h1,h2,h3⟩:=hok
  have hu:=u0K hk
  obtain⟨inf,w1D,hsz⟩:=r7D (P:=P) (t:=el) (by rw[←he el hk];exact he0)
  have:=u5t hx;subst this
  have hb2:=u3T (P:=P) (isS:=true) hlo hhi hmx blo bhi bmx (len:=0) (cap:=0) hm (by omega) (by omega) (by omega)
  refine⟨.slice none 0 0,?_,.tr .r5g⟩
  simp[Instr.sliceAt,run_underlying hu,Instr.slice,hb2,r5V w1D,h1,h2,h3]
 | _=>exact hok.elim
def u7D(w:World)(μ:Mu)(st:St)(vs:Array Value)(cs:List D):Prop:=vs.size=cs.length∧∀j (h:j<cs.length),VR w μ st (vs.getD j undef) (cs[j])
theorem u9V(off:Nat):∀(l:List (Value×Nat)) (cells:Array Value),(l.foldl (fun cs (p:Value×Nat)=>cs.setIfInBounds (off+p.2) p.1) cells).size=cells.size
 | [],_=>rfl
 |p::l,cells=>by simp only[List.foldl_cons];rw[u9V off l];simp
theorem w2B(off:Nat):∀(vs:List Value) (k:Nat) (cells:Array Value) (q:Nat),off+k+vs.length≤cells.size→
 ((vs.zipIdx k).foldl (fun cs (p:Value×Nat)=>cs.setIfInBounds (off+p.2) p.1) cells)[q]? =if off+k≤q∧q<off+k+vs.length then vs[q-(off+k)]? else cells[q]?
 | [],k,cells,q,_=>by simp;omega
 |v::vs,k,cells,q,h=>by
  simp only[List.zipIdx_cons,List.foldl_cons]
  rw[w2B off vs (k+1) _ q (by simp at h ⊢; omega)]
  simp only[List.length_cons]at*
  by_cases h1:q=off+k
  ·subst h1
   rw[if_neg (by omega),if_pos (by omega)]
   simp[Array.getElem?_setIfInBounds];omega
  ·by_cases h2:off+(k+1)≤q∧q<off+(k+1)+vs.length
   ·rw[if_pos h2,if_pos (by omega)]
    rw[show q-(off+k)=(q-(off+(k+1)))+1 by omega,List.getElem?_cons_succ]
   ·rw[if_neg h2,if_neg (by omega),Array.getElem?_setIfInBounds_ne (by omega)]
theorem u4S{vs:Array Value}{j:Nat}{v:Value}(h:vs[j]? =some v):vs.getD j undef=v:=by simp[Array.getD_eq_getD_getElem?, h]
theorem u7D.splice{w:World}{μ:Mu}{st:St}{vs:Array Value}{cs:List D}{us:Array Value}{ds:List D}{off:Nat}(h:u7D w μ st vs cs)(h2:u7D w μ st us ds)
 (hle:off+ds.length≤cs.length):u7D w μ st (us.zipIdx.foldl (fun cs (c,j)=>cs.setIfInBounds (off+j) c) vs) (splice cs off ds):=by
 have e:(us.zipIdx.foldl (fun cs (c,j)=>cs.setIfInBounds (off+j) c) vs)=((us.toList.zipIdx 0).foldl (fun cs (p:Value×Nat)=>cs.setIfInBounds (off+p.2) p.1) vs):=by
  rw[←Array.foldl_toList];simp
 rw[e]
 refine⟨by rw[u9V,u2q hle];exact h.1,fun j hj=>?_⟩
 rw[u2q hle]at hj
 have hg:=w2B off us.toList 0 vs j (by simp;rw[h.1,h2.1];omega)
 have hsg:=w1W hle j
 rw[List.getElem?_eq_getElem (by rw[u2q hle];exact hj)]at hsg
 by_cases hin:off≤j∧j<off+ds.length
 ·rw[if_pos (by simp;rw[h2.1];omega)]at hg
  rw[if_pos hin,List.getElem?_eq_getElem (by omega)]at hsg
  rw[Option.some.inj hsg]
  have:=h2.2 (j-off) (by omega)
  have hlt:j-off<us.size:=by rw[h2.1];omega
  rw[u4S (v:=us[j-off]) (by simpa[hlt]using hg)]
  simpa[Array.getD_eq_getD_getElem?, hlt]using this
 ·rw[if_neg (by simp;rw[h2.1];omega)]at hg
  rw[if_neg hin,List.getElem?_eq_getElem hj]at hsg
  rw[Option.some.inj hsg]
  have:=h.2 j hj
  have hlt:j<vs.size:=by rw[h.1];omega
  rw[u4S (v:=vs[j]) (by simpa[hlt]using hg)]
  simpa[Array.getD_eq_getD_getElem?, hlt]using this
theorem u9W{w:World}{μ:Mu}{st:St}{v:Value}{ag:Bool}{sz:Nat}{x:D}(h:VR w μ st v x)(hok:w3S ag sz x):
 u7D w μ st v.cells (u5e ag x)∧(u5e ag x).length=sz:=by
 unfold w3S at hok
 unfold u5e
 split at hok
 ·rename_i hag
  cases x with
  |agg cs=>
   simp only[hag,if_true]
   obtain⟨vs,rfl,hsz,hc⟩:=w3T h
   exact⟨⟨hsz,hc⟩,hok⟩
  | _=>exact hok.elim
 ·rename_i hag
  obtain⟨h1,hsz⟩:=hok
  have x3t:=one_cell h h1
  have hcs:v.cells= #[v]:=by cases v<;>first|rfl|(simp[Value.oneCell']at x3t)
  simp only[hag]
  refine⟨⟨by rw[hcs];rfl,fun j hj=>?_⟩,by simp[hsz]⟩
  simp at hj
  subst hj
  rw[hcs];simpa using h
theorem u5g{P:Program}{t:TypeId}{w:World}{μ:Mu}{st:St}(hz:(r5c P t).zero.length=(r5c P t).size)(h0:(r5c P t).size≠0):
 ∃inf z,P.info? t=some inf∧inf.zero=some z∧u7D w μ st z.cells (r5c P t).zero:=by
 obtain⟨inf,hi,hsz⟩:=r7D h0
 cases hzz:inf.zero with
 |none=>exfalso;apply h0;rw[←hz];simp[r5c,hi,hzz]
 |some z=>
  have ez:=u8U hzz hi
  refine⟨inf,z,hi,hzz,by rw[ez];simp,fun j hj=>?_⟩
  rw[ez]at hj
  simp at hj
  simp only[ez,List.getElem_map,Array.getElem_toList]
  rw[u4S (v:=z.cells[j]) (by simp[hj])]
  exact u3m _ _ _ _
def u9X(w:World)(μ:Mu)(st:St):List (Nat×Value)→List (Nat×D)→Prop
 | [],[]=>True
 |(i,v)::a,(j,d)::b=>i=j∧VR w μ st v d∧u9X w μ st a b
 | _,_=>False
theorem u9Y{w:World}{μ:Mu}{st:St}{fs:List (Nat×Nat×Bool)}{place:Nat→Option (Nat×Nat)}{size:Nat}
 (hp:∀f off sz ag,fs[f]? =some (off,sz,ag)→place f=some (off,sz)):
 ∀(ps:List (Nat×Value)) (ds:List (Nat×D)) (vs:Array Value) (cs:List D),u9X w μ st ps ds→u7D w μ st vs cs→cs.length=size→u2r fs size ds→
  ∃vs',Instr.fill place vs ps=some vs'∧u7D w μ st vs' (u3W fs cs ds)
 | [],[],vs,cs,_,h,_,_=>⟨vs,rfl,h⟩
 |(i,v)::ps,(j,d)::ds,vs,cs,hps,h,hl,hok=>by
  obtain⟨rfl,hv,hps⟩:=hps
  simp only[u2r]at hok
  cases hf:fs[i]? with
  |none=>rw[hf]at hok;exact hok.elim
  |some x=>
   obtain⟨off,sz,ag⟩:=x
   rw[hf]at hok
   obtain⟨h1,h2,h3⟩:=hok
   obtain⟨c1,c2⟩:=u9W hv h1
   have x5Q:=h.splice c1 (off:=off) (by rw[c2,hl];exact h2)
   obtain⟨vs',e1,e2⟩:=u9Y hp ps ds _ _ hps x5Q (by rw[u2q (by rw[c2,hl];exact h2)];exact hl) h3
   refine⟨vs',?_,by simp only[u3W,hf];exact e2⟩
   simp only[Instr.fill,hp _ _ _ _ hf]
   rw[if_neg]
   ·exact e1
   ·simp only[Bool.or_eq_true,decide_eq_true_eq,not_or,ne_eq]
    refine⟨?_,?_⟩
    ·rw[c1.1,c2];simp
    ·rw[c1.1,c2,h.1,hl];simp;exact h2
 | [],_::_,_,_,h,_,_,_=>h.elim
 | _::_,[],_,_,h,_,_,_=>h.elim
theorem u9Z{P:Program}:∀(l:List Field),(∀f∈l,∃inf,P.info? f.type=some inf)→
 l.mapM (fun f=>(P.info? f.type).map fun i=>(f.offset,i.size))=some (l.map fun f=>(f.offset,((P.info? f.type).map (·.size)).getD 0))
 | [],_=>rfl
 |f::l,h=>by
  obtain⟨inf,hi⟩:=h f (by simp)
  have ih:=u9Z (P:=P) l (fun g hg=>h g (by simp[hg]))
  simp[List.mapM_cons,hi,ih]
theorem w5t{P:Program}{t el:TypeId}{w:World}{μ:Mu}{st:St}{ps:Array (Nat×Value)}{ds:List (Nat×D)}(hps:u9X w μ st ps.toList ds)
 (hk:(∃fs,(r5c P t).k= .struct fs)∨False)
 (hok:(u7A (r5c P t) (r5c P el) ds).ok):
 ∃v,(Instr.build t ps).run P w= .ok v w∧VR w μ st v (u7A (r5c P t) (r5c P el) ds).d:=by
 rcases hk with⟨fs,hk⟩|h
 ·have hkk:=hk
  simp only[u7A,hk]at hok⊢
  obtain⟨h1,h2,h3,h4⟩:=hok
  obtain⟨fields,hu,rfl⟩:=w2A hk
  obtain⟨inf,z,hi,hz,hc⟩:=u5g (w:=w) (μ:=μ) (st:=st) h1 h2
  have hall:∀f∈fields.toList,∃inf u,P.info? f.type=some inf∧P.underlying f.type=some u∧inf.size=fsz P f.type:=fun f hf=>by
   have:=List.all_eq_true.1 h3 _ (List.mem_map_of_mem hf)
   exact u9R rfl (by simpa using this)
  have hm:=u9Z (P:=P) fields.toList (fun f hf=>let ⟨inf,_,h,_⟩:=hall f hf;⟨inf,h⟩)
  obtain⟨vs',e1,e2⟩:=u9Y (w:=w) (μ:=μ) (st:=st) (place:=fun f=>(fields.toList.map fun f=>(f.offset,((P.info? f.type).map (·.size)).getD 0)).toArray[f]?) (size:=(r5c P t).size) (fun f off sz ag hf=>by
   obtain⟨fld,a1,a2,a3,a4⟩:=w8V hf
   obtain⟨y3X,u2,b1,b2,b3⟩:=hall fld (by simpa using Array.mem_of_getElem? a1)
   have a1':fields.toList[f]? =some fld:=by simpa using a1
   simp[a1',b1,b3,a2,a3]) ps.toList ds z.cells (r5c P t).zero hps hc h1 h4
  refine⟨.agg vs',run_build w t ps vs' ?_,.agg _ _ e2.1 e2.2⟩
  simp only[Program.built,hi,hu,hz,hm]
  exact e1
 ·exact h.elim
def u9k(w:World)(μ:Mu)(st:St)(n:Nat)(vs:Array Value)(es:List (List D)):Prop:=
 vs.size=es.length*n∧(∀e∈es,e.length=n)∧∀i j (hi:i<es.length) (hj:j<(es[i]).length),∃v,vs[i*n+j]? =some v∧VR w μ st v ((es[i])[j])∧v.oneCell'=true
theorem w0a{w:World}{μ:Mu}{st:St}{z:Value}{zs:List D}{len:Nat}(h:u7D w μ st z.cells zs)(h1:zs.all D.one=true)(h0:zs.length≠0):
 u9k w μ st zs.length ((Array.range (len*zs.length)).map (z.cells[· %z.cells.size]!)) (List.replicate len zs):=by
 refine⟨by simp,fun e he=>by rw[List.eq_of_mem_replicate he],fun i j hi hj=>?_⟩
 simp at hi
 simp only[List.getElem_replicate]at hj⊢
 have hlt:i*zs.length+j<len*zs.length:=by
  have:(i+1)*zs.length≤len*zs.length:=Nat.mul_le_mul_right _ hi
  rw[Nat.add_mul]at this;omega
 have hmod:(i*zs.length+j)%z.cells.size=j:=by
  rw[h.1,Nat.add_comm,Nat.add_mul_mod_self_right,Nat.mod_eq_of_lt hj]
 have hjs:j<z.cells.size:=by rw[h.1];exact hj
 have hv:=h.2 j hj
 rw[u4S (v:=z.cells[j]) (by simp[hjs])]at hv
 refine⟨z.cells[j],?_,hv,one_cell hv (List.all_eq_true.1 h1 _ (List.getElem_mem hj))⟩
 rw[Array.getElem?_map,Array.getElem?_range]
 simp[hlt,hmod,hjs]
theorem u9k.set{w:World}{μ:Mu}{st:St}{n:Nat}{vs:Array Value}{es:List (List D)}{us:Array Value}{ds:List D}{k:Nat}(h:u9k w μ st n vs es)(hk:k<es.length)
 (hsz:us.size=n) (hl:ds.length=n) (hu:∀j (hj:j<ds.length),∃u,us[j]? =some u∧VR w μ st u (ds[j])∧u.oneCell'=true):
 u9k w μ st n (us.zipIdx.foldl (fun cs (c,j)=>cs.setIfInBounds (k*n+j) c) vs) (es.set k ds):=by
 have e:(us.zipIdx.foldl (fun cs (c,j)=>cs.setIfInBounds (k*n+j) c) vs)=((us.toList.zipIdx 0).foldl (fun cs (p:Value×Nat)=>cs.setIfInBounds (k*n+p.2) p.1) vs):=by
  rw[←Array.foldl_toList];simp
 rw[e]
 have hkn:k*n+n≤es.length*n:=by
  have:(k+1)*n≤es.length*n:=Nat.mul_le_mul_right n hk
  rw[Nat.add_mul]at this;omega
 have hg:=fun q=>w2B (k*n) us.toList 0 vs q (by simp;rw[h.1,hsz];exact hkn)
 refine⟨by rw[u9V,h.1];simp,fun x hx=>?_,fun i j hi hj=>?_⟩
 ·rcases List.mem_or_eq_of_mem_set hx with h'|h'
  ·exact h.2.1 x h'
  ·rw[h'];exact hl
 ·simp at hi
  rw[hg]
  by_cases hik:i=k
  ·subst hik
   simp only[List.getElem_set_self]at hj⊢
   obtain⟨u,eu,hu1,hu2⟩:=hu j hj
   refine⟨u,?_,hu1,hu2⟩
   rw[if_pos (by simp;rw[hsz];omega)]
   simpa using eu
  ·have w1X:(es.set k ds)[i]'(by simpa using hi)=es[i]:=by simp[List.getElem_set,Ne.symm hik]
   simp only[w1X]at hj⊢
   obtain⟨u,eu,hu1,hu2⟩:=h.2.2 i j hi hj
   have hji:j<n:=by rw[←h.2.1 _ (List.getElem_mem hi)];exact hj
   have:=x3u hji hik
   refine⟨u,?_,hu1,hu2⟩
   rw[if_neg (by simp;rw[hsz];omega)];exact eu
theorem w0b{w:World}{μ:Mu}{st:St}{e:TI}{len:Nat}:
 ∀(ps:List (Nat×Value)) (ds:List (Nat×D)) (vs:Array Value) (es:List (List D)),u9X w μ st ps ds→u9k w μ st e.size vs es→es.length=len→(∀p∈ds,u3v e p.2∧p.1<len)→
  ∃vs',Instr.fill (fun i=>some (i*e.size,e.size)) vs ps=some vs'∧u9k w μ st e.size vs' (u4Q es (ds.map fun p=>(p.1,cellsOf e p.2)))
 | [],[],vs,es,_,h,_,_=>⟨vs,rfl,h⟩
 |(i,v)::ps,(j,d)::ds,vs,es,hps,h,hl,hok=>by
  obtain⟨rfl,hv,hps⟩:=hps
  obtain⟨h1,h2⟩:=hok (i,d) (by simp)
  obtain⟨c1,c2,c3⟩:=u7f hv h1
  have w1X:=h.set (k:=i) (by omega) c1 c2 c3
  obtain⟨vs',e1,e2⟩:=w0b ps ds _ _ hps w1X (by simpa using hl) (fun p hp=>hok p (by simp[hp]))
  refine⟨vs',?_,e2⟩
  simp only[Instr.fill]
  rw[if_neg]
  ·exact e1
  ·simp only[Bool.or_eq_true,decide_eq_true_eq,not_or,ne_eq]
   have:i*e.size+e.size≤es.length*e.size:=by
    have:(i+1)*e.size≤es.length*e.size:=Nat.mul_le_mul_right _ (by simp at h2;omega)
    rw[Nat.add_mul]at this;omega
   refine⟨by simp[c1],?_⟩
   rw[c1,h.1];simp;exact this
 | [],_::_,_,_,h,_,_,_=>h.elim
 | _::_,[],_,_,h,_,_,_=>h.elim
theorem u6Z(l:List (Nat×List D)):∀(es:List (List D)),(u4Q es l).length=es.length:=by
 induction l with
 |nil=>intro es;rfl
 |cons p l ih=>intro es;simp only[u4Q,ih];simp
theorem u9l{P:Program}{t el:TypeId}{w:World}{μ:Mu}{st:St}{ps:Array (Nat×Value)}{ds:List (Nat×D)}{len q:Nat}(hs:Sim w μ st)(hps:u9X w μ st ps.toList ds)
 (hel:(r5c P t).k= .slice el) (hok:(u3X (r5c P t) (r5c P el) len ds q).ok) (hq:st[q]? =some (some .resv)):
 ∃v w' μ' ob,(Instr.buildSlice t len ps).run P w= .ok v w'∧(u3X (r5c P t) (r5c P el) len ds q).new=some ob∧Sim w' μ' (st.set q (some ob))∧Step w μ st w' μ' (st.set q (some ob))∧
  VR w' μ' (st.set q (some ob)) v (u3X (r5c P t) (r5c P el) len ds q).d:=by
 obtain⟨_,h1,h2,h3,h4,h5,h6⟩:=hok
 have hu:=u0K hel
 obtain⟨inf,z,hi,hz,hc⟩:=u5g (w:=w) (μ:=μ) (st:=st) h1 h2
 obtain⟨inf',hi',hsz⟩:=r7D h2
 rw[hi]at hi';cases hi'
 have hz0:=w0a (len:=len) hc h3 (by rw[h1];exact h2)
 rw[h1]at hz0
 obtain⟨vs',e1,e2⟩:=w0b (len:=len) ps.toList ds _ _ hps hz0 (by simp) h4
 have hlt:q<st.length:=(List.getElem?_eq_some_iff.1 hq).1
 have hlen:(u4Q (List.replicate len (r5c P el).zero) (ds.map fun p=>(p.1,cellsOf (r5c P el) p.2))).length=len:=by rw[u6Z];simp
 have h:=u3L (x:=.cells vs' el) (ob:=.arr 0 (r5c P el).size (r5c P el).bytes (u4Q (List.replicate len (r5c P el).zero) (ds.map fun p=>(p.1,cellsOf (r5c P el) p.2)))) hs hq
  (fun s=>u8l e2.2.2 (by rw[e2.1];exact Nat.le_refl _) e2.2.1 (by rw[hlen];exact h6) s)
 refine⟨.slice (some ⟨w.heap.size,0,none⟩) len len,_,_,_,?_,rfl,h.1,h.2,?_⟩
 ·have h5':¬(2^24<len*inf.size):=by rw[←hsz];omega
  have w5u:Instr.fill (fun i=>some (i*inf.size,inf.size)) ((Array.range (len*inf.size)).map (z.cells[· %z.cells.size]!)) ps.toList=some vs':=by
   rw[←hsz];exact e1
  by_cases hl0:len*inf.size=0
  ·have:len=0:=by
    rcases Nat.mul_eq_zero.1 hl0 with h|h
    ·exact h
    ·rw[←hsz]at h;exact absurd h h2
   subst this
   have r0:Array.range 0=(#[]:Array Nat):=rfl
   simp[r0]at w5u
   simp[Instr.buildSlice,run_underlying hu,r5V hi,newRow,r0,w5u]
  ·simp only[Instr.buildSlice,run_underlying hu,Sem.run_bind,Result.andThen_ok,r5V hi]
   simp[h5',hl0,zeroValue,typeInfo,hi,hz,newRow]
   rw[w5u]
   simp
 ·refine .ref _ true q 0 0 len ⟨_,_,_,rfl⟩ (by simpa using hlt) (by simp[hlt]) (fun g' n b es e=>Nat.zero_le _) (fun n b es e=>?_)
  rw[List.getElem?_set_self hlt]at e
  cases e
  refine⟨_,_,rfl,Nat.le_refl _,by rw[hlen];omega,fun _=>rfl,.inr ⟨w.heap.size,0,by rw[r5Z],by simp,vs',el,heap_alloc_new _ _,?_⟩⟩
  rw[e2.1,hlen];simp
theorem w0c{P:Program}{t el:TypeId}{w:World}{μ:Mu}{st:St}{vl vc:Value}{l c:D}{q:Nat}(hs:Sim w μ st)(hl:VR w μ st vl l)(hc:VR w μ st vc c)
 (hel:(r5c P t).k= .slice el) (hok:(r8Q (r5c P t) (r5c P el) l c q).ok) (hq:st[q]? =some (some .resv)):
 ∃v w' μ' ob,(Instr.makeSlice t vl vc).run P w= .ok v w'∧(r8Q (r5c P t) (r5c P el) l c q).new=some ob∧Sim w' μ' (st.set q (some ob))∧Step w μ st w' μ' (st.set q (some ob))∧
  VR w' μ' (st.set q (some ob)) v (r8Q (r5c P t) (r5c P el) l c q).d:=by
 unfold r8Q at hok
 split at hok
 ·rename_i l c
  have:=u0F hl;subst this
  have:=u0F hc;subst this
  obtain⟨_,g1,g2,g3,g4,h1,h2,h3⟩:=hok
  have hu:=u0K hel
  obtain⟨inf,z,hi,hz,hcz⟩:=u5g (w:=w) (μ:=μ) (st:=st) h1 h2
  obtain⟨inf',hi',hsz⟩:=r7D h2
  rw[hi]at hi';cases hi'
  have hbytes:(r5c P el).bytes=inf.bytes:=by simp[r5c,hi]
  have hz0:=w0a (len:=c.toNat) hcz h3 (by rw[h1];exact h2)
  rw[h1]at hz0
  have hlt:q<st.length:=(List.getElem?_eq_some_iff.1 hq).1
  have hlc:l.toNat≤c.toNat:=by omega
  have htake:∀i j (hi':i<(List.replicate l.toNat (r5c P el).zero).length) (hj:j<((List.replicate l.toNat (r5c P el).zero)[i]).length),∃v,
   ((Array.range (c.toNat*(r5c P el).size)).map (z.cells[· %z.cells.size]!))[i*(r5c P el).size+j]? =some v∧VR w μ st v (((List.replicate l.toNat (r5c P el).zero)[i])[j])∧v.oneCell'=true:=by
   intro i j hi' hj
   simp at hi'
   have:=hz0.2.2 i j (by simp;omega) (by simpa using hj)
   simpa using this
  have h:=u3L (x:=.cells ((Array.range (c.toNat*(r5c P el).size)).map (z.cells[· %z.cells.size]!)) el) (ob:=.arr 0 (r5c P el).size (r5c P el).bytes (List.replicate l.toNat (r5c P el).zero)) hs hq
   (fun s=>u8l htake (by simp;exact Nat.mul_le_mul_right _ hlc) (fun e he=>by rw[List.eq_of_mem_replicate he];exact h1) (by simp;exact Nat.le_trans (Nat.mul_le_mul_right _ hlc) g3) s)
  refine⟨.slice (some ⟨w.heap.size,0,none⟩) l.toNat c.toNat,_,_,_,?_,rfl,h.1,h.2,?_⟩
  ·have t1:top=140737488355328:=rfl
   have wl:IntKind.i64.wrap l=l:=IntWalk.i64_in l (by omega)
   have wc:IntKind.i64.wrap c=c:=IntWalk.i64_in c (by omega)
   have b1:((inf.bytes:Int)*c)≤281474976710656:=by
    rw[hbytes]at g3
    have:(inf.bytes:Int)*c=((c.toNat*inf.bytes:Nat):Int):=by
     rw[Nat.mul_comm,Int.natCast_mul];congr 1;omega
    rw[this];omega
   have n1:¬c<0:=by omega
   have n2:¬l<0:=by omega
   have n3:¬c<l:=by omega
   have n4:¬(281474976710656<(inf.bytes:Int)*c):=by omega
   by_cases hc0:c.toNat*inf.size=0
   ·have y1Q:c.toNat=0:=by
     rcases Nat.mul_eq_zero.1 hc0 with h|h
     ·exact h
     ·rw[←hsz]at h;exact absurd h h2
    have hl00:l.toNat=0:=by omega
    simp[Instr.makeSlice,run_underlying hu,asInt,u0c,typeInfo,hi,wl,wc,n1,n2,n3,n4,r5V hi,newRow,y1Q,hl00,show Array.range 0=(#[]:Array Nat)from rfl]
   ·simp[Instr.makeSlice,run_underlying hu,asInt,u0c,typeInfo,hi,wl,wc,n1,n2,n3,n4,r5V hi,newRow,zeroValue,hz, ←hsz]
    rw[hsz]
    simp[hc0]
  ·refine .ref _ _ q 0 0 l.toNat ⟨_,_,_,rfl⟩ (by simpa using hlt) (by simp[hlt]) (fun g' n b es e=>Nat.zero_le _) (fun n b es e=>?_)
   rw[List.getElem?_set_self hlt]at e
   cases e
   refine⟨_,_,rfl,hlc,by simp,fun hf=>?_,.inr ⟨w.heap.size,0,by rw[r5Z],by simp,_,el,heap_alloc_new _ _,by simp⟩⟩
   simp at hf;rw[hf]
 ·exact hok.elim
theorem w2C{P:Program}{t:TypeId}{w:World}{μ:Mu}{st:St}{k:TI}{ag:Bool}{q:Nat}(hs:Sim w μ st)(hok:(u1C (r5c P t) k ag q).ok)(hq:st[q]? =some (some .resv)):
 ∃v w' μ' ob,(Instr.makeMap t none).run P w= .ok v w'∧(u1C (r5c P t) k ag q).new=some ob∧Sim w' μ' (st.set q (some ob))∧Step w μ st w' μ' (st.set q (some ob))∧
  VR w' μ' (st.set q (some ob)) v (u1C (r5c P t) k ag q).d:=by
 have hlt:q<st.length:=(List.getElem?_eq_some_iff.1 hq).1
 unfold u1C at hok⊢
 split at hok
 ·have h:=u3L (x:=.map #[] 0) (ob:=.mps ag []) hs hq (fun s=>⟨⟨w.heap.size, #[],0,[],rfl,heap_alloc_new _ _,rfl,fun i hi=>absurd hi (Nat.not_lt_zero _),⟨.refl _,List.nodup_nil,rfl,fun i e h=>by simp at h⟩⟩⟩)
  refine⟨.map (some w.heap.size),_,_,_,rfl,rfl,h.1,h.2,?_⟩
  refine .mp _ q ⟨_,rfl⟩ (by simpa using hlt) (by simp[hlt]) (fun _ es e=>⟨_,r5Z _ _ _,rfl⟩) (fun _ k es e=>⟨_,r5Z _ _ _,rfl⟩)
 ·rename_i kk _ _
  have h:=u3L (x:=.map #[] 0) (ob:=.mpi ag kk []) hs hq (fun s=>⟨⟨w.heap.size, #[],0,[],rfl,heap_alloc_new _ _,rfl,fun i hi=>absurd hi (Nat.not_lt_zero _),⟨.refl _,List.nodup_nil,rfl,fun i e h=>by simp at h⟩⟩⟩)
  refine⟨.map (some w.heap.size),_,_,_,rfl,rfl,h.1,h.2,?_⟩
  refine .mp _ q ⟨_,rfl⟩ (by simpa using hlt) (by simp[hlt]) (fun _ es e=>⟨_,r5Z _ _ _,rfl⟩) (fun _ k es e=>⟨_,r5Z _ _ _,rfl⟩)
 ·exact hok.elim
theorem x1P{k:IntKind}{n:Int}(h:InK k n)(hs:k.signed=true):k.wrap n=n:=by
 unfold InK IntKind.min IntKind.max at h
 rw[hs]at h
 simp only[if_true]at h
 unfold IntKind.wrap
 simp only[hs,Bool.true_and]
 cases k<;>simp[IntKind.signed]at hs<;>simp only[IntKind.bits]at h⊢ <;>simp at h⊢ <;>split<;>omega
theorem w5v{k:IntKind}{n:Int}(h:InK k n):k.wrap n=n:=by
 cases hs:k.signed with
 |true=>exact x1P h hs
 |false=>
  unfold InK IntKind.min IntKind.max at h
  rw[hs]at h
  unfold IntKind.wrap
  rw[hs]
  simp only[Bool.false_and,Bool.false_eq_true,if_false]at h⊢
  cases k<;>simp[IntKind.signed]at hs<;>simp only[IntKind.bits]at h⊢ <;>simp at h⊢ <;>omega
theorem u5u{w:World}{μ:Mu}{st:St}{k:IntKind}{n:Int}(hok:(arith k n).ok):VR w μ st (.int k (k.wrap n)) (arith k n).d:=by
 exact u0a _ _ _ _ _
theorem w5w(P:Program)(w:World)(op:BinOp)(t:TypeId)(x y:Operand)(k k':IntKind)(a b:Int):(eqGuard op t x y (.int k a) (.int k' b)).run P w= .ok () w:=by
 unfold eqGuard;simp
theorem w5x(P:Program)(w:World)(op:BinOp)(t:TypeId)(x y:Operand)(a b:ByteArray):(eqGuard op t x y (.string a) (.string b)).run P w= .ok () w:=by
 unfold eqGuard;simp
theorem u8V(P:Program)(w:World)(op:BinOp)(t:TypeId)(x y:Operand)(a b:Bool):(eqGuard op t x y (.bool a) (.bool b)).run P w= .ok () w:=by
 unfold eqGuard;simp
theorem u3n(s:Bs):(bs s).toList=s:=by simp[bs]
theorem u3w{α:Type}[BEq α][LawfulBEq α][DecidableEq α](a b:α):(a==b)=decide (a=b):=by
 by_cases h:a=b
 ·subst h;simp
 ·simp[h]
theorem w8W{P:Program}{t:TypeId}{w:World}{μ:Mu}{st:St}{vx vy:Value}{x y:D}{op:BinOp}(hx:VR w μ st vx x)(hy:VR w μ st vy y)
 (hok:(u8m op x y).ok):∃v,(binOp op t vx vy).run P w= .ok v w∧VR w μ st v (u8m op x y).d∧((∃k a k' b,vx= .int k a∧vy= .int k' b)∨∃a b,vx= .string a∧vy= .string b):=by
 unfold u8m at hok
 split at hok
 ·rename_i k a k' b
  have:=u0F hx;subst this
  have:=u0F hy;subst this
  have both:(∃k1 a1 k2 b1,Value.int k a= .int k1 a1∧Value.int k' b= .int k2 b1)∨∃a1 b1,Value.int k a= .string a1∧Value.int k' b= .string b1:=.inl ⟨_,_,_,_,rfl,rfl⟩
  have bo:∀r,(∃v,(binOp op t (.int k a) (.int k' b)).run P w= .ok v w∧VR w μ st v r)→∃v,(binOp op t (.int k a) (.int k' b)).run P w= .ok v w∧VR w μ st v r∧
   ((∃k1 a1 k2 b1,Value.int k a= .int k1 a1∧Value.int k' b= .int k2 b1)∨∃a1 b1,Value.int k a= .string a1∧Value.int k' b= .string b1):=fun r ⟨v,h1,h2⟩=>⟨v,h1,h2,both⟩
  apply bo
  split at hok
  ·have hb:¬b<0:=by have h:0≤b:=hok;omega
   refine⟨.int k (k.wrap (a*2^(min b.toNat k.bits))),?_,u0a _ _ _ _ _⟩
   simp[binOp,Op.shift,hb]
  ·have hb:¬b<0:=by have h:0≤b:=hok;omega
   refine⟨.int k (a.fdiv (2^(min b.toNat k.bits))),?_,u0a _ _ _ _ _⟩
   simp[binOp,Op.shift,hb]
  ·rename_i h1 h2
   split at hok
   ·rename_i hkk
    subst hkk
    split at hok
    ·exact⟨.int k (k.wrap (a+b)),by simp[binOp,Op.intArith],by simp only[u8m,if_true];exact u5u hok⟩
    ·exact⟨.int k (k.wrap (a-b)),by simp[binOp,Op.intArith],by simp only[u8m,if_true];exact u5u hok⟩
    ·exact⟨.int k (k.wrap (a*b)),by simp[binOp,Op.intArith],by simp only[u8m,if_true];exact u5u hok⟩
    ·obtain⟨h0,h3⟩:=hok
     refine⟨.int k (a.tdiv b),?_,by simp only[u8m,if_true];exact u0a _ _ _ _ _⟩
     simp[binOp,Op.intDiv,h0,w5v h3]
    ·have h0:b≠0:=hok
     refine⟨.int k (a.tmod b),by simp[binOp,Op.intDiv,h0],by simp only[u8m,if_true];exact u0a _ _ _ _ _⟩
    ·exact⟨.bool (decide (a=b)),by simp[binOp,Op.intCmp,u3w],by simp only[u8m,if_true];exact r8T _ _ _ _⟩
    ·exact⟨.bool (!decide (a=b)),by simp[binOp,Op.intCmp,bne,u3w],by simp only[u8m,if_true];exact r8T _ _ _ _⟩
    ·exact⟨.bool (decide (a<b)),by simp[binOp,Op.intCmp],by simp only[u8m,if_true];exact r8T _ _ _ _⟩
    ·exact⟨.bool (decide (a≤b)),by simp[binOp,Op.intCmp],by simp only[u8m,if_true];exact r8T _ _ _ _⟩
    ·exact⟨.bool (decide (b<a)),by simp[binOp,Op.intCmp],by simp only[u8m,if_true];exact r8T _ _ _ _⟩
    ·exact⟨.bool (decide (b≤a)),by simp[binOp,Op.intCmp],by simp only[u8m,if_true];exact r8T _ _ _ _⟩
    ·cases op<;>first|contradiction|skip
     ·exact⟨.int k (w2y .and k a b),by simp only[binOp,ne_eq,not_true_eq_false,if_false];rfl,by simp only[u8m,if_true];exact u0a _ _ _ _ _⟩
     ·exact⟨.int k (w2y .or k a b),by simp only[binOp,ne_eq,not_true_eq_false,if_false];rfl,by simp only[u8m,if_true];exact u0a _ _ _ _ _⟩
     ·exact⟨.int k (w2y .xor k a b),by simp only[binOp,ne_eq,not_true_eq_false,if_false];rfl,by simp only[u8m,if_true];exact u0a _ _ _ _ _⟩
     ·exact⟨.int k (w2y .andNot k a b),by simp only[binOp,ne_eq,not_true_eq_false,if_false];rfl,by simp only[u8m,if_true];exact u0a _ _ _ _ _⟩
   ·exact hok.elim
 ·rename_i a b
  have:=u3J hx;subst this
  have:=u3J hy;subst this
  have both:(∃k1 a1 k2 b1,Value.string (bs a)= .int k1 a1∧Value.string (bs b)= .int k2 b1)∨∃a1 b1,Value.string (bs a)= .string a1∧Value.string (bs b)= .string b1:=.inr ⟨_,_,rfl,rfl⟩
  split at hok
  ·refine⟨.string (bs (a++b)),?_,u9S _ _ _ _,both⟩
   have hle:a.length+b.length≤9223372036854775807:=hok
   have:¬(((bs a).size+(bs b).size:Nat):Int)>IntKind.i64.max:=by rw[u4R,u4R];simp[IntKind.max,IntKind.signed,IntKind.bits];omega
   have e:bs a++bs b=bs (a++b):=by apply ByteArray.ext;simp[bs]
   simp only[binOp,Op.stringOp]
   rw[if_neg this,e];rfl
  ·exact⟨.bool (decide (a=b)),by simp[binOp,Op.stringOp,u3n,u3w],r8T _ _ _ _,both⟩
  ·exact⟨.bool (!decide (a=b)),by simp[binOp,Op.stringOp,u3n,u3w],r8T _ _ _ _,both⟩
  ·exact⟨.bool (Op.bytesLess a b),by simp[binOp,Op.stringOp,u3n],r8T _ _ _ _,both⟩
  ·exact⟨.bool (!(Op.bytesLess a b||decide (a=b))),by simp[binOp,Op.stringOp,u3n,u3w],r8T _ _ _ _,both⟩
  ·exact⟨.bool (Op.bytesLess a b||decide (a=b)),by simp[binOp,Op.stringOp,u3n,u3w],r8T _ _ _ _,both⟩
  ·exact⟨.bool (!Op.bytesLess a b),by simp[binOp,Op.stringOp,u3n],r8T _ _ _ _,both⟩
  ·exact hok.elim
 ·exact hok.elim
end Go.Am
namespace Go.Am
open Go Go.MapKept
section maps
variable {K:Type} [DecidableEq K] {key:K→Value} {d:TypeDesc}
theorem u6F(w5y:∀a b:K,Instr.sameNow d (key a) (key b)=some (decide (a=b)))(k:K):∀(l:List MapEntry) (es:List (K×List D)) (i:Nat),l.length=es.length→
 (∀j (hj:j<es.length),∃e,l[j]? =some e∧e.key=key (es[j]).1)→
 (assoc k es=none∧Instr.findNow d (key k) l i=some none∧∀v,r5j k v es=es++[(k,v)])∨
  ∃j cs e,assoc k es=some cs∧Instr.findNow d (key k) l i=some (some (i+j,e.val))∧l[j]? =some e∧es[j]? =some (k,cs)∧∀v,r5j k v es=es.set j (k,v)
 | [],[],_,_,_=>.inl ⟨rfl,rfl,fun _=>rfl⟩
 |e::l,(a,cs)::es,i,hl,h=>by
  obtain⟨e',he,hk⟩:=h 0 (by simp)
  simp at he hk
  subst he
  by_cases hka:k=a
  ·subst hka
   exact .inr ⟨0,cs,e,by simp[assoc],by simp[Instr.findNow,hk,w5y],rfl,rfl,fun v=>by simp[r5j]⟩
  ·have hn:Instr.sameNow d (key k) e.key=some false:=by rw[hk,w5y];simp[hka]
   rcases u6F w5y k l es (i+1) (by simpa using hl) (fun j hj=>by
    obtain⟨e2,h1,h2⟩:=h (j+1) (by simp;omega)
    exact⟨e2,by simpa using h1,by simpa using h2⟩)with⟨h1,h2,h3⟩|⟨j,cs',e2,h1,h2,h3,h4,h5⟩
   ·exact .inl ⟨by simp[assoc,hka,h1],by simp[Instr.findNow,hn,h2],fun v=>by simp[r5j,hka,h3]⟩
   ·exact .inr ⟨j+1,cs',e2,by simp[assoc,hka,h1],by simp[Instr.findNow,hn,h2];omega,by simpa using h3,by simpa using h4,fun v=>by simp[r5j,hka,h5]⟩
 | [],_::_,_,h,_=>by simp at h
 | _::_,[],_,h,_=>by simp at h
end maps
section alike
variable {K:Type} [DecidableEq K] {V:Type}
theorem u6e{k:K}{v:V}:∀ {es:List (K×V)},(es.map (·.1)).Nodup→(assoc k es=some v↔(k,v)∈es)
 | [],_=>by simp[assoc]
 |(a,u)::es,h=>by
  rw[List.map_cons,List.nodup_cons]at h
  by_cases e:k=a
  ·subst e
   simp only[assoc,if_true,List.mem_cons,Prod.mk.injEq,true_and,Option.some.injEq]
   refine⟨fun h=>.inl h.symm,fun h2=>h2.elim Eq.symm fun h3=>?_⟩
   exact absurd (List.mem_map.2 ⟨_,h3,rfl⟩) h.1
  ·simp only[assoc,if_neg e,List.mem_cons,Prod.mk.injEq,e,false_and,false_or]
   exact u6e h.2
theorem w8d{k:K}{es es':List (K×V)}(h:es'.Perm es)(hn:(es.map (·.1)).Nodup):assoc k es'=assoc k es:=by
 have hn':(es'.map (·.1)).Nodup:=(h.map _).nodup_iff.2 hn
 cases h1:assoc k es with
 |some v=>rw[u6e hn'];exact h.mem_iff.2 ((u6e hn).1 h1)
 |none=>
  cases h2:assoc k es' with
  |none=>rfl
  |some v=>rw[(u6e hn).2 (h.mem_iff.1 ((u6e hn').1 h2))]at h1;cases h1
theorem u5v{k:K}{v:V}:∀ {es:List (K×V)},(es.map (·.1)).Nodup→(r5j k v es).Perm ((k,v)::es.filter fun p=> !decide (p.1=k))
 | [],_=>by simp[r5j]
 |(a,u)::es,h=>by
  rw[List.map_cons,List.nodup_cons]at h
  by_cases e:k=a
  ·subst e
   have hf:es.filter (fun p=> !decide (p.1=k))=es:=List.filter_eq_self.2 fun p hp=>by
    have:p.1≠k:=fun e=>h.1 (e▸List.mem_map.2 ⟨p,hp,rfl⟩)
    simp[this]
   simp only[r5j,if_true]
   rw[List.filter_cons_of_neg (by simp),hf]
  ·have e':¬a=k:=fun x=>e x.symm
   simp only[r5j,if_neg e]
   rw[List.filter_cons_of_pos (by simp[e'])]
   exact((u5v h.2).cons _).trans (.swap _ _ _)
theorem u7E{k:K}{v:V}{es es':List (K×V)}(h:es'.Perm es)(hn:(es.map (·.1)).Nodup):(r5j k v es').Perm (r5j k v es):=by
 have hn':(es'.map (·.1)).Nodup:=(h.map _).nodup_iff.2 hn
 exact(u5v hn').trans (((h.filter _).cons _).trans (u5v hn).symm)
theorem w0d{k:K}{v:V}{es:List (K×V)}(hn:(es.map (·.1)).Nodup):((r5j k v es).map (·.1)).Nodup:=by
 rw[((u5v (v:=v) (k:=k) hn).map _).nodup_iff,List.map_cons,List.nodup_cons]
 refine⟨fun h=>?_,((List.filter_sublist (p:=fun p:K×V=> !decide (p.1=k))).map _).nodup hn⟩
 obtain⟨p,hp,e⟩:=List.mem_map.1 h
 have:=(List.mem_filter.1 hp).2
 simp[e]at this
end alike
theorem x6C.same{K V:Type}{ents u9m:Array MapEntry}{clock:Nat}{es es':List (K×V)}{U:Type}{fs fs':List (K×U)}(h:x6C ents clock es es')(hp:fs'.Perm fs)(hn:(fs.map (·.1)).Nodup)(hs:u9m.size=ents.size)(hb:∀(i:Nat) (e:MapEntry),u9m[i]? =some e→∃e0:MapEntry,ents[i]? =some e0∧e.born=e0.born):x6C u9m clock fs fs':=
 ⟨hp,hn,by rw[hs];exact h.clk,fun i e he=>by obtain⟨e0,a,b⟩:=hb i e he;rw[b];exact h.born i e0 a⟩
theorem w2D(a b:Bs):Instr.sameNow .string (.string (bs a)) (.string (bs b))=some (decide (a=b)):=by
 simp only[Instr.sameNow]
 congr 1
 by_cases h:a=b
 ·subst h;simp[bytes_beq]
 ·have hn:bs a≠bs b:=fun e=>h (by have:=congrArg (fun x=>x.data.toList) e;simpa[bs]using this)
  have:¬((bs a==bs b)=true):=fun e=>hn ((bytes_beq _ _).1 e)
  simp[h,this]
theorem w6w(k:IntKind)(a b:Int):Instr.sameNow (.int k) (.int k a) (.int k b)=some (decide (a=b)):=by
 simp[Instr.sameNow,u3w]
theorem w6x{P:Program}{t:TypeId}{w:World}{μ:Mu}{st:St}(h:(r5c P t).zv.isSome=true):∃z,(zeroValue t).run P w= .ok z w∧VR w μ st z ((r5c P t).zv.getD .any):=by
 cases hi:P.info? t with
 |none=>simp[r5c,hi]at h
 |some inf=>
  cases hz:inf.zero with
  |none=>simp[r5c,hi,hz]at h
  |some z=>exact⟨z,by simp[zeroValue,typeInfo,hi,hz],by simp[r5c,hi,hz];exact u9P _ _ _ _⟩
theorem w8J.val{ag:Bool}{w:World}{μ:Mu}{st:St}{v:Value}{cs:List D}(h:w8J ag w μ st v cs):VR w μ st v (mkv ag cs):=by
 cases ag with
 |true=>exact h
 |false=>obtain⟨d,rfl,h⟩:=h;exact h
theorem w8X{w:World}{μ:Mu}{st:St}{v:Value}{d c:D}(h:VR w μ st v c):VR w μ st v (nz1 d c):=by
 unfold nz1
 split
 ·split
  ·split
   ·rename_i f n b hb
    cases h with
    |tr h=>cases h;exact .tr (.sl f n b [] none 0 0 (fun _ _=>undef) rfl (Nat.le_refl _) (fun _=>rfl) (by simp[top]) hb (fun e he=>by cases he) (.inl rfl) (fun i j hi=>absurd hi (Nat.not_lt_zero _)))
   ·exact h
  ·exact h
 ·exact h
theorem w8Y:∀(ds cs:List D),(nz ds cs).length=cs.length∧∀j (h:j<(nz ds cs).length) (h':j<cs.length),(nz ds cs)[j]=cs[j]∨∃d,(nz ds cs)[j]=nz1 d cs[j]
 | [],cs=>⟨rfl,fun _ _ _=>.inl rfl⟩
 | _::_,[]=>⟨rfl,fun _ _ h=>absurd h (Nat.not_lt_zero _)⟩
 |d::ds,c::cs=>by
  obtain⟨h1,h2⟩:=w8Y ds cs
  refine⟨by simp[nz,h1],fun j h h'=>?_⟩
  cases j with
  |zero=>exact .inr ⟨d,rfl⟩
  |succ j=>exact h2 j (by simpa[nz]using h) (by simpa using h')
theorem x6I{w:World}{μ:Mu}{st:St}{v:Value}{ds cs:List D}(h:VR w μ st v (.agg cs)):VR w μ st v (.agg (nz ds cs)):=by
 obtain⟨h1,h2⟩:=w8Y ds cs
 cases h with
 |tr h=>cases h
 |agg vs _ hs hc=>
  refine .agg vs _ (by rw[h1];exact hs) fun j hj=>?_
  have hj':j<cs.length:=by rw[←h1];exact hj
  rcases h2 j hj hj' with e|⟨d,e⟩
  ·rw[e];exact hc j hj'
  ·rw[e];exact w8X (hc j hj')
theorem x4h{w:World}{μ:Mu}{st:St}{z:Value}{i:TI}(h:VR w μ st z (i.zv.getD .any)):VR w μ st z (u1m i none):=by
 unfold u1m
 cases e:i.zv with
 |none=>exact .any _
 |some d=>
  rw[e]at h
  cases d with
  |agg cs=>exact x6I h
  |r5g=>exact w8X h
  | _=>exact h
theorem w0e{P:Program}{t kt et:TypeId}{w:World}{μ:Mu}{st:St}{K:Type}[DecidableEq K]{key:K→Value}{d:TypeDesc}{es:List (K×List D)}{m:Option (Nat×Nat)}{k:K}{ok:Bool}{ag:Bool}
 (hu:P.underlying t=some (.map kt et)) (hkt:P.underlying kt=some d) (hkey:∀k,IsKey d (key k)) (w5y:∀a b:K,Instr.sameNow d (key a) (key b)=some (decide (a=b)))
 (hm:u6c key ag w μ st m es) (hag:ag=(r5c P et).k.agg) (hz:(r5c P et).zv.isSome=true):
 ∃blk v,m=some (blk,0)∧(Instr.lookup t (.map (some blk)) (key k) ok).run P w= .ok v w∧VR w μ st v (u6d (r5c P et) ok (assoc k es)):=by
 obtain⟨blk,ents,clock,ez,em,hh,hsz,hc,hx⟩:=hm.loc
 obtain⟨z,hz1,hz2⟩:=w6x (w:=w) (μ:=μ) (st:=st) hz
 have hck:=fun e=>run_checkKey (P:=P) (w:=w) hkt (hkey k) e 9999
 have fin:∀(u:Value) (b:Bool) (r:Option (List D)),VR w μ st u (u1m (r5c P et) r)→b=r.isSome→VR w μ st (if ok then .tuple #[u,.bool b]else u) (u6d (r5c P et) ok r):=by
  intro u b r h1 h2
  subst h2
  cases ok with
  |false=>exact h1
  |true=>
   refine .tup _ _ (fun j hj _=>by simpa[u6d]using hj) (fun j hj=>?_)
   match j,hj with
   |0,_=>exact h1
   |1,_=>exact r8T _ _ _ _
   |j+2,hj=>simp at hj;omega
 rw[←w8d (k:=k) hx.perm hx.nd]
 refine⟨blk,?_⟩
 rcases u6F w5y k ents.toList ez 0 (by simpa using hsz) (fun j hj=>by
  obtain⟨e,h1,h2,_⟩:=hc j hj
  exact⟨e,by simpa using h1,h2⟩)with⟨h1,h2,_⟩|⟨j,cs,e,h1,h2,h3,h4,_⟩
 ·have hf:=run_findKey (P:=P) (w:=w) hkt h2
  refine⟨_,em,?_,fin z false none (x4h hz2) rfl |> (h1▸ ·)⟩
  simp[Instr.lookup,run_underlying hu,MapKept.run_getObj_map hh,hck,hf,hz1]
 ·have hf:=run_findKey (P:=P) (w:=w) hkt h2
  have hj:j<ez.length:=by
   rcases Nat.lt_or_ge j ez.length with h|h
   ·exact h
   ·rw[List.getElem?_eq_none h]at h4;cases h4
  obtain⟨e',a1,a2,a3⟩:=hc j hj
  have:e'=e:=by
   have:ents.toList[j]? =some e':=by simpa using a1
   rw[this]at h3;exact Option.some.inj h3
  subst this
  have hes:ez[j]=(k,cs):=by rw[List.getElem?_eq_getElem hj]at h4;exact Option.some.inj h4
  rw[hes,hag]at a3
  refine⟨_,em,?_,fin e'.val true (some cs) a3.val rfl |> (h1▸ ·)⟩
  simp[Instr.lookup,run_underlying hu,MapKept.run_getObj_map hh,hck,hf]
theorem w3U{w:World}{μ:Mu}{st:St}{v:Value}{o:Nat}(h:VR w μ st v (.mp o)):
 (∀ag es,st[o]? =some (some (.mps ag es))→∃blk,μ o=some (blk,0)∧v= .map (some blk))∧(∀ag k es,st[o]? =some (some (.mpi ag k es))→∃blk,μ o=some (blk,0)∧v= .map (some blk)):=by
 cases h with
 |tr h=>cases h
 |mp _ _ _ _ _ h1 h2=>exact⟨h1,h2⟩
theorem w3V{P:Program}{t kt et:TypeId}{w:World}{μ:Mu}{st:St}{vm vk:Value}{m k:D}{ok:Bool}(hs:Sim w μ st)(hm:VR w μ st vm m)(hk:VR w μ st vk k)
 (hu:(r5c P t).k= .map kt et) (hok:(u2N (r5c P t) (r5c P kt) (r5c P et) (look st) ok k m).ok):
 ∃v,(Instr.lookup t vm vk ok).run P w= .ok v w∧VR w μ st v (u2N (r5c P t) (r5c P kt) (r5c P et) (look st) ok k m).d:=by
 have hu':=w8U hu
 cases m with
 |mp o=>
  simp only[u2N]at*
  split at hok
  ·rename_i ag es k hl
   obtain⟨_,hks,hag,hz⟩:=hok
   have ho:=r5w hl
   have:=u3J hk;subst this
   obtain⟨blk,em,ev⟩:=(w3U hm).1 ag es ho
   subst ev
   obtain⟨u8k,v,em',h1,h2⟩:=w0e (P:=P) (k:=k) (ok:=ok) (key:=fun k=>.string (bs k)) hu' (u7C hks) (fun _=>trivial) w2D (hs.obj o _ ho:u6c _ ag w μ st (μ o) es) hag hz
   rw[em]at em';cases em'
   exact⟨v,h1,h2⟩
  ·rename_i ag kk es kk' k hl
   obtain⟨_,hks,rfl,hag,hz⟩:=hok
   have ho:=r5w hl
   have:=u0F hk;subst this
   obtain⟨blk,em,ev⟩:=(w3U hm).2 ag _ es ho
   subst ev
   obtain⟨u8k,v,em',h1,h2⟩:=w0e (P:=P) (k:=k) (ok:=ok) (key:=fun n=>.int kk' n) hu' (w5p hks) (fun _=>rfl) (w6w kk') (hs.obj o _ ho:u6c _ ag w μ st (μ o) es) hag hz
   rw[em]at em';cases em'
   exact⟨v,h1,h2⟩
  ·exact hok.elim
 |u4v=>
  simp only[u2N]at*
  split at hok
  ·obtain⟨_,hks,hz⟩:=hok
   have:=u3J hk;subst this
   have hvm:vm= .map none:=by
    cases hm with
    |tr h=>cases h;rfl
   subst hvm
   obtain⟨z,hz1,hz2⟩:=w6x (w:=w) (μ:=μ) (st:=st) hz
   have hck:=fun e k=>run_checkKey (P:=P) (w:=w) (d:=.string) (k:=.string (bs k)) (u7C hks) trivial e 9999
   have hf:=fun k=>run_findKey (P:=P) (w:=w) (k:=.string (bs k)) (l:=[]) (u7C hks) rfl
   cases ok with
   |false=>exact⟨z,by simp[Instr.lookup,run_underlying hu',hck,hf,hz1],x4h hz2⟩
   |true=>
    refine⟨_,by simp[Instr.lookup,run_underlying hu',hck,hf,hz1];rfl,?_⟩
    refine .tup _ _ (fun j hj _=>by simpa[u6d]using hj) (fun j hj=>?_)
    match j,hj with
    |0,_=>exact x4h hz2
    |1,_=>exact r8T _ _ _ _
    |j+2,hj=>simp at hj;omega
  ·exact hok.elim
 | _=>exact hok.elim
theorem x3w{w:World}{μ:Mu}{st:St}{v:Value}{i:TI}{x:D}(h:VR w μ st v x)(hok:u3v i x):w8J i.k.agg w μ st v (cellsOf i x):=by
 unfold u3v at hok
 unfold cellsOf w8J
 split at hok
 ·rename_i hag
  cases x with
  |agg cs=>simp only[hag,if_true];exact h
  | _=>exact hok.elim
 ·rename_i hag
  simp only[hag]
  exact⟨x,rfl,h⟩
theorem x3x{ag:Bool}{w:World}{μ:Mu}{st:St}{v:Value}{ds cs:List D}(h:w8J ag w μ st v cs):w8J ag w μ st v (nz ds cs):=by
 cases ag with
 |true=>exact x6I (show VR w μ st v (.agg cs)from h)
 |false=>
  obtain⟨d,rfl,h2⟩:=(show ∃d,cs=[d]∧VR w μ st v d from h)
  show ∃d',nz ds [d]=[d']∧VR w μ st v d'
  cases ds with
  |nil=>exact⟨d,rfl,h2⟩
  |cons d' ds=>exact⟨nz1 d' d,by cases ds<;>rfl,w8X h2⟩
theorem w3W{d:TypeDesc}{k:Value}(hk:IsKey d k):Instr.sameBits 10000 k k=true:=by
 cases d<;>cases k<;>simp_all [IsKey,Instr.sameBits,bytes_beq]
theorem w0f{P:Program}{t kt et:TypeId}{w:World}{μ:Mu}{st:St}{K:Type}[DecidableEq K]{key:K→Value}{d:TypeDesc}{es:List (K×List D)}{o:Nat}{k:K}{ag:Bool}{mk:List (K×List D)→Ob}
 (hs:Sim w μ st) (ho:st[o]? =some (some (mk es)))
 (hu:P.underlying t=some (.map kt et)) (hkt:P.underlying kt=some d) (hkey:∀k,IsKey d (key k)) (w5y:∀a b:K,Instr.sameNow d (key a) (key b)=some (decide (a=b)))
 (hmk:∀w μ st es,ObR w μ st (μ o) (mk es)↔u6c key ag w μ st (μ o) es) (hst:∀w w' m es es',u1k w w' m m (mk es) (mk es'))
 {v:Value} {cs:List D} (hv:w8J ag w μ st v cs):
 ∃blk w',μ o=some (blk,0)∧(Instr.mapUpdate t (.map (some blk)) (key k) v).run P w= .ok () w'∧Sim w' μ (st.set o (some (mk (r5j k cs es))))∧Step w μ st w' μ (st.set o (some (mk (r5j k cs es)))):=by
 obtain⟨blk,ents,clock,ez,em,hh,hsz,hc,hx⟩:=((hmk w μ st es).1 (hs.obj o _ ho)).loc
 have hck:=fun e=>run_checkKey (P:=P) (w:=w) hkt (hkey k) e 9999
 have hlt:blk<w.heap.size:=(Array.getElem?_eq_some_iff.1 hh).1
 have main:∀u9m clock',u9m.size=(r5j k cs ez).length→x6C u9m clock' (r5j k cs es) (r5j k cs ez)→(∀i (hi:i<(r5j k cs ez).length),∃e,u9m[i]? =some e∧e.key=key ((r5j k cs ez)[i]).1∧w8J ag w μ st e.val ((r5j k cs ez)[i]).2)→
  Sim { w with heap:=w.heap.setIfInBounds blk (.map u9m clock') } μ (st.set o (some (mk (r5j k cs es))))∧Step w μ st { w with heap:=w.heap.setIfInBounds blk (.map u9m clock') } μ (st.set o (some (mk (r5j k cs es)))):=by
  intro u9m clock' g1 gx g2
  obtain⟨hs1,hs2⟩:=heap_set (w:=w) (o':=.map u9m clock') hh
  refine u1L hs ho (fun _ _=>rfl) (fun b hb hne=>hs2 b (fun e=>hne 0 (e▸em))) (by simp) rfl rfl ⟨rfl,Nat.le_refl _⟩ (fun b base e=>.inl ⟨base,e⟩) (hst _ _ _ _ _) (fun s=>?_)
  rw[hmk]
  exact⟨⟨blk,u9m,clock',_,em,hs1,g1,fun i hi=>let ⟨e,h1,h2,h3⟩:=g2 i hi;⟨e,h1,h2,h3.step s⟩,gx⟩⟩
 rcases u6F w5y k ents.toList ez 0 (by simpa using hsz) (fun j hj=>by
  obtain⟨e,h1,h2,_⟩:=hc j hj
  exact⟨e,by simpa using h1,h2⟩)with⟨h1,h2,h3⟩|⟨j,cs0,e,h1,h2,h3,h4,h5⟩
 ·have hf:=run_findKey (P:=P) (w:=w) hkt h2
  obtain⟨m1,m2⟩:=main (ents.push { key:=key k,val:=v,born:=clock }) (clock+1) (by rw[h3];simp[hsz]) ⟨u7E hx.perm hx.nd,w0d hx.nd,by rw[Array.size_push,hx.clk],fun i e he=>by
   rw[Array.getElem?_push]at he
   split at he
   ·rename_i e1;cases he;rw[e1];exact hx.clk
   ·exact hx.born i e he⟩ (fun i hi=>by
   simp only[h3]at hi⊢
   simp at hi
   by_cases hil:i<ez.length
   ·obtain⟨e,a1,a2,a3⟩:=hc i hil
    have hi2:i<ents.size:=by omega
    refine⟨e,by rw[Array.getElem?_push,if_neg (by omega)];exact a1,?_,?_⟩
    ·simp only[List.getElem_append_left hil];exact a2
    ·simp only[List.getElem_append_left hil];exact a3
   ·have:i=ez.length:=by omega
    subst this
    refine⟨{ key:=key k,val:=v,born:=clock },by rw[Array.getElem?_push,if_pos (by omega)],by simp,by simpa using hv⟩)
  refine⟨blk,_,em,?_,m1,m2⟩
  simp[Instr.mapUpdate,run_underlying hu,MapKept.run_getObj_map hh,hck,hf,run_setObj_map _ hh]
 ·have hf:=run_findKey (P:=P) (w:=w) hkt h2
  have hj:j<ez.length:=by
   rcases Nat.lt_or_ge j ez.length with h|h
   ·exact h
   ·rw[List.getElem?_eq_none h]at h4;cases h4
  have hjs:j<ents.size:=by omega
  have hej:ents[j]? =some e:=by simpa using h3
  have hkj:e.key=key k:=by
   obtain⟨e',a1,a2,a3⟩:=hc j hj
   rw[hej]at a1;cases a1
   have hes:ez[j]=(k,cs0):=by rw[List.getElem?_eq_getElem hj]at h4;exact Option.some.inj h4
   rw[hes]at a2;exact a2
  obtain⟨m1,m2⟩:=main (ents.modify j fun e=>{ e with key:=key k,val:=v }) clock (by rw[h5];simp[hsz]) (hx.same (u7E hx.perm hx.nd) (w0d hx.nd) (by simp) fun i e he=>by
   rw[Array.getElem?_modify]at he
   split at he
   ·cases h0:ents[i]? with
    |none=>rw[h0]at he;cases he
    |some e0=>rw[h0]at he;cases he;exact⟨e0,rfl,rfl⟩
   ·exact⟨e,he,rfl⟩) (fun i hi=>by
   simp only[h5]at hi⊢
   simp at hi
   obtain⟨e0,a1,a2,a3⟩:=hc i hi
   by_cases hij:i=j
   ·subst hij
    refine⟨{ e0 with key:=key k,val:=v },by rw[Array.getElem?_modify];simp[a1],by simp,by simpa using hv⟩
   ·refine⟨e0,by rw[Array.getElem?_modify];simp[Ne.symm hij,a1],?_,?_⟩
    ·simp only[List.getElem_set,Ne.symm hij,if_false];exact a2
    ·simp only[List.getElem_set,Ne.symm hij,if_false];exact a3)
  refine⟨blk,_,em,?_,m1,m2⟩
  have hsb:=w3W (hkey k)
  simp[Instr.mapUpdate,run_underlying hu,MapKept.run_getObj_map hh,hck,hf,hej,hkj,Instr.keyThatStays,hsb,run_setObj_map _ hh]
theorem w0g{P:Program}{t kt et:TypeId}{w:World}{μ:Mu}{st:St}{vm vk vx:Value}{m k x:D}{r:LR}(hs:Sim w μ st)(hm:VR w μ st vm m)(hk:VR w μ st vk k)(hx:VR w μ st vx x)
 (hu:(r5c P t).k= .map kt et) (hr:r=r9i (r5c P t) (r5c P kt) (r5c P et) (look st) k x m) (hok:r.ok):
 ∃w' o ob,(Instr.mapUpdate t vm vk vx).run P w= .ok () w'∧r.up=some (o,ob)∧Sim w' μ (st.set o (some ob))∧Step w μ st w' μ (st.set o (some ob)):=by
 subst hr
 have hu':=w8U hu
 cases m with
 |mp o=>
  simp only[r9i]at*
  split at hok
  ·rename_i ag es k hl
   obtain⟨_,hks,hag,hc⟩:=hok
   have ho:=r5w hl
   have:=u3J hk;subst this
   obtain⟨blk,em,ev⟩:=(w3U hm).1 ag es ho
   subst ev
   obtain⟨u8k,w',em',h1,h2,h3⟩:=w0f (P:=P) (k:=k) (ag:=ag) (key:=fun k=>.string (bs k)) (mk:=fun es=>.mps ag es) hs ho hu' (u7C hks) (fun _=>trivial) w2D (fun _ _ _ _=>Iff.rfl) (fun _ _ _ _ _=>⟨rfl,rfl⟩) (x3x (hag▸x3w hx hc))
   rw[em]at em';cases em'
   exact⟨w',o,_,h1,rfl,h2,h3⟩
  ·rename_i ag kk es kk' k hl
   obtain⟨_,hks,rfl,hag,hc⟩:=hok
   have ho:=r5w hl
   have:=u0F hk;subst this
   obtain⟨blk,em,ev⟩:=(w3U hm).2 ag _ es ho
   subst ev
   obtain⟨u8k,w',em',h1,h2,h3⟩:=w0f (P:=P) (k:=k) (ag:=ag) (key:=fun n=>.int kk' n) (mk:=fun es=>.mpi ag kk' es) hs ho hu' (w5p hks) (fun _=>rfl) (w6w kk') (fun _ _ _ _=>Iff.rfl) (fun _ _ _ _ _=>⟨rfl,rfl,rfl⟩) (x3x (hag▸x3w hx hc))
   rw[em]at em';cases em'
   exact⟨w',o,_,h1,rfl,h2,h3⟩
  ·exact hok.elim
 | _=>exact hok.elim
end Go.Am
namespace Go.Am
open Go
theorem w0h{P:Program}{t:TypeId}:(r8f P t=1→∃k,P.underlying t=some (.int k))∧(r8f P t=2→P.underlying t=some .string)∧(r8f P t=3→P.underlying t=some .bool):=by
 unfold r8f
 cases P.underlying t with
 |none=>simp
 |some d=>cases d<;>simp
theorem w2a{P:Program}{w:World}{μ:Mu}{st:St}{a b:D}{va vb:Value}{r:Bool}{t:TypeId}{dep:Nat}(ha:VR w μ st va a)(hb:VR w μ st vb b)
 (h:u7B (r8f P t) a b=some r):(Op.equalIn (dep+1) t va vb).run P w= .ok r w:=by
 unfold u7B at h
 split at h
 ·rename_i hk
  obtain⟨k,hu⟩:=w0h.1 hk
  split at h
  ·rename_i hkk;subst hkk
   cases h
   have:=u0F ha;subst this
   have:=u0F hb;subst this
   rw[run_equalIn_int w dep t _ k _ _ hu,u3w]
  ·cases h
 ·rename_i hk
  cases h
  have:=u3J ha;subst this
  have:=u3J hb;subst this
  rw[run_equalIn_string w dep t _ _ (w0h.2.1 hk),u3n,u3n,u3w]
 ·rename_i hk
  cases h
  have:=u3Y ha;subst this
  have:=u3Y hb;subst this
  rw[run_equalIn_bool' w dep t _ _ (w0h.2.2 hk),u3w]
 ·cases h
theorem w2b{P:Program}{t:TypeId}(h:r8f P t≠0):∃u,P.underlying t=some u∧u2p (some u)=false:=by
 unfold r8f at h
 cases hu:P.underlying t with
 |none=>rw[hu]at h;exact absurd rfl h
 |some d=>rw[hu]at h;refine⟨d,rfl,?_⟩;cases d<;>first|rfl|exact absurd rfl h
theorem u8W{P:Program}{w:World}{μ:Mu}{st:St}{xs ys:Array Value}{dep:Nat}:∀(fs:List Field) (a b:List D) (k0:Nat) (r:Bool),
 (∀p∈fs.zipIdx k0,p.1.offset=p.2∧p.1.name≠ "_")→r7g (fs.map fun f=>r8f P f.type) a b=some r→
 (∀j (h:j<a.length),k0+j<xs.size∧VR w μ st (xs.getD (k0+j) undef) (a[j]))→(∀j (h:j<b.length),k0+j<ys.size∧VR w μ st (ys.getD (k0+j) undef) (b[j]))→
 (Op.eqFields (dep+1) xs ys fs).run P w= .ok r w
 | [],[],[],_,r,_,h,_,_=>by cases h;rfl
 | [],_::_,_,_,r,_,h,_,_=>by simp[r7g]at h
 | [],[],_::_,_,r,_,h,_,_=>by simp[r7g]at h
 |f::fs,[],b,_,r,_,h,_,_=>by cases b<;>simp[r7g]at h
 |f::fs,a::as,[],_,r,_,h,_,_=>by simp[r7g]at h
 |f::fs,a::as,b::bs,k0,r,hf,h,hx,hy=>by
  simp only[List.map_cons,r7g]at h
  cases h1:u7B (r8f P f.type) a b with
  |none=>rw[h1]at h;cases h
  |some p=>
   cases h2:r7g (fs.map fun f=>r8f P f.type) as bs with
   |none=>rw[h1,h2]at h;cases h
   |some q=>
    rw[h1,h2]at h
    cases h
    obtain⟨ho,hn⟩:=hf (f,k0) (by simp)
    simp only at ho hn
    obtain⟨hx0,hx1⟩:=hx 0 (by simp)
    obtain⟨hy0,hy1⟩:=hy 0 (by simp)
    simp only[Nat.add_zero,List.getElem_cons_zero]at hx0 hx1 hy0 hy1
    have hk0:r8f P f.type≠0:=fun e=>by rw[e]at h1;simp[u7B]at h1
    obtain⟨u,hu,hag⟩:=w2b hk0
    have hpx:(part f.type xs f.offset).run P w= .ok (xs.getD k0 undef) w:=by
     simp[part,u2h hu,hag,ho,hx0]
    have hpy:(part f.type ys f.offset).run P w= .ok (ys.getD k0 undef) w:=by
     simp[part,u2h hu,hag,ho,hy0]
    have he:=w2a (dep:=dep) hx1 hy1 h1
    have ih:=u8W (P:=P) (w:=w) (μ:=μ) (st:=st) (xs:=xs) (ys:=ys) (dep:=dep) fs as bs (k0+1) q (fun p hp=>hf p (by simp[List.zipIdx_cons,hp])) h2 (fun j hj=>by
     have:=hx (j+1) (by simpa using hj)
     simpa[Nat.add_assoc,Nat.add_comm 1 j]using this) (fun j hj=>by
     have:=hy (j+1) (by simpa using hj)
     simpa[Nat.add_assoc,Nat.add_comm 1 j]using this)
    simp only[Op.eqFields,if_pos hn,Sem.run_bind,hpx,hpy,he,Result.andThen_ok,Sem.run_ite]
    cases p with
    |true=>simpa using ih
    |false=>simp
theorem u7h:∀ {ks:List Nat} {a b:List D} {r:Bool},r7g ks a b=some r→a.length=ks.length∧b.length=ks.length
 | [],[],[],_,_=>⟨rfl,rfl⟩
 | [],_::_,b,_,h=>by cases b<;>simp[r7g]at h
 | [],[],_::_,_,h=>by simp[r7g]at h
 | _::_,[],b,_,h=>by cases b<;>simp[r7g]at h
 | _::_,_::_,[],_,h=>by simp[r7g]at h
 |k::ks,a::as,b::bs,r,h=>by
  simp only[r7g]at h
  cases h1:u7B k a b with
  |none=>rw[h1]at h;cases h
  |some p=>
   cases h2:r7g ks as bs with
   |none=>rw[h1,h2]at h;cases h
   |some q=>
    have:=u7h h2
    exact⟨by simp[this.1],by simp[this.2]⟩
theorem w0i:∀ {k1 k2:List Nat} {a b:List D} {r:Bool},r7g (k1++k2) a b=some r→∃p q,r7g k1 (a.take k1.length) (b.take k1.length)=some p∧r7g k2 (a.drop k1.length) (b.drop k1.length)=some q∧r=(p&&q)
 | [],k2,a,b,r,h=>⟨true,r,by simp[r7g],by simpa using h,by simp⟩
 |k::k1,k2,[],b,r,h=>by cases b<;>simp[r7g]at h
 |k::k1,k2,a::as,[],r,h=>by simp[r7g]at h
 |k::k1,k2,a::as,b::bs,r,h=>by
  simp only[List.cons_append,r7g]at h
  cases h1:u7B k a b with
  |none=>rw[h1]at h;cases h
  |some p=>
   cases h2:r7g (k1++k2) as bs with
   |none=>rw[h1,h2]at h;cases h
   |some q=>
    rw[h1,h2]at h
    cases h
    obtain⟨p',q',e1,e2,rfl⟩:=w0i h2
    exact⟨p&&p',q',by simp[r7g,h1,e1],by simpa using e2,by simp[Bool.and_assoc]⟩
theorem w8Z{xs:Array Value}{k0 m j:Nat}(hj:j<m)(h:k0+j<xs.size):j<(xs.extract k0 (k0+m)).size∧(xs.extract k0 (k0+m)).getD j undef=xs.getD (k0+j) undef:=by
 have hs:j<(xs.extract k0 (k0+m)).size:=by simp;omega
 refine⟨hs,?_⟩
 rw[Array.getD_eq_getD_getElem?, Array.getD_eq_getD_getElem?, Array.getElem?_eq_getElem hs,Array.getElem?_eq_getElem h,Array.getElem_extract]
theorem w9a{P:Program}{w:World}{μ:Mu}{st:St}:∀(n:Nat) (fs:List Field) (a b:List D) (k0 dep:Nat) (ks:List Nat) (r:Bool) (xs ys:Array Value),
 r5D P n fs k0=some ks→r7g ks a b=some r→n≤dep→
 (∀j (h:j<a.length),k0+j<xs.size∧VR w μ st (xs.getD (k0+j) undef) (a[j]))→(∀j (h:j<b.length),k0+j<ys.size∧VR w μ st (ys.getD (k0+j) undef) (b[j]))→
 (Op.eqFields (dep+1) xs ys fs).run P w= .ok r w:=by
 intro n
 induction n with
 |zero=>intro fs a b k0 dep ks r xs ys h;cases h
 |succ n ih=>
  intro fs a b k0 dep ks r xs ys h hc hd hx hy
  cases fs with
  |nil=>
   cases h
   have:=u7h hc
   obtain rfl:a=[]:=List.eq_nil_of_length_eq_zero this.1
   obtain rfl:b=[]:=List.eq_nil_of_length_eq_zero this.2
   cases hc;rfl
  |cons f fs=>
   simp only[r5D]at h
   split at h
   ·rename_i hon
    simp only[Bool.and_eq_true,beq_iff_eq,bne_iff_ne,ne_eq]at hon
    obtain⟨ho,hn⟩:=hon
    split at h
    ·rename_i hk0
     have hk0:r8f P f.type≠0:=by simpa using hk0
     cases h2:r5D P n fs (k0+1)with
     |none=>rw[h2]at h;cases h
     |some ks'=>
      rw[h2]at h
      cases h
      cases a with
      |nil=>cases b<;>simp[r7g]at hc
      |cons a as=>
       cases b with
       |nil=>simp[r7g]at hc
       |cons b bs=>
        simp only[r7g]at hc
        cases e1:u7B (r8f P f.type) a b with
        |none=>rw[e1]at hc;cases hc
        |some p=>
         cases e2:r7g ks' as bs with
         |none=>rw[e1,e2]at hc;cases hc
         |some q=>
          rw[e1,e2]at hc
          cases hc
          obtain⟨hx0,hx1⟩:=hx 0 (by simp)
          obtain⟨hy0,hy1⟩:=hy 0 (by simp)
          simp only[Nat.add_zero,List.getElem_cons_zero]at hx0 hx1 hy0 hy1
          obtain⟨u,hu,hag⟩:=w2b hk0
          have hpx:(part f.type xs f.offset).run P w= .ok (xs.getD k0 undef) w:=by
           simp[part,u2h hu,hag,ho,hx0]
          have hpy:(part f.type ys f.offset).run P w= .ok (ys.getD k0 undef) w:=by
           simp[part,u2h hu,hag,ho,hy0]
          have he:=w2a (dep:=dep) hx1 hy1 e1
          have ih2:=ih fs as bs (k0+1) dep ks' q xs ys h2 e2 (by omega) (fun j hj=>by
           have:=hx (j+1) (by simpa using hj)
           simpa[Nat.add_assoc,Nat.add_comm 1 j]using this) (fun j hj=>by
           have:=hy (j+1) (by simpa using hj)
           simpa[Nat.add_assoc,Nat.add_comm 1 j]using this)
          simp only[Op.eqFields,if_pos hn,Sem.run_bind,hpx,hpy,he,Result.andThen_ok,Sem.run_ite]
          cases p with
          |true=>simpa using ih2
          |false=>simp
    ·split at h
     ·rename_i g hg
      cases h3:r5D P n g.toList 0 with
      |none=>rw[h3]at h;cases h
      |some k1=>
       rw[h3]at h
       cases hi:P.info? f.type with
       |none=>rw[hi]at h;cases h
       |some inf=>
        rw[hi]at h
        simp only at h
        split at h
        ·rename_i hsz
         simp only[Bool.and_eq_true,Bool.not_eq_true',beq_iff_eq]at hsz
         obtain⟨hst,hsz⟩:=hsz
         cases h2:r5D P n fs (k0+k1.length)with
         |none=>rw[h2]at h;cases h
         |some k2=>
          rw[h2]at h
          cases h
          obtain⟨p,q,e1,e2,rfl⟩:=w0i hc
          obtain⟨l1,l2⟩:=u7h hc
          rw[List.length_append]at l1 l2
          have hpx:(part f.type xs f.offset).run P w= .ok (.agg (xs.extract k0 (k0+k1.length))) w:=by
           simp[part,u2h hg,u2p,r5V hi,ho,hsz]
          have hpy:(part f.type ys f.offset).run P w= .ok (.agg (ys.extract k0 (k0+k1.length))) w:=by
           simp[part,u2h hg,u2p,r5V hi,ho,hsz]
          obtain⟨d,rfl⟩:∃d,dep=d+1:=⟨dep-1,by omega⟩
          have hfo:P.fieldsOf f.type=g:=by simp[Program.fieldsOf,hg]
          have hse:=run_equalIn_struct (P:=P) w (d+1) f.type (xs.extract k0 (k0+k1.length)) (ys.extract k0 (k0+k1.length)) (by rw[hfo];exact hg) hst
          rw[hfo]at hse
          have hin:=ih g.toList (a.take k1.length) (b.take k1.length) 0 d k1 p (xs.extract k0 (k0+k1.length)) (ys.extract k0 (k0+k1.length)) h3 e1 (by omega) (fun j hj=>by
           rw[List.length_take]at hj
           obtain⟨q1,q2⟩:=hx j (by omega)
           obtain⟨s1,s2⟩:=w8Z (xs:=xs) (k0:=k0) (m:=k1.length) (j:=j) (by omega) q1
           rw[Nat.zero_add,s2,List.getElem_take]
           exact⟨s1,q2⟩) (fun j hj=>by
           rw[List.length_take]at hj
           obtain⟨q1,q2⟩:=hy j (by omega)
           obtain⟨s1,s2⟩:=w8Z (xs:=ys) (k0:=k0) (m:=k1.length) (j:=j) (by omega) q1
           rw[Nat.zero_add,s2,List.getElem_take]
           exact⟨s1,q2⟩)
          have ih2:=ih fs (a.drop k1.length) (b.drop k1.length) (k0+k1.length) (d+1) k2 q xs ys h2 e2 (by omega) (fun j hj=>by
           rw[List.length_drop]at hj
           obtain⟨q1,q2⟩:=hx (k1.length+j) (by omega)
           rw[List.getElem_drop,Nat.add_assoc]
           exact⟨q1,q2⟩) (fun j hj=>by
           rw[List.length_drop]at hj
           obtain⟨q1,q2⟩:=hy (k1.length+j) (by omega)
           rw[List.getElem_drop,Nat.add_assoc]
           exact⟨q1,q2⟩)
          simp only[Op.eqFields,if_pos hn,Sem.run_bind,hpx,hpy,hse,hin,Result.andThen_ok,Sem.run_ite]
          cases p with
          |true=>simpa using ih2
          |false=>simp
        ·cases h
     ·cases h
   ·cases h
theorem nil_eq{P:Program}{t e:TypeId}(w:World)(dep:Nat)(hu:P.underlying t=some (.slice e)):(Op.equalIn (dep+1) t (.slice none 0 0) (.slice none 0 0)).run P w= .ok true w:=by
 simp[Op.equalIn,run_underlying hu]
theorem w0j(P:Program)(w:World)(op:BinOp)(t:TypeId)(x y:Operand):(eqGuard op t x y (.slice none 0 0) (.slice none 0 0)).run P w= .ok () w:=by
 unfold eqGuard;simp
theorem x1Q{P:Program}{t:TypeId}{w:World}{μ:Mu}{st:St}{vx vy:Value}{x y:D}{neg:Bool}{ox oy:Operand}(hx:VR w μ st vx x)(hy:VR w μ st vy y)
 (hok:(aEq (r5c P t) (r5Y P t) neg x y).ok):
 ∃v,(do eqGuard (if neg then .neq else .eql) t ox oy vx vy;binOp (if neg then .neq else .eql) t vx vy:Sem Value).run P w= .ok v w∧VR w μ st v (aEq (r5c P t) (r5Y P t) neg x y).d:=by
 unfold aEq at hok
 split at hok
 ·rename_i a b
  have:=u3Y hx;subst this
  have:=u3Y hy;subst this
  have hu:=x6G hok
  refine⟨.bool (if neg then !decide (a=b)else decide (a=b)),?_,by simp only[aEq];exact r8T _ _ _ _⟩
  cases neg
  ·simp only[Bool.false_eq_true,if_false,Sem.run_bind,u8V,Result.andThen_ok,binOp,Op.equal,Op.maxDepth]
   rw[run_equalIn_bool' w 9999 t _ _ hu,u3w];rfl
  ·simp only[if_true,Sem.run_bind,u8V,Result.andThen_ok,binOp,Op.equal,Op.maxDepth]
   rw[run_equalIn_bool' w 9999 t _ _ hu,u3w];rfl
 ·rename_i a b
  split at hok
  ·rename_i ks hfk
   split at hok
   ·rename_i r hce
    obtain⟨xs,rfl,hxs,hxc⟩:=w3T hx
    obtain⟨ys,rfl,hys,hyc⟩:=w3T hy
    unfold r5Y at hfk
    cases hu:P.underlying t with
    |none=>rw[hu]at hfk;cases hfk
    |some u=>
     rw[hu]at hfk
     cases u with
     |struct fields=>
      simp only at hfk
      split at hfk
      ·rename_i hc
       cases hfk
       simp only[Bool.and_eq_true,Bool.not_eq_true']at hc
       obtain⟨⟨c1,c2⟩,c3⟩:=hc
       have hfo:P.fieldsOf t=fields:=by simp[Program.fieldsOf,hu]
       have hrun:=u8W (P:=P) (w:=w) (μ:=μ) (st:=st) (xs:=xs) (ys:=ys) (dep:=9998) fields.toList a b 0 r (fun p hp=>by
        have:=List.all_eq_true.1 c3 p hp
        simpa using this) hce (fun j hj=>⟨by rw[hxs];simpa using hj,by simpa using hxc j hj⟩) (fun j hj=>⟨by rw[hys];simpa using hj,by simpa using hyc j hj⟩)
       have hse:=run_equalIn_struct (P:=P) w 9999 t xs ys (by rw[hfo];exact hu) c1
       rw[hfo]at hse
       have hd:(aEq (r5c P t) (r5Y P t) neg (.agg a) (.agg b)).d= .bool (if neg then !r else r):=by
        simp only[aEq]
        rw[show r5Y P t=some (fields.toList.map fun f=>r8f P f.type)by simp only[r5Y,hu];rw[if_pos (by simp[c1,c2,c3])]]
        simp only[hce]
       refine⟨.bool (if neg then !r else r),?_,by rw[hd];exact r8T _ _ _ _⟩
       cases neg
       ·simp only[Bool.false_eq_true,if_false,Sem.run_bind,run_eqGuard_agg w _ t ox oy xs ys c2,Result.andThen_ok]
        rw[run_eql_struct w t xs ys,hse,hrun];rfl
       ·simp only[if_true,Sem.run_bind,run_eqGuard_agg w _ t ox oy xs ys c2,Result.andThen_ok]
        rw[run_neq_struct w t xs ys,hse,hrun];rfl
      ·split at hfk
       ·rename_i hno hc
        simp only[Bool.and_eq_true,Bool.not_eq_true']at hc
        obtain⟨c1,c2⟩:=hc
        have hfo:P.fieldsOf t=fields:=by simp[Program.fieldsOf,hu]
        have hrun:=w9a (P:=P) (w:=w) (μ:=μ) (st:=st) 40 fields.toList a b 0 9998 ks r xs ys hfk hce (by omega) (fun j hj=>⟨by rw[hxs];simpa using hj,by simpa using hxc j hj⟩) (fun j hj=>⟨by rw[hys];simpa using hj,by simpa using hyc j hj⟩)
        have hse:=run_equalIn_struct (P:=P) w 9999 t xs ys (by rw[hfo];exact hu) c1
        rw[hfo]at hse
        have hd:(aEq (r5c P t) (r5Y P t) neg (.agg a) (.agg b)).d= .bool (if neg then !r else r):=by
         simp only[aEq]
         rw[show r5Y P t=some ks by simp only[r5Y,hu];rw[if_neg hno,if_pos (by simp[c1,c2])];exact hfk]
         simp only[hce]
        refine⟨.bool (if neg then !r else r),?_,by rw[hd];exact r8T _ _ _ _⟩
        cases neg
        ·simp only[Bool.false_eq_true,if_false,Sem.run_bind,run_eqGuard_agg w _ t ox oy xs ys c2,Result.andThen_ok]
         rw[run_eql_struct w t xs ys,hse,hrun];rfl
        ·simp only[if_true,Sem.run_bind,run_eqGuard_agg w _ t ox oy xs ys c2,Result.andThen_ok]
         rw[run_neq_struct w t xs ys,hse,hrun];rfl
       ·cases hfk
     | _=>cases hfk
   ·exact hok.elim
  ·exact hok.elim
 ·have:=u5t hx;subst this
  have:=u5t hy;subst this
  obtain⟨el,hk⟩:=hok
  have hu:=u0K hk
  refine⟨.bool (!neg),?_,by simp only[aEq];exact r8T _ _ _ _⟩
  cases neg
  ·simp only[Bool.false_eq_true,if_false,Sem.run_bind,w0j,Result.andThen_ok,binOp,Op.equal,Op.maxDepth]
   rw[nil_eq w 9999 hu];rfl
  ·simp only[if_true,Sem.run_bind,w0j,Result.andThen_ok,binOp,Op.equal,Op.maxDepth]
   rw[nil_eq w 9999 hu];rfl
 ·exact hok.elim
theorem x1R{P:Program}{w:World}{μ:Mu}{st:St}{vx:Value}{x:D}{op:UnOp}(hx:VR w μ st vx x)(hok:(aUn op x).ok):
 ∃v,(Op.unary op vx).run P w= .ok v w∧VR w μ st v (aUn op x).d:=by
 unfold aUn at hok
 split at hok
 ·rename_i b
  have:=u3Y hx;subst this
  exact⟨.bool (!b),rfl,r8T _ _ _ _⟩
 ·rename_i k n
  have:=u0F hx;subst this
  exact⟨.int k (k.wrap (0-n)),by simp[Op.unary,Op.intArith],u5u hok⟩
 ·exact hok.elim
theorem w2E{w w':World}{μ:Mu}{st:St}(hs:Sim w μ st)(h1:w.heap.size≤w'.heap.size)(h2:w'.os=w.os)(h3:w'.output=w.output)(h4:w'.tape=w.tape∧w.drawn≤w'.drawn)(hh:∀j,j<w.heap.size→w'.heap[j]? =w.heap[j]?):Sim w' μ st∧Step w μ st w' μ st:=by
 have step:Step w μ st w' μ st:=
  ⟨h1,h2,h3,h4,fun blk hb _=>hh blk hb,fun blk h=>.inl h,Nat.le_refl _,fun o ob' _ h=>⟨ob',h,by
   cases ob' with
   |arr g n b es=>exact⟨Nat.le_refl _,fun _=>⟨rfl,rfl,rfl,rfl,fun blk base c ty _ hc=>⟨c,by
    refine⟨(hh _ ?_).trans hc,rfl⟩
    rcases Nat.lt_or_ge blk w.heap.size with h|h
    ·exact h
    ·rw[Array.getElem?_eq_none h]at hc;cases hc⟩⟩⟩
   |mps=>exact⟨rfl,rfl⟩
   |mpi=>exact⟨rfl,rfl,rfl⟩
   |sit=>exact rfl
   |resv=>exact trivial⟩⟩
 exact⟨⟨fun o ob h=>(hs.obj o ob h).step step (fun blk base e=>hh blk (w1R hs ⟨o,ob,base,h,e⟩)),hs.inj⟩,step⟩
theorem w5z{P:Program}{s t el:TypeId}{w:World}{μ:Mu}{st:St}{a:Bs}(hs0:Sim w μ st)(hs:(r5c P s).k= .str)(ht:(r5c P t).k= .slice el)(he:(r5c P el).k= .int .u8)(hl:a.length≤top):
 ∃v w',(convert s t (.string (bs a))).run P w= .ok v w'∧Sim w' μ st∧Step w μ st w' μ st∧VR w' μ st v (.sl false 1 1 (u2s a)):=by
 have hrun:=Lib.run_convert_string_bytes w s t el (bs a) (u7C hs) (u0K ht) (w5p he)
 have hsz:(bs a).size=a.length:=by simp[bs,ByteArray.size]
 have g:=w2E (w':=Lib.bytesWorld w el (bs a)) hs0 (by rw[Lib.bytesWorld_size];omega) (by simp[Lib.bytesWorld,World.freeze,World.alloc,World.drew, -World.alloc_eq, -World.drew_eq]) (by simp[Lib.bytesWorld,World.freeze,World.alloc,World.drew, -World.alloc_eq, -World.drew_eq]) ⟨by simp[Lib.bytesWorld,World.freeze,World.alloc,World.drew, -World.alloc_eq, -World.drew_eq],by simp[Lib.bytesWorld,World.freeze,World.alloc,World.drew, -World.alloc_eq, -World.drew_eq]⟩ (fun j hj=>Lib.bytesWorld_at_old w el (bs a) j hj)
 have hlen:(u2s a).length=a.length:=by simp[u2s]
 refine⟨_,_,hrun,g.1,g.2,?_⟩
 refine .tr (.sl false 1 1 _ _ _ _ (fun i _=>.int .u8 ((a.getD i 0).toNat:Int)) (hsz.trans hlen.symm) (grownCap_ge _ _ _ _) (fun e=>by cases e) (by rw[hlen,Nat.mul_one];exact hl) (Nat.le_refl _) (fun e hm=>?_) (.inr ⟨w.heap.size,0,rfl,by rw[Lib.bytesWorld_size];omega,fun ho=>?_,fun i j hi hj=>?_⟩) (fun i j hi hj=>?_))
 ·obtain⟨c,_,rfl⟩:=List.mem_map.1 hm;rfl
 ·exact absurd (w1R hs0 ho) (Nat.lt_irrefl _)
 ·have hj0:j=0:=by omega
  subst hj0
  have:=Lib.bytesWorld_cell w el (bs a) i (by rw[hsz, ←hlen];exact hi)
  simpa[bs]using this
 ·have e:(u2s a)[i]=[D.int .u8 ((a.getD i 0).toNat:Int)]:=by
   have:i<a.length:=by rw[←hlen];exact hi
   simp[u2s,List.getD_eq_getElem?_getD,this]
  have hj0:j=0:=by rw[e]at hj;simpa using hj
  subst hj0
  have e2:((u2s a)[i])[0]=D.int .u8 ((a.getD i 0).toNat:Int):=by simp[e]
  rw[e2]
  exact .int _ _
theorem w2F{P:Program}{s t:TypeId}{el:TypeId}{w:World}{μ:Mu}{st:St}{vx:Value}{x:D}(hs0:Sim w μ st)(hx:VR w μ st vx x)(hel:∀e,(r5c P t).k= .slice e→e=el)(y1R:(r5c P t).k= .str→∀e,(r5c P s).k= .slice e→e=el)(hok:(u2t (r5c P s) (r5c P t) (r5c P el) x).ok):
 ∃v w',(convert s t vx).run P w= .ok v w'∧Sim w' μ st∧Step w μ st w' μ st∧VR w' μ st v (u2t (r5c P s) (r5c P t) (r5c P el) x).d:=by
 unfold u2t at hok⊢
 split at hok
 ·rename_i f n b es e hs ht
  cases y1R ht e hs
  obtain⟨he,rfl,hu,hne⟩:=hok
  have hne:es≠ []:=fun h=>hne.mp h
  cases hx with
  |tr h=>
   cases h with
   |sl _ _ _ _ a len cap cv hlen hcap u9j hb hb1 hn ha hc=>
    obtain⟨blk,off,rfl,_,_,hcell⟩:=ha.resolve_left hne
    have hrow:∀i (hi:i<es.length),∃m,es[i]=[D.int .u8 m]:=fun i hi=>by
     have:=List.all_eq_true.1 hu _ (List.getElem_mem hi)
     generalize es[i]=r at this
     unfold x1L at this
     split at this
     ·exact⟨_,rfl⟩
     ·cases this
    let xs:List Int:=es.map fun r=>match r with| [.int _ n]=>n| _=>0
    have hx:∀i,i<es.length→w.cell? ⟨blk,off+i,none⟩=some (.int .u8 (xs.getD i 0)):=fun i hi=>by
     obtain⟨m,hm⟩:=hrow i hi
     have h1:=hcell i 0 hi (by omega)
     have h2:=hc i 0 hi (by rw[hm];simp)
     simp only[hm,List.getElem_cons_zero]at h2
     rw[Nat.mul_one,Nat.add_zero]at h1
     rw[h1]
     rw[u0F (.tr h2:VR w μ st _ _)]
     simp[xs,List.getD_eq_getElem?_getD,hi,hm]
    refine⟨.string (bs (strOf es)),w,?_,hs0,Step.refl _ _ _,u9S _ _ _ _⟩
    have:=run_convert_bytes_arg (P:=P) w s el (u0K hs) (w5p he) blk off len cap xs (by simp[xs,hlen]) (fun i hi=>hx i (by omega)) t (u7C ht)
    rw[this]
    have e2:strOfNums xs=bs (strOf es):=by
     unfold strOfNums bs strOf
     congr 1
     congr 1
     rw[List.map_map]
     refine List.map_congr_left fun r hr=>?_
     have:=List.all_eq_true.1 hu _ hr
     unfold x1L at this
     split at this
     ·rfl
     ·cases this
    rw[e2]
 ·rename_i a e hs ht
  have:=u3J hx;subst this
  cases hel e ht
  exact w5z hs0 hs ht hok.1 hok.2
 ·rename_i k0 n k1 k hs ht
  have:=u0F hx;subst this
  exact⟨.int k (k.wrap n),w,by simp[convert,run_underlying (w5p hs),run_underlying (w5p ht),Conv.intToInt],hs0,Step.refl _ _ _,u0a _ _ _ _ _⟩
 ·rename_i a hs ht
  have:=u3J hx;subst this
  exact⟨.string (bs a),w,by simp[convert,run_underlying (u7C hs),run_underlying (u7C ht)],hs0,Step.refl _ _ _,u9S _ _ _ _⟩
 ·rename_i k0 n k1 hs ht
  have:=u0F hx;subst this
  have e:bs (w2z n)=Utf8.encode n:=by simp[bs,w2z]
  exact⟨.string (bs (w2z n)),w,by rw[e];simp[convert,run_underlying (w5p hs),run_underlying (u7C ht),Conv.intToString],hs0,Step.refl _ _ _,u9S _ _ _ _⟩
 ·exact hok.elim
theorem w1F{w:World}{μ:Mu}{st:St}{v:Value}{x:D}(hx:VR w μ st v x)(hok:(u0J x).ok):(∃a,v= .pointer (some a))∧VR w μ st v (u0J x).d:=by
 unfold u0J at hok⊢
 split at hok
 ·refine⟨?_,hx⟩
  cases hx with
  |tr h=>cases h
  |ptr _ _ _ _ _ hv=>exact hv
 ·refine⟨?_,hx⟩
  cases hx with
  |tr h=>cases h;exact⟨_,rfl⟩
 ·exact hok.elim
theorem w2G{P:Program}{w:World}{μ:Mu}{st:St}{vx:Value}{x:D}{ix:Nat}(hx:VR w μ st vx x)(hok:(u3M ix x).ok):
 ∃v,(Instr.extract vx ix).run P w= .ok v w∧VR w μ st v (u3M ix x).d:=by
 unfold u3M at hok⊢
 split at hok
 ·rename_i cs
  cases hx with
  |tr h=>cases h
  |tup vs _ hs hc=>
   split at hok
   ·rename_i g d hd
    have hj:ix<cs.length:=by
     rcases Nat.lt_or_ge ix cs.length with h|h
     ·exact h
     ·rw[List.getElem?_eq_none h]at hd;cases hd
    have hcd:cs[ix]= .cond g d:=by rw[List.getElem?_eq_getElem hj]at hd;exact Option.some.inj hd
    have hlt:=hs ix hj (by rw[hcd];exact hok)
    have hv:=hc ix hj
    rw[hcd,u4S (v:=vs[ix]) (by simp[hlt])]at hv
    refine⟨vs[ix],by simp[Instr.extract,hlt],?_⟩
    generalize vs[ix]=u at hv
    cases hv with
    |tr h=>cases h
    |cond _ _ _ h _=>exact h hok
   ·rename_i d hnc hd
    have hj:ix<cs.length:=by
     rcases Nat.lt_or_ge ix cs.length with h|h
     ·exact h
     ·rw[List.getElem?_eq_none h]at hd;cases hd
    have hcd:cs[ix]=d:=by rw[List.getElem?_eq_getElem hj]at hd;exact Option.some.inj hd
    have hlt:=hs ix hj (by rw[hcd];cases d<;>first|rfl|exact(hnc _ _ rfl).elim)
    have hv:=hc ix hj
    rw[hcd,u4S (v:=vs[ix]) (by simp[hlt])]at hv
    exact⟨vs[ix],by simp[Instr.extract,hlt],hv⟩
   ·exact hok.elim
 ·exact hok.elim
theorem w9b{P:Program}{t ty:TypeId}{w:World}{μ:Mu}{st:St}{vx:Value}{x:D}(hs:Sim w μ st)(hx:VR w μ st vx x)(hok:(w8T (r5c P t) (look st) x).ok):
 ∃v,(Builtin.len_ #[t] ty #[vx]).run P w= .ok v w∧VR w μ st v (w8T (r5c P t) (look st) x).d:=by
 cases x with
 |str s=>
  have:=u3J hx;subst this
  refine⟨.int .i64 s.length,?_,u0a _ _ _ _ _⟩
  simp[Builtin.len_,run_underlying (u7C hok),goInt,u4R]
 |r5g=>
  have:=u5t hx;subst this
  obtain⟨e,hk⟩:=hok
  exact⟨.int .i64 0,by simp[Builtin.len_,run_underlying (u0K hk),goInt],u0a _ _ _ _ _⟩
 |sl full n b es=>
  obtain⟨e,hk⟩:=hok
  cases hx with
  |tr h=>
   cases h with
   |sl _ _ _ _ a len cap cv hlen=>
    refine⟨.int .i64 es.length,?_,u0a _ _ _ _ _⟩
    simp[Builtin.len_,run_underlying (u0K hk),goInt,hlen]
 |ref full o g off len=>
  simp only[w8T]at*
  split at hok
  ·rename_i g' n b es hl
   obtain⟨⟨e,hk⟩,rfl⟩:=hok
   cases hx with
   |tr h=>cases h
   |ref _ _ _ _ _ _ hvv hol hr hg h=>
    obtain⟨a,cap,ev,_⟩:=h _ _ _ (r5w hl)
    subst ev
    refine⟨.int .i64 len,?_,u0a _ _ _ _ _⟩
    simp[Builtin.len_,run_underlying (u0K hk),goInt]
  ·exact hok.elim
 |u4v=>
  obtain⟨a,b,hk⟩:=hok
  cases hx with
  |tr h=>
   cases h
   exact⟨.int .i64 0,by simp[Builtin.len_,run_underlying (w8U hk),goInt],u0a _ _ _ _ _⟩
 |mp o=>
  simp only[w8T]at*
  split at hok
  ·rename_i ag es hl
   obtain⟨a,b,hk⟩:=hok
   obtain⟨blk,em,ev⟩:=(w3U hx).1 _ _ (r5w hl)
   subst ev
   obtain⟨u8k,ents,clock,ez,em',hh,hsz,_,hx⟩:=(hs.obj o _ (r5w hl):u6c _ ag w μ st (μ o) es).loc
   rw[em]at em';cases em'
   refine⟨.int .i64 es.length,?_,u0a _ _ _ _ _⟩
   simp[Builtin.len_,run_underlying (w8U hk),MapKept.run_getObj_map hh,goInt,hsz,hx.perm.length_eq]
  ·rename_i ag kk es hl
   obtain⟨a,b,hk⟩:=hok
   obtain⟨blk,em,ev⟩:=(w3U hx).2 _ _ _ (r5w hl)
   subst ev
   obtain⟨u8k,ents,clock,ez,em',hh,hsz,_,hx⟩:=(hs.obj o _ (r5w hl):u6c _ ag w μ st (μ o) es).loc
   rw[em]at em';cases em'
   refine⟨.int .i64 es.length,?_,u0a _ _ _ _ _⟩
   simp[Builtin.len_,run_underlying (w8U hk),MapKept.run_getObj_map hh,goInt,hsz,hx.perm.length_eq]
  ·exact hok.elim
 | _=>exact hok.elim
theorem w9c{P:Program}{t ty:TypeId}{w:World}{μ:Mu}{st:St}{vx:Value}{x:D}(hx:VR w μ st vx x)(hok:(x3v (r5c P t) x).ok):
 ∃v,(Builtin.cap_ #[t] ty #[vx]).run P w= .ok v w∧VR w μ st v (x3v (r5c P t) x).d:=by
 cases x with
 |r5g=>
  have:=u5t hx;subst this
  obtain⟨e,hk⟩:=hok
  exact⟨.int .i64 0,by simp[Builtin.cap_,run_underlying (u0K hk),goInt],u0a _ _ _ _ _⟩
 | _=>exact hok.elim
theorem w9d{P:Program}{ts:Array TypeId}{ty:TypeId}{w:World}{μ:Mu}{st:St}{vx vy:Value}{x y:D}(hx:VR w μ st vx x)(hy:VR w μ st vy y)(hok:(x1N x y).ok):
 ∃v,(Builtin.max_ ts ty #[vx,vy]).run P w= .ok v w∧VR w μ st v (x1N x y).d:=by
 unfold x1N at hok⊢
 split at hok
 ·rename_i k a k' b
  have:=u0F hx;subst this
  have:=u0F hy;subst this
  refine⟨.int k (max a b),?_,u0a _ _ _ _ _⟩
  simp[Builtin.max_,Builtin.max2]
  split<;>omega
 ·exact hok.elim
theorem w9e{P:Program}{ts:Array TypeId}{ty:TypeId}{w:World}{μ:Mu}{st:St}{vx vy:Value}{x y:D}(hx:VR w μ st vx x)(hy:VR w μ st vy y)(hok:(x1O x y).ok):
 ∃v,(Builtin.min_ ts ty #[vx,vy]).run P w= .ok v w∧VR w μ st v (x1O x y).d:=by
 unfold x1O at hok⊢
 split at hok
 ·rename_i k a k' b
  have:=u0F hx;subst this
  have:=u0F hy;subst this
  refine⟨.int k (min a b),?_,u0a _ _ _ _ _⟩
  simp[Builtin.min_,Builtin.min2]
  split<;>omega
 ·exact hok.elim
theorem u7a{P:Program}(w:World)(t u ty e:TypeId)(i:TypeInfo)(z:Value)(d:TypeDesc)(ht:P.underlying t=some (.slice e))(hu:P.underlying u=some d)(hd:∀k,d≠ .int k)(hi:P.info? e=some i)(hz:i.zero=some z)
 (base:Option Addr) (sLen sCap n:Nat) (x:Value) (w9f xs:Array Value) (hlen:∀w,(Builtin.lenOf x).run P w= .ok n w)
 (hfo:(Builtin.firstCells i.size sLen (.slice base sLen sCap)).run P w.drew= .ok w9f w.drew) (hf:(Builtin.firstCells i.size n x).run P w.drew= .ok xs w.drew)
 (hg:sCap<sLen+n) (h63:sLen+n≤top) (hfit:(sLen+n)*i.bytes≤top):
 (Builtin.append_ #[t,u] ty #[.slice base sLen sCap,x]).run P w=
  .ok (.slice (some ⟨w.heap.size,0,none⟩) (sLen+n) (grownCap w (sLen+n) sCap e))
   (w.drew.alloc (.cells (w9f++xs++Builtin.zeroCells z.cells (grownCap w (sLen+n) sCap e-(sLen+n))) e)):=by
 have hn:¬(sLen+n≤sCap):=by omega
 have t1:top=140737488355328:=rfl
 have h63':¬(9223372036854775807<((sLen:Int)+(n:Int))):=by omega
 have h48':¬(281474976710656<Builtin.nextslicecap (sLen+n) sCap*i.bytes):=by
  have:=growslice_fits (bytes:=i.bytes) hg (by rw[←t1];exact hfit)
  omega
 have hzb:(match d with| .int _=>true| _=>false)=false:=by cases d<;>first|rfl|exact absurd rfl (hd _)
 simp[Builtin.append_,run_underlying ht,run_underlying hu,hzb,sizeOf,typeInfo,zeroValue,hi,hz,hlen,hn,h63',h48',Question.forced,hf,hfo,newRow,grownCap]
theorem u3x{P:Program}(w w':World)(t u ty e:TypeId)(i:TypeInfo)(d:TypeDesc)(ht:P.underlying t=some (.slice e))(hu:P.underlying u=some d)(hd:∀k,d≠ .int k)(hi:P.info? e=some i)
 (base:Option Addr) (sLen sCap n:Nat) (x:Value) (xs:Array Value) (hlen:∀w,(Builtin.lenOf x).run P w= .ok n w)
 (hf:(Builtin.firstCells i.size n x).run P w= .ok xs w) (hg:sLen+n≤sCap)
 (hst:∀a,base=some a→(storeCells (a.add (sLen*i.size)) xs.toList).run P w= .ok () w') (hb:base=none→w'=w):
 (Builtin.append_ #[t,u] ty #[.slice base sLen sCap,x]).run P w= .ok (.slice base (sLen+n) sCap) w':=by
 have hzb:(match d with| .int _=>true| _=>false)=false:=by cases d<;>first|rfl|exact absurd rfl (hd _)
 cases base with
 |none=>
  have:=hb rfl;subst this
  simp[Builtin.append_,run_underlying ht,run_underlying hu,hzb,sizeOf,typeInfo,hi,hlen,hg,hf]
 |some a=>
  have h:=hst a rfl
  simp[Builtin.append_,run_underlying ht,run_underlying hu,hzb,sizeOf,typeInfo,hi,hlen,hg,hf,h]
structure w3X(P:Program)(w:World)(μ:Mu)(st:St)(size:Nat)(x:Value)(news:List (List D)):Prop where
 len:∀w,(Builtin.lenOf x).run P w= .ok news.length w
 cells:∃xs:Array Value,(∀w2:World,(∀a,w2.cell? a=w.cell? a)→(Builtin.firstCells size news.length x).run P w2= .ok xs w2)∧u9k w μ st size xs news
theorem TR.w9g{w:World}{own:Nat→Prop}{v:Value}{d:D}(h:TR w own v d):v.oneCell'=true:=by
 cases h<;>first|rfl|assumption
theorem u3U{P:Program}{w:World}{μ:Mu}{st:St}{n:Nat}{a:Option Addr}{len cap:Nat}{es:List (List D)}{cv:Nat→Nat→Value}(hn:∀e∈es,e.length=n)(hlen:len=es.length)
 (ha:es=[]∨∃blk off,a=some ⟨blk,off,none⟩∧∀i j,i<es.length→j<n→w.cell? ⟨blk,off+(i*n+j),none⟩=some (cv i j))
 (hv:∀i j (hi:i<es.length) (hj:j<(es[i]).length),VR w μ st (cv i j) ((es[i])[j])∧(cv i j).oneCell'=true):
 w3X P w μ st n (.slice a len cap) es:=by
 subst hlen
 refine⟨fun _=>rfl,?_⟩
 by_cases hne:es=[]
 ·subst hne
  refine⟨#[],fun w2 _=>?_,by simp,fun _ h=>absurd h (by simp),fun i j hi=>absurd hi (by simp)⟩
  cases a with
  |none=>rfl
  |some a=>simp[Builtin.firstCells,loadCells,loadCellsFrom]
 ·rcases ha with ha|⟨blk,off,rfl,hc⟩
  ·exact absurd ha hne
  ·by_cases hn0:n=0
   ·subst hn0
    refine⟨#[],fun w2 _=>by simp[Builtin.firstCells,loadCells,loadCellsFrom],by simp[u9k],hn,fun i j hi hj=>?_⟩
    rw[hn _ (List.getElem_mem hi)]at hj;omega
   ·have hdm:∀q,q<es.length*n→q / n<es.length∧q%n<n:=fun q hq=>⟨(Nat.div_lt_iff_lt_mul (by omega)).2 hq,Nat.mod_lt _ (by omega)⟩
    refine⟨((List.range (es.length*n)).map fun q=>cv (q / n) (q%n)).toArray,fun w2 h2=>?_,by simp,hn,fun i j hi hj=>?_⟩
    ·simp only[Builtin.firstCells]
     refine run_loadCells (P:=P) w2 ⟨blk,off,none⟩ (es.length*n) (fun q=>cv (q / n) (q%n)) (fun q hq=>?_)
     rw[u5d,h2]
     obtain⟨d1,d2⟩:=hdm q hq
     have:=hc _ _ d1 d2
     rwa[Nat.div_add_mod' q n]at this
    ·have hjn:j<n:=by rw[←hn _ (List.getElem_mem hi)];exact hj
     have hlt:i*n+j<es.length*n:=by
      have:(i+1)*n≤es.length*n:=Nat.mul_le_mul_right n hi
      rw[Nat.add_mul]at this;omega
     obtain⟨v1,v2⟩:=hv i j hi hj
     refine⟨cv i j,?_,v1,v2⟩
     have e1:(i*n+j) / n=i:=by rw[Nat.add_comm,Nat.add_mul_div_right _ _ (by omega)];simp[Nat.div_eq_of_lt hjn]
     have e2:(i*n+j)%n=j:=by rw[Nat.add_comm,Nat.add_mul_mod_self_right];exact Nat.mod_eq_of_lt hjn
     simp[hlt,e1,e2]
theorem w2H{P:Program}{w:World}{μ:Mu}{st:St}{full:Bool}{o g off len n b:Nat}{es:List (List D)}{v:Value}(hs:Sim w μ st)(hv:VR w μ st v (.ref full o g off len))
 (hl:look st o=some (.arr g n b es)) (hle:off+len≤es.length):
 ∃a cap,v= .slice a len cap∧len≤cap∧(full=true→cap=len)∧w3X P w μ st n v ((es.drop off).take len)∧
  (cap=0∨∃blk base c ty,μ o=some (blk,base)∧a=some ⟨blk,base+off*n,none⟩∧w.heap[blk]? =some (.cells c ty (0,0))∧base+(off+cap)*n≤c.size):=by
 have ho:=r5w hl
 obtain⟨hb,hn,x4e⟩:=(hs.obj o _ ho:u6V w μ st (μ o) n b es)
 cases hv with
 |tr h=>cases h
 |ref _ _ _ _ _ _ hvv hol hr hg h=>
  obtain⟨a,cap,ev,c1,c2,c3,c4⟩:=h _ _ _ ho
  subst ev
  refine⟨a,cap,rfl,c1,c3,?_,?_⟩
  ·have x4i:((es.drop off).take len).length=len:=by simp;omega
   by_cases hz:len=0
   ·have:(es.drop off).take len=[]:=by rw[hz];simp
    rw[this]
    exact u3U (n:=n) (cv:=fun _ _=>undef) (by simp) (by simp[hz]) (.inl rfl) (fun i j hi=>absurd hi (by simp))
   ·rcases c4 with c4|⟨blk,base,em,ea,c,ty,hh,hsz⟩
    ·omega
    ·rcases x4e with⟨e,_⟩|⟨u8k,base',c',ty',em',hh',hsz',hc'⟩
     ·rw[em]at e;cases e
     ·rw[em]at em';cases em'
      rw[hh]at hh';cases hh'
      have hex:∀i j,∃v,∀(hi:i<es.length) (hj:j<(es[i]).length),c[base+(i*n+j)]? =some v∧VR w μ st v ((es[i])[j])∧v.oneCell'=true:=fun i j=>by
       by_cases h:∃hi:i<es.length,j<(es[i]).length
       ·obtain⟨hi,hj⟩:=h
        obtain⟨v,h⟩:=hc' i j hi hj
        exact⟨v,fun _ _=>h⟩
       ·exact⟨undef,fun hi hj=>absurd ⟨hi,hj⟩ h⟩
      obtain⟨cv,hcv⟩:=Classical.axiomOfChoice (fun i=>Classical.axiomOfChoice (hex i))
      refine u3U (n:=n) (cv:=fun i j=>cv (off+i) j) (fun e he=>hn e (List.mem_of_mem_drop (List.mem_of_mem_take he))) x4i.symm (.inr ⟨blk,_,ea,fun i j hi hj=>?_⟩) (fun i j hi hj=>?_)
      ·rw[x4i]at hi
       have hil:off+i<es.length:=by omega
       have:=(hcv (off+i) j hil (by rw[hn _ (List.getElem_mem hil)];exact hj)).1
       simp only[World.cell?, hh]
       rw[show base+off*n+(i*n+j)=base+((off+i)*n+j)by rw[Nat.add_mul];omega]
       simpa using this
      ·rw[x4i]at hi
       have hil:off+i<es.length:=by omega
       simp only[List.getElem_take,List.getElem_drop]at hj⊢
       exact(hcv (off+i) j hil hj).2
  ·rcases c4 with c4|⟨blk,base,em,ea,c,ty,hh,hsz⟩
   ·exact .inl c4
   ·exact .inr ⟨blk,base,c,ty,em,ea,hh,hsz⟩
theorem w8e{P:Program}{w:World}{μ:Mu}{st:St}{x:D}{vx:Value}{e:TI}{news:List (List D)}(hs:Sim w μ st)(hx:VR w μ st vx x)(hn:u5V (look st) e x=some news)(h1:∀s,x= .str s→e.size=1):w3X P w μ st e.size vx news:=by
 cases x with
 |sl full n b es=>
  simp only[u5V]at hn
  split at hn
  ·rename_i he
   cases hn
   cases hx with
   |tr h=>
    cases h with
    |sl _ _ _ _ a len cap cv hlen hcap u9j hb hb1 hnn ha hc=>
     rw[←he]
     refine u3U (cv:=cv) hnn hlen ?_ (fun i j hi hj=>⟨.tr (hc i j hi hj),(hc i j hi hj).w9g⟩)
     rcases ha with ha|⟨blk,off,ea,_,_,hcell⟩
     ·exact .inl ha
     ·exact .inr ⟨blk,off,ea,hcell⟩
  ·cases hn
 |r5g=>
  cases hn
  have:=u5t hx;subst this
  exact u3U (cv:=fun _ _=>undef) (by simp) rfl (.inl rfl) (fun i j hi=>absurd hi (by simp))
 |ref full o g off len=>
  simp only[u5V]at hn
  split at hn
  ·rename_i g' n b es hl
   split at hn
   ·rename_i hc
    obtain⟨rfl,rfl,hle⟩:=hc
    cases hn
    obtain⟨a,cap,ev,_,_,hnr,_⟩:=w2H (P:=P) hs hx hl hle
    exact hnr
   ·cases hn
  ·cases hn
 |str s=>
  cases hn
  have:=u3J hx;subst this
  rw[h1 s rfl]
  refine⟨fun _=>by simp[Builtin.lenOf,u4R],((s.map fun c=>Value.int .u8 (c.toNat:Int))).toArray,fun w2 _=>?_,by simp,by simp,fun i j hi hj=>?_⟩
  ·simp only[Builtin.firstCells,w1Z,List.length_map]
   simp[bs]
  ·simp at hi
   simp at hj
   subst hj
   refine⟨.int .u8 ((s[i]).toNat:Int),by simp[hi],by simpa using u0a _ _ _ _ _,rfl⟩
 | _=>cases hn
theorem u9k.append{w:World}{μ:Mu}{st:St}{n:Nat}{a b:Array Value}{x y:List (List D)}(h1:u9k w μ st n a x)(h2:u9k w μ st n b y):u9k w μ st n (a++b) (x++y):=by
 refine⟨by rw[Array.size_append,h1.1,h2.1,List.length_append,Nat.add_mul],fun e he=>?_,fun i j hi hj=>?_⟩
 ·rcases List.mem_append.1 he with h|h
  ·exact h1.2.1 e h
  ·exact h2.2.1 e h
 ·by_cases hil:i<x.length
  ·simp only[List.getElem_append_left hil]at hj⊢
   obtain⟨v,e,r⟩:=h1.2.2 i j hil hj
   have hlt:i*n+j<a.size:=(Array.getElem?_eq_some_iff.1 e).1
   exact⟨v,by rw[Array.getElem?_append_left hlt];exact e,r⟩
  ·have hir:x.length≤i:=by omega
   simp only[List.getElem_append_right hir]at hj⊢
   have hi2:i-x.length<y.length:=by simp at hi;omega
   obtain⟨v,e,r⟩:=h2.2.2 (i-x.length) j hi2 hj
   have e1:i*n+j-a.size=(i-x.length)*n+j:=by
    rw[h1.1,Nat.sub_mul]
    have:x.length*n≤i*n:=Nat.mul_le_mul_right n hir
    omega
   refine⟨v,?_,r⟩
   rw[Array.getElem?_append_right (by rw[h1.1];have:x.length*n≤i*n:=Nat.mul_le_mul_right n hir;omega),e1]
   exact e
def LR.app(r:LR)(q:Nat)(st:St):St:=
 let s1:=match r.up with|some (o,ob)=>st.set o (some ob)|none=>st
 match r.new with|some ob=>s1.set q (some ob)|none=>s1
theorem u8n{P:Program}{t u ty el:TypeId}{i:TypeInfo}{z:Value}{d:TypeDesc}{w:World}{μ:Mu}{st:St}{q sLen sCap:Nat}{base:Option Addr}{vx:Value}{es news:List (List D)}(hs:Sim w μ st)(hq:st[q]? =some (some .resv))
 (ht:P.underlying t=some (.slice el)) (hu:P.underlying u=some d) (hd:∀k,d≠ .int k) (hi:P.info? el=some i) (hz:i.zero=some z) (hzl:z.cells.size=i.size)
 (hb:w3X P w μ st i.size (.slice base sLen sCap) es) (hx:w3X P w μ st i.size vx news) (hl:sLen=es.length) (hg:sCap<sLen+news.length)
 (h63:sLen+news.length≤top) (hfit:(sLen+news.length)*i.bytes≤top):
 ∃v w' μ',(Builtin.append_ #[t,u] ty #[.slice base sLen sCap,vx]).run P w= .ok v w'∧Sim w' μ' (st.set q (some (.arr 0 i.size i.bytes (es++news))))∧
  Step w μ st w' μ' (st.set q (some (.arr 0 i.size i.bytes (es++news))))∧VR w' μ' (st.set q (some (.arr 0 i.size i.bytes (es++news)))) v (.ref false q 0 0 (sLen+news.length)):=by
 obtain⟨w9f,ho1,ho2⟩:=hb.cells
 obtain⟨xs,hx1,hx2⟩:=hx.cells
 subst hl
 have hrun:=u7a (P:=P) w t u ty el i z d ht hu hd hi hz base es.length sCap news.length vx w9f xs hx.len (ho1 w.drew (fun _=>rfl)) (hx1 w.drew (fun _=>rfl)) hg h63 hfit
 have u7i:=ho2.append hx2
 have hlt:q<st.length:=(List.getElem?_eq_some_iff.1 hq).1
 have hcap:es.length+news.length≤grownCap w (es.length+news.length) sCap el:=by simp[grownCap,Question.cut]
 have hd0:Sim w.drew μ st∧Step w μ st w.drew μ st:=by
  have step:Step w μ st w.drew μ st:=⟨Nat.le_refl _,rfl,rfl,⟨rfl,Nat.le_succ _⟩,fun _ _ _=>rfl,fun _ h=>.inl h,Nat.le_refl _,fun _ ob' _ h=>⟨ob',h,by
   cases ob' with
   |arr g n b es=>exact⟨Nat.le_refl _,fun _=>⟨rfl,rfl,rfl,rfl,fun blk base c ty _ hh=>⟨c,hh,rfl⟩⟩⟩
   |mps=>exact⟨rfl,rfl⟩
   |mpi=>exact⟨rfl,rfl,rfl⟩
   |sit=>rfl
   |resv=>trivial⟩⟩
  exact⟨⟨fun o ob h=>(hs.obj o ob h).step step (fun _ _ _=>rfl),hs.inj⟩,step⟩
 have h:=u3L (w:=w.drew) (x:=.cells (w9f++xs++Builtin.zeroCells z.cells (grownCap w (es.length+news.length) sCap el-(es.length+news.length))) el) (ob:=.arr 0 i.size i.bytes (es++news)) hd0.1 hq
  (fun s=>u8l (fun a b ha hb'=>by
   obtain⟨v,e,h1,h2⟩:=u7i.2.2 a b ha hb'
   have hlt2:a*i.size+b<(w9f++xs).size:=(Array.getElem?_eq_some_iff.1 e).1
   exact⟨v,by rw[Array.getElem?_append_left hlt2];exact e,h1.step hd0.2,h2⟩) (by rw[Array.size_append];have:=u7i.1;omega) u7i.2.1 (by simpa using hfit) s)
 refine⟨_,_,_,hrun,h.1,hd0.2.trans h.2,?_⟩
 refine .ref _ false q 0 0 _ ⟨_,_,_,rfl⟩ (by simpa using hlt) (by simp[hlt]) (fun g' n b es e=>Nat.zero_le _) (fun n b es' e=>?_)
 rw[List.getElem?_set_self hlt]at e
 cases e
 refine⟨_,_,rfl,hcap,by simp,fun hf=>(by cases hf),.inr ⟨w.heap.size,0,by rw[r5Z];rfl,by simp,_,el,heap_alloc_new _ _,?_⟩⟩
 have hzs:∀m,(Builtin.zeroCells z.cells m).size=m*z.cells.size:=fun m=>by simp[Builtin.zeroCells]
 rw[Array.size_append,hzs,u7i.1,hzl,List.length_append, ←Nat.add_mul]
 refine Nat.le_of_eq ?_
 rw[Nat.zero_add,Nat.zero_add]
 congr 1
 omega
theorem x9v{P:Program}{u:TypeId}(h:(r5c P u).k= .str∨∃t,(r5c P u).k= .slice t):∃d,P.underlying u=some d∧∀k,d≠ .int k:=by
 rcases h with h|⟨t,h⟩
 ·exact⟨_,u7C h,fun k e=>by cases e⟩
 ·exact⟨_,u0K h,fun k e=>by cases e⟩
theorem w3Y{P:Program}{t u ty el:TypeId}{w:World}{μ:Mu}{st:St}{vs vx:Value}{src x:D}{q:Nat}{r:LR}(hs:Sim w μ st)(x8N:VR w μ st vs src)(hx:VR w μ st vx x)
 (hel:(r5c P t).k= .slice el) (hr:r=r8g (r5c P t) (r5c P el) (r5c P u).k (look st) src x q) (hok:r.ok) (hq:st[q]? =some (some .resv)):
 ∃v w' μ',(Builtin.append_ #[t,u] ty #[vs,vx]).run P w= .ok v w'∧Sim w' μ' (r.app q st)∧Step w μ st w' μ' (r.app q st)∧VR w' μ' (r.app q st) v r.d:=by
 have ht:=u0K hel
 have hlt:q<st.length:=(List.getElem?_eq_some_iff.1 hq).1
 cases hn:u5V (look st) (r5c P el) x with
 |none=>rw[hr]at hok;simp only[r8g,hn]at hok;exact hok.elim
 |some news=>
  have fine:∀n,w8c (r5c P t) (r5c P el) (r5c P u).k x n→
   ∃i z d,P.info? el=some i∧i.zero=some z∧z.cells.size=i.size∧P.underlying u=some d∧(∀k,d≠ .int k)∧(r5c P el).size=i.size∧(r5c P el).bytes=i.bytes∧i.size≠0∧n*i.bytes≤top∧n≤top∧w3X P w μ st i.size vx news:=by
   intro n ⟨_,h1,h2,h3,h4,h5,h6⟩
   obtain⟨i,z,hi,hz,hc⟩:=u5g (w:=w) (μ:=μ) (st:=st) h1 h2
   have hsz:(r5c P el).size=i.size:=by simp[r5c,hi]
   have hby:(r5c P el).bytes=i.bytes:=by simp[r5c,hi]
   have hxk:(r5c P u).k= .str∨∃t,(r5c P u).k= .slice t:=by
    cases x<;>first|exact .inl h6.1|exact .inr h6
   obtain⟨d,hu,hd⟩:=x9v hxk
   have hnr:=w8e (P:=P) hs hx hn (fun s e=>by subst e;exact h6.2)
   rw[hsz]at hnr h2
   refine⟨i,z,d,hi,hz,by rw[hc.1,h1,hsz],hu,hd,hsz,hby,h2,by rw[←hby];exact h4,h5,hnr⟩
  have empty:∀(a:Option Addr) (d:TypeDesc) (i:TypeInfo),P.underlying u=some d→(∀k,d≠ .int k)→P.info? el=some i→w3X P w μ st i.size vx []→news=[]→
   ∃v w' μ',(Builtin.append_ #[t,u] ty #[.slice a 0 0,vx]).run P w= .ok v w'∧Sim w' μ' (st.set q (some (.arr 0 i.size i.bytes [])))∧
    Step w μ st w' μ' (st.set q (some (.arr 0 i.size i.bytes [])))∧VR w' μ' (st.set q (some (.arr 0 i.size i.bytes []))) v (.ref false q 0 0 0):=by
   intro a d i hu hd hi hnr _
   obtain⟨xs,hx1,hx2⟩:=hnr.cells
   have hxs:xs= #[]:=by
    have:=hx2.1
    simp at this
    exact this
   have hrun:=u3x (P:=P) w w t u ty el i d ht hu hd hi a 0 0 0 vx xs hnr.len (hx1 w (fun _=>rfl)) (by simp) (fun a _=>by rw[hxs];rfl) (fun _=>rfl)
   have h:=u1L (w:=w) (w':=w) (μ':=upd μ q none) (ob':=.arr 0 i.size i.bytes []) hs hq (fun o' h=>r8S _ _ _ h) (fun _ _ _=>rfl) (Nat.le_refl _) rfl rfl ⟨rfl,Nat.le_refl _⟩ (fun blk base e=>by rw[r5Z]at e;cases e) trivial
    (fun s=>(⟨by simp,by simp,.inl ⟨r5Z _ _ _,rfl⟩⟩:u6V _ _ _ _ _ _ _))
   refine⟨_,w,_,hrun,h.1,h.2,.ref _ false q 0 0 0 ⟨_,_,_,rfl⟩ (by simpa using hlt) (by simp[hlt]) (fun g' n b es e=>Nat.zero_le _) (fun n b es' e=>?_)⟩
   rw[List.getElem?_set_self hlt]at e
   cases e
   exact⟨_,_,rfl,Nat.le_refl _,by simp,fun hf=>(by cases hf),.inl rfl⟩
  cases src with
  |r5g=>
   have:=u5t x8N;subst this
   have hr':r=r8g (r5c P t) (r5c P el) (r5c P u).k (look st) .r5g x q:=hr
   simp only[r8g,hn]at hr'
   subst hr'
   obtain⟨i,z,d,hi,hz,hzl,hu,hd,hsz,hby,h0,h4,h5,hnr⟩:=fine _ hok
   simp only[LR.app]
   rw[hsz,hby]
   by_cases hne:news=[]
   ·subst hne
    exact empty none d i hu hd hi hnr rfl
   ·have hpos:0<news.length:=List.length_pos_iff.2 hne
    have h:=u8n (P:=P) (ty:=ty) (q:=q) (sLen:=0) (sCap:=0) (base:=none) (es:=[]) hs hq ht hu hd hi hz hzl (u3U (cv:=fun _ _=>undef) (by simp) rfl (.inl rfl) (fun i j hi=>absurd hi (by simp))) hnr rfl (by simpa using hpos) (by simpa using h5) (by simpa using h4)
    simpa using h
  |sl full n b es=>
   cases full with
   |false=>rw[hr]at hok;simp only[r8g,hn]at hok;exact hok.elim
   |true=>
    have hr':r=r8g (r5c P t) (r5c P el) (r5c P u).k (look st) (.sl true n b es) x q:=hr
    simp only[r8g,hn]at hr'
    subst hr'
    obtain⟨hok,hne,hor⟩:=hok
    obtain⟨i,z,d,hi,hz,hzl,hu,hd,hsz,hby,h0,h4,h5,hnr⟩:=fine _ hok
    simp only[LR.app]
    rw[hsz,hby]
    cases x8N with
    |tr h=>
     cases h with
     |sl _ _ _ _ a len cap cv hlen hcap u9j hb hb1 hnn ha hc=>
      subst hlen
      have hcl:cap=es.length:=u9j rfl
      subst hcl
      have hbr:w3X P w μ st i.size (.slice a es.length es.length) es:=by
       rw[←hsz, ←hne]
       refine u3U (cv:=cv) hnn rfl ?_ (fun i j hi hj=>⟨.tr (hc i j hi hj),(hc i j hi hj).w9g⟩)
       rcases ha with ha|⟨blk,off,ea,_,_,hcell⟩
       ·exact .inl ha
       ·exact .inr ⟨blk,off,ea,hcell⟩
      by_cases x9w:news=[]
      ·rcases hor with h|h
       ·subst h;subst x9w
        exact empty a d i hu hd hi hnr rfl
       ·exact absurd x9w h
      ·have hpos:0<news.length:=List.length_pos_iff.2 x9w
       exact u8n (P:=P) (ty:=ty) (q:=q) hs hq ht hu hd hi hz hzl hbr hnr rfl (by omega) h5 h4
  |ref full o g off len=>
   cases hl:look st o with
   |none=>rw[hr]at hok;cases full<;>(simp only[r8g,hn,hl]at hok;exact hok.elim)
   |some ob=>
    cases ob with
    |arr g' n b es=>
     cases full with
     |true=>
      have hr':r=r8g (r5c P t) (r5c P el) (r5c P u).k (look st) (.ref true o g off len) x q:=hr
      simp only[r8g,hn,hl]at hr'
      subst hr'
      obtain⟨hok,rfl,hne,hle,hnn⟩:=hok
      obtain⟨i,z,d,hi,hz,hzl,hu,hd,hsz,hby,h0,h4,h5,hnr⟩:=fine _ hok
      simp only[LR.app]
      rw[hsz,hby]
      obtain⟨a,cap,ev,c1,c2,hbr,_⟩:=w2H (P:=P) hs x8N hl hle
      subst ev
      rw[hne,hsz]at hbr
      have hcl:=c2 rfl
      by_cases hn0:news=[]
      ·have h0l:len=0:=hnn.elim id (fun h=>absurd hn0 h)
       subst hn0;subst h0l
       have:cap=0:=by omega
       subst this
       simpa using empty a d i hu hd hi hnr rfl
      have hpos:0<news.length:=List.length_pos_iff.2 hn0
      exact u8n (P:=P) (ty:=ty) (q:=q) hs hq ht hu hd hi hz hzl hbr hnr (by simp;omega) (by omega) h5 h4
     |false=>
      have hr':r=r8g (r5c P t) (r5c P el) (r5c P u).k (look st) (.ref false o g off len) x q:=hr
      simp only[r8g,hn,hl]at hr'
      subst hr'
      obtain⟨hok,rfl,hne,hbe,hle⟩:=hok
      obtain⟨i,z,d,hi,hz,hzl,hu,hd,hsz,hby,h0,h4,h5,hnr⟩:=fine _ hok
      simp only[LR.app]
      have ho:=r5w hl
      have hol:o<st.length:=(List.getElem?_eq_some_iff.1 ho).1
      obtain⟨a,cap,ev,c1,c2,hbr,x6J⟩:=w2H (P:=P) hs x8N hl hle
      subst ev
      have hnz:n=i.size:=by rw[hne,hsz]
      subst hnz
      have hl2:((es.drop off).take len).length=len:=by simp;omega
      obtain⟨w9f,ho1,ho2⟩:=hbr.cells
      obtain⟨xs,hx1,hx2⟩:=hnr.cells
      rw[hl2]at ho1
      have u7i:=ho2.append hx2
      have hbb:((es.drop off).take len++news).length*b≤top:=by rw[List.length_append,hl2,hbe,hby];exact h4
      have hnew:∀e∈(es.drop off).take len++news,e.length=i.size:=u7i.2.1
      by_cases hfit:len+news.length≤cap
      ·by_cases hz0:cap=0
       ·have hlz:len=0:=by omega
        have hnw:news=[]:=List.length_eq_zero_iff.1 (by omega)
        subst hlz;subst hnw
        have hxs:xs= #[]:=by have:=hx2.1;simp at this;exact this
        have hrun:=u3x (P:=P) w w t u ty el i d ht hu hd hi a 0 cap 0 vx xs hnr.len (hx1 w (fun _=>rfl)) (by omega) (fun a _=>by rw[hxs];rfl) (fun _=>rfl)
        have h:=u1L (w:=w) (w':=w) (μ':=upd μ o none) (ob':=.arr (g'+1) i.size b ((es.drop off).take 0++[])) hs ho (fun o' h=>r8S _ _ _ h) (fun _ _ _=>rfl) (Nat.le_refl _) rfl rfl ⟨rfl,Nat.le_refl _⟩
         (fun blk base e=>by rw[r5Z]at e;cases e) ⟨by omega,fun e=>by omega⟩ (fun s=>(⟨by simp,by simp,.inl ⟨r5Z _ _ _,by simp⟩⟩:u6V _ _ _ _ _ _ _))
        refine⟨_,w,_,hrun,h.1,h.2,.ref _ false o (g'+1) 0 0 ⟨_,_,_,rfl⟩ (by simpa using hol) (by simp[hol]) (fun g2 n2 b2 es2 e=>?_) (fun n b es' e=>?_)⟩
        ·rw[List.getElem?_set_self hol]at e;cases e;exact Nat.le_refl _
        ·rw[List.getElem?_set_self hol]at e;cases e
         exact⟨_,_,rfl,by omega,by simp,fun hf=>(by cases hf),.inl hz0⟩
       ·rcases x6J with h0|⟨blk,base,c,ty',em,ea,hh,x9u⟩
        ·omega
        ·subst ea
         have y1S:xs.size=news.length*i.size:=hx2.1
         have x9x:(off+len+news.length)*i.size≤(off+cap)*i.size:=Nat.mul_le_mul_right _ (by omega)
         rw[Nat.add_mul,Nat.add_mul]at x9x
         have x3t:∀v∈xs.toList,v.oneCell'=true:=fun v hv=>by
          obtain⟨q',hq',e⟩:=List.getElem_of_mem hv
          have hq2:q'<news.length*i.size:=by rw[←y1S];simpa using hq'
          have h1:q' / i.size<news.length:=(Nat.div_lt_iff_lt_mul (by omega)).2 hq2
          have h2:q'%i.size<i.size:=Nat.mod_lt _ (by omega)
          obtain⟨u',eu,_,hu1⟩:=hx2.2.2 (q' / i.size) (q'%i.size) h1 (by rw[hx2.2.1 _ (List.getElem_mem h1)];exact h2)
          rw[Nat.div_add_mod' q' i.size]at eu
          have:xs[q']? =some v:=by rw[←e];simp at hq';simp[hq']
          rw[this]at eu;cases eu;exact hu1
         have hst:=run_storeCells_at (P:=P) blk (base+off*i.size+len*i.size) ty' xs.toList 0 c w hh (by simp;omega) x3t
         have hrun:=u3x (P:=P) w _ t u ty el i d ht hu hd hi (some ⟨blk,base+off*i.size,none⟩) len cap news.length vx xs hnr.len (hx1 w (fun _=>rfl)) hfit (fun a ea=>by cases ea;rw[u5d];exact hst) (fun e=>by cases e)
         let c':Array Value:=(c.toList.take (base+off*i.size+len*i.size+0)++xs.toList++c.toList.drop (base+off*i.size+len*i.size+0+xs.toList.length)).toArray
         have hsize':c'.size=c.size:=by simp[c'];omega
         have hh':(w.setRow blk c').heap[blk]? =some (.cells c' ty' (0,0)):=setRow_heap w blk c c' ty' (0,0) hh
         have hget:∀q,c'[q]? =if base+off*i.size+len*i.size≤q∧q<base+off*i.size+len*i.size+xs.size then xs[q-(base+off*i.size+len*i.size)]? else c[q]? :=fun q=>by
          have:=w5l c.toList xs.toList (base+off*i.size+len*i.size) q (by simp;omega)
          simp only[c',List.getElem?_toArray,Nat.add_zero]
          rw[this];simp
         obtain⟨hb0,hn0,x4e⟩:=(hs.obj o _ ho:u6V w μ st (μ o) i.size b es)
         have h:=u1L (w:=w) (w':=w.setRow blk c') (μ':=upd μ o (some (blk,base+off*i.size))) (ob':=.arr (g'+1) i.size b ((es.drop off).take len++news)) hs ho (fun o' h=>r8S _ _ _ h)
          (fun u8k hb' hne=>setRow_other w _ _ _ (fun e=>hne base (by rw[e];exact em))) (by rw[setRow_size];exact Nat.le_refl _) rfl rfl ⟨rfl,Nat.le_refl _⟩
          (fun u8k base' e=>by rw[r5Z]at e;cases e;exact .inl ⟨base,em⟩) ⟨by omega,fun e=>by omega⟩ (fun s=>by
           change u6V _ _ _ _ _ _ _
           refine⟨hbb,hnew,.inr ⟨blk,base+off*i.size,c',ty',r5Z _ _ _,hh',by rw[hsize',List.length_append,hl2,Nat.add_mul];omega,fun k j hk hj=>?_⟩⟩
           rw[hget]
           by_cases hkl:k<len
           ·have hko:k<((es.drop off).take len).length:=by rw[hl2];exact hkl
            simp only[List.getElem_append_left hko,List.getElem_take,List.getElem_drop]at hj⊢
            have hjn:j<i.size:=by have:=hn0 _ (List.getElem_mem (show off+k<es.length by omega));omega
            have y3Y:k*i.size+i.size≤len*i.size:=by
             have:(k+1)*i.size≤len*i.size:=Nat.mul_le_mul_right _ hkl
             rw[Nat.add_mul]at this;omega
            rw[if_neg (by omega)]
            rcases x4e with⟨e,_⟩|⟨x6E,x9t,c2,ty2,em2,hh2,_,hc2⟩
            ·rw[em]at e;cases e
            ·rw[em]at em2;cases em2
             rw[hh]at hh2;cases hh2
             obtain⟨u',eu,hu',hu1⟩:=hc2 (off+k) j (by omega) hj
             refine⟨u',?_,hu'.step s,hu1⟩
             rw[←eu,Nat.add_mul];congr 1;omega
           ·have hko:((es.drop off).take len).length≤k:=by rw[hl2];omega
            have hk2:k-((es.drop off).take len).length<news.length:=by simp at hk;omega
            simp only[List.getElem_append_right hko]at hj⊢
            obtain⟨u',eu,hu',hu1⟩:=hx2.2.2 _ j hk2 hj
            rw[hl2]at eu
            have hlt2:(k-len)*i.size+j<xs.size:=(Array.getElem?_eq_some_iff.1 eu).1
            have e1:len*i.size+(k-len)*i.size=k*i.size:=by rw[←Nat.add_mul];congr 1;omega
            refine⟨u',?_,hu'.step s,hu1⟩
            rw[if_pos (by omega), ←eu];congr 1;omega)
         refine⟨_,_,_,hrun,h.1,h.2,.ref _ false o (g'+1) 0 _ ⟨_,_,_,rfl⟩ (by simpa using hol) (by simp[hol]) (fun g2 n2 b2 es2 e=>?_) (fun n b es' e=>?_)⟩
         ·rw[List.getElem?_set_self hol]at e;cases e;exact Nat.le_refl _
         ·rw[List.getElem?_set_self hol]at e;cases e
          refine⟨_,_,rfl,hfit,by rw[List.length_append,hl2];omega,fun hf=>(by cases hf),.inr ⟨blk,base+off*i.size,r5Z _ _ _,by simp,c',ty',hh',?_⟩⟩
          rw[hsize',Nat.zero_add]
          rw[Nat.add_mul]at x9u;omega
      ·have hrun:=u7a (P:=P) w t u ty el i z d ht hu hd hi hz a len cap news.length vx w9f xs hnr.len (ho1 w.drew (fun _=>rfl)) (hx1 w.drew (fun _=>rfl)) (by omega) h5 h4
       have hcap:len+news.length≤grownCap w (len+news.length) cap el:=by simp[grownCap,Question.cut]
       have w3P:∀k j (hk:k<((es.drop off).take len++news).length) (hj:j<(((es.drop off).take len++news)[k]).length),∃v,
        (w9f++xs++Builtin.zeroCells z.cells (grownCap w (len+news.length) cap el-(len+news.length)))[k*i.size+j]? =some v∧VR w μ st v ((((es.drop off).take len++news)[k])[j])∧v.oneCell'=true:=fun k j hk hj=>by
        obtain⟨v,e,h1,h2⟩:=u7i.2.2 k j hk hj
        have hlt2:k*i.size+j<(w9f++xs).size:=(Array.getElem?_eq_some_iff.1 e).1
        exact⟨v,by rw[Array.getElem?_append_left hlt2];exact e,h1,h2⟩
       have h:=u1L (w:=w) (w':=w.drew.alloc (.cells (w9f++xs++Builtin.zeroCells z.cells (grownCap w (len+news.length) cap el-(len+news.length))) el)) (μ':=upd μ o (some (w.heap.size,0))) (ob':=.arr (g'+1) i.size b ((es.drop off).take len++news)) hs ho (fun o' h=>r8S _ _ _ h)
        (fun u8k hb' hne=>u3K (w:=w.drew) hb') (by simp) rfl rfl ⟨rfl,Nat.le_succ _⟩
        (fun u8k base' e=>by rw[r5Z]at e;cases e;exact .inr (Nat.le_refl _)) ⟨by omega,fun e=>by omega⟩ (fun s=>by
         change u6V _ _ _ _ _ _ _
         refine⟨hbb,hnew,.inr ⟨w.heap.size,0,_,el,r5Z _ _ _,heap_alloc_new w.drew _,?_,fun k j hk hj=>?_⟩⟩
         ·rw[Array.size_append];have:=u7i.1;omega
         ·obtain⟨v,e,h1,h2⟩:=w3P k j hk hj
          exact⟨v,by rw[Nat.zero_add];exact e,h1.step s,h2⟩)
       refine⟨_,_,_,hrun,h.1,h.2,.ref _ false o (g'+1) 0 _ ⟨_,_,_,rfl⟩ (by simpa using hol) (by simp[hol]) (fun g2 n2 b2 es2 e=>?_) (fun n b es' e=>?_)⟩
       ·rw[List.getElem?_set_self hol]at e;cases e;exact Nat.le_refl _
       ·rw[List.getElem?_set_self hol]at e;cases e
        refine⟨_,_,rfl,hcap,by rw[List.length_append,hl2];omega,fun hf=>(by cases hf),.inr ⟨w.heap.size,0,r5Z _ _ _,by simp,_,el,heap_alloc_new w.drew _,?_⟩⟩
        have hzs:∀m,(Builtin.zeroCells z.cells m).size=m*z.cells.size:=fun m=>by simp[Builtin.zeroCells]
        rw[Array.size_append,hzs,u7i.1,hzl,List.length_append,hl2, ←Nat.add_mul]
        refine Nat.le_of_eq ?_
        rw[Nat.zero_add,Nat.zero_add]
        congr 1
        omega
    |mps=>rw[hr]at hok;cases full<;>(simp only[r8g,hn,hl]at hok;exact hok.elim)
    |mpi=>rw[hr]at hok;cases full<;>(simp only[r8g,hn,hl]at hok;exact hok.elim)
    |sit=>rw[hr]at hok;cases full<;>(simp only[r8g,hn,hl]at hok;exact hok.elim)
    |resv=>rw[hr]at hok;cases full<;>(simp only[r8g,hn,hl]at hok;exact hok.elim)
  | _=>rw[hr]at hok;simp only[r8g,hn]at hok;exact hok.elim
end Go.Am
