/-
 AM, part 16b: ranging over a string.
-/
import Derived.MapKept
import Derived.Test.YtfacbpehlibilaaGreatDoorTVAm0
set_option linter.unusedVariables false
set_option linter.unusedSimpArgs false
namespace Go.Am
open Go Go.MapKept
def rune(s:Bs)(p:Nat):Int:=((Utf8.decode (bs s) p).1:Nat)
def w2I(s:Bs)(p:Nat):Nat:=if p<s.length then(Utf8.decode (bs s) p).2 else 0
def u7b(i:TI)(q:Nat)(x:D):LR:=
 match i.k,x with
 | .str,.str s=>{ d:=.it q,ok:=True,new:=some (.sit s 0) }
 | _,_=>.bad
def u9n(lk:Look)(s:Bool)(x:D):LR:=
 match s,x with
 |true,.it o=>match lk o with
  |some (.sit s p)=>{ d:=.tup [.bool (decide (p<s.length)),.cond (decide (p<s.length)) (.int .i64 (p:Nat)),.cond (decide (p<s.length)) (.int .i32 (rune s p))],
                      ok:=True,rd:=[o],up:=some (o,.sit s (p+w2I s p)) }
  | _=>.bad
 | _,_=>.bad
theorem w5A{P:Program}{t:TypeId}{w:World}{μ:Mu}{st:St}{vx:Value}{x:D}{q:Nat}(hs:Sim w μ st)(hx:VR w μ st vx x)(hok:(u7b (r5c P t) q x).ok)(hq:st[q]? =some (some .resv)):
 ∃v w' μ' ob,(Instr.range t vx).run P w= .ok v w'∧(u7b (r5c P t) q x).new=some ob∧Sim w' μ' (st.set q (some ob))∧Step w μ st w' μ' (st.set q (some ob))∧
  VR w' μ' (st.set q (some ob)) v (u7b (r5c P t) q x).d:=by
 have hlt:q<st.length:=(List.getElem?_eq_some_iff.1 hq).1
 unfold u7b at hok⊢
 split at hok
 ·rename_i s hk
  have:=u3J hx;subst this
  have hu:=u7C hk
  have h:=u3L (x:=.stringIter (bs s) 0) (ob:=.sit s 0) hs hq (fun _=>⟨w.heap.size,rfl,heap_alloc_new _ _⟩)
  refine⟨.pointer (some ⟨w.heap.size,0,none⟩),_,_,_,?_,rfl,h.1,h.2,?_⟩
  ·simp[Instr.range,run_underlying hu]
  ·exact .it _ q ⟨_,rfl⟩ (by simpa using hlt) (by simp[hlt]) (fun s' p e=>by
    refine⟨w.heap.size,by rw[r5Z],rfl⟩)
 ·exact hok.elim
theorem u7c{P:Program}{w:World}{r p:Nat}{s:ByteArray}{ob:Obj}(hb:w.heap[r]? =some ob)(hn:ob= .stringIter s p):(getObj r).run P w= .ok ob w:=by
 subst hn
 simp[getObj,Sem.run,hb]
theorem w1G{P:Program}{w:World}{r p:Nat}{s:ByteArray}(o:Obj)(hb:w.heap[r]? =some (.stringIter s p)):(setObj r o).run P w= .ok () { w with heap:=w.heap.setIfInBounds r o }:=by
 simp[setObj,Sem.run,hb]
theorem w8f{P:Program}{t:TypeId}{w:World}{μ:Mu}{st:St}{vx:Value}{x:D}{b:Bool}(hs:Sim w μ st)(hx:VR w μ st vx x)(hok:(u9n (look st) b x).ok):
 ∃v w' o ob,(Instr.next vx b t).run P w= .ok v w'∧(u9n (look st) b x).up=some (o,ob)∧Sim w' μ (st.set o (some ob))∧Step w μ st w' μ (st.set o (some ob))∧
  VR w' μ (st.set o (some ob)) v (u9n (look st) b x).d:=by
 unfold u9n at hok⊢
 split at hok
 ·rename_i o
  split at hok
  ·rename_i s p hl
   have ho:=r5w hl
   have hlt:o<st.length:=(List.getElem?_eq_some_iff.1 ho).1
   obtain⟨blk,em,ev⟩:∃blk,μ o=some (blk,0)∧vx= .pointer (some ⟨blk,0,none⟩):=by
    cases hx with
    |tr h=>cases h
    |it _ _ _ _ _ h=>exact h s p ho
   subst ev
   have hh:w.heap[blk]? =some (.stringIter (bs s) p):=by
    obtain⟨u8k,e1,e2⟩:=hs.obj o _ ho
    rw[em]at e1;cases e1;exact e2
   by_cases hp:p<s.length
   ·have hr:w2I s p=(Utf8.decode (bs s) p).2:=by simp[w2I,hp]
    obtain⟨hs1,hs2⟩:=heap_set (w:=w) (o':=.stringIter (bs s) (p+w2I s p)) hh
    have m:=u1L (w':={ w with heap:=w.heap.setIfInBounds blk (.stringIter (bs s) (p+w2I s p)) }) (ob':=.sit s (p+w2I s p)) hs ho (fun _ _=>rfl) (fun b hb hne=>hs2 b (fun e=>hne 0 (e▸em))) (by simp) rfl rfl ⟨rfl,Nat.le_refl _⟩
     (fun b base e=>.inl ⟨base,e⟩) rfl (fun _=>⟨blk,em,hs1⟩)
    refine⟨.tuple #[.bool true,goInt p,.int .i32 (rune s p)],_,o,_,?_,rfl,m.1,m.2,?_⟩
    ·simp[Instr.next,u7c hh rfl,u4R,hp,w1G _ hh,hr,rune]
    ·show VR _ _ _ _ (.tup _)
     refine .tup _ _ (fun j hj _=>by simpa using hj) (fun j hj=>?_)
     match j,hj with
     |0,_=>simp[hp];exact r8T _ _ _ _
     |1,_=>exact .cond _ _ _ (fun _=>u0a _ _ _ _ _) (fun e=>by simp[hp]at e)
     |2,_=>exact .cond _ _ _ (fun _=>u0a _ _ _ _ _) (fun e=>by simp[hp]at e)
   ·have hr:w2I s p=0:=by simp[w2I,hp]
    have m:=u1L (w':=w) (μ':=μ) (ob':=.sit s (p+w2I s p)) hs ho (fun _ _=>rfl) (fun b hb hne=>rfl) (Nat.le_refl _) rfl rfl ⟨rfl,Nat.le_refl _⟩
     (fun b base e=>.inl ⟨base,e⟩) rfl (fun _=>⟨blk,em,by rw[hr];exact hh⟩)
    refine⟨.tuple #[.bool false],_,o,_,?_,rfl,m.1,m.2,?_⟩
    ·simp[Instr.next,u7c hh rfl,u4R,hp]
    ·show VR _ _ _ _ (.tup _)
     refine .tup _ _ (fun j hj h=>?_) (fun j hj=>?_)
     ·match j,hj with
      |0,_=>simp
      |1,_=>simp[D.live,hp]at h
      |2,_=>simp[D.live,hp]at h
     ·match j,hj with
      |0,_=>simp[hp];exact r8T _ _ _ _
      |1,_=>exact .cond _ _ _ (fun e=>by simp[hp]at e) (fun _=>rfl)
      |2,_=>exact .cond _ _ _ (fun e=>by simp[hp]at e) (fun _=>rfl)
  ·exact hok.elim
 ·exact hok.elim
end Go.Am
namespace Go.Am
open Go
def D.plain:D→Bool
 | .any| .agg _| .tup _| .fn _ _ _| .ref _ _ _ _ _| .ptr _ _ _ _| .mp _| .it _| .cond _ _=>false
 | _=>true
def u7F(i:TI)(e:TI)(len:Nat)(parts:List (Nat×D)):LR:=
 let rows:=u4Q (List.replicate len e.zero) (parts.map fun p=>(p.1,cellsOf e p.2))
 { d:=.sl false e.size e.bytes rows,ok:=(∃t,i.k= .slice t)∧e.zero.length=e.size∧e.size≠0∧e.zero.all D.one=true∧(∀p∈parts,u3v e p.2∧p.1<len)∧len*e.size≤2^24∧len*e.bytes≤top∧1≤e.bytes∧(rows.all fun r=>r.all D.plain)=true }
theorem x1S{w:World}{μ:Mu}{st:St}{v:Value}{d:D}(h:VR w μ st v d)(hi:d.plain=true):TR w (own μ st) v d:=by
 cases h<;>first|(cases hi;done)|assumption
theorem x1T{st:St}{q:Nat}(hq:st[q]? =some (some .resv)):st.set q (some .resv)=st:=by
 apply List.ext_getElem?
 intro i
 by_cases h:q=i
 ·subst h
  rw[List.getElem?_set_self (List.getElem?_eq_some_iff.1 hq).1,hq]
 ·rw[List.getElem?_set_ne h]
theorem w9h{w:World}{μ:Mu}{st:St}{q:Nat}(hs:Sim w μ st)(hq:st[q]? =some (some .resv))(x:Obj):Sim (w.alloc x) μ st∧Step w μ st (w.alloc x) μ st:=by
 have h:=u1L (w':=w.alloc x) (μ':=μ) (ob':=.resv) hs hq (fun _ _=>rfl) (fun blk hb _=>u3K hb) (by simp) rfl rfl ⟨rfl,Nat.le_refl _⟩ (fun blk base e=>.inl ⟨base,e⟩) trivial (fun _=>hs.obj q _ hq)
 rwa[x1T hq]at h
theorem w1H{P:Program}{t el:TypeId}{w:World}{μ:Mu}{st:St}{ps:Array (Nat×Value)}{ds:List (Nat×D)}{len q:Nat}(hs:Sim w μ st)(hps:u9X w μ st ps.toList ds)
 (hel:(r5c P t).k= .slice el) (hok:(u7F (r5c P t) (r5c P el) len ds).ok) (hq:st[q]? =some (some .resv)):
 ∃v w',(Instr.buildSlice t len ps).run P w= .ok v w'∧Sim w' μ st∧Step w μ st w' μ st∧VR w' μ st v (u7F (r5c P t) (r5c P el) len ds).d:=by
 obtain⟨_,h1,h2,h3,h4,h5,h6,h7,h8⟩:=hok
 have hu:=u0K hel
 obtain⟨inf,z,hi,hz,hc⟩:=u5g (w:=w) (μ:=μ) (st:=st) h1 h2
 obtain⟨inf',hi',hsz⟩:=r7D h2
 rw[hi]at hi';cases hi'
 have hz0:=w0a (len:=len) hc h3 (by rw[h1];exact h2)
 rw[h1]at hz0
 obtain⟨vs',e1,e2⟩:=w0b (len:=len) ps.toList ds _ _ hps hz0 (by simp) h4
 have hlen:(u4Q (List.replicate len (r5c P el).zero) (ds.map fun p=>(p.1,cellsOf (r5c P el) p.2))).length=len:=by rw[u6Z];simp
 have h:=w9h hs hq (.cells vs' el)
 refine⟨.slice (some ⟨w.heap.size,0,none⟩) len len,_,?_,h.1,h.2,?_⟩
 ·have h5':¬(2^24<len*inf.size):=by rw[←hsz];omega
  have w5u:Instr.fill (fun i=>some (i*inf.size,inf.size)) ((Array.range (len*inf.size)).map (z.cells[· %z.cells.size]!)) ps.toList=some vs':=by
   rw[←hsz];exact e1
  by_cases hl0:len*inf.size=0
  ·have:len=0:=by
    rcases Nat.mul_eq_zero.1 hl0 with h|h
    ·exact h
    ·rw[←hsz]at h;exact absurd h h2
   subst this
   have r0:Array.range 0=(#[]:Array Nat):=rfl
   simp[r0]at w5u
   simp[Instr.buildSlice,run_underlying hu,r5V hi,newRow,r0,w5u]
  ·simp only[Instr.buildSlice,run_underlying hu,Sem.run_bind,Result.andThen_ok,r5V hi]
   simp[h5',hl0,zeroValue,typeInfo,hi,hz,newRow]
   rw[w5u]
   simp
 ·refine .tr (.sl false (r5c P el).size (r5c P el).bytes _ _ len len (fun i j=>vs'.getD (i*(r5c P el).size+j) undef) hlen.symm (Nat.le_refl _) (fun e=>by cases e) (by rw[hlen];exact h6) h7 e2.2.1
   (.inr ⟨w.heap.size,0,rfl,by simp,fun ho=>?_,fun i j hi hj=>?_⟩) (fun i j hi hj=>?_))
  ·exact absurd (w1R hs ho) (Nat.lt_irrefl _)
  ·obtain⟨v,hv,_,_⟩:=e2.2.2 i j hi (by rw[e2.2.1 _ (List.getElem_mem hi)];exact hj)
   have e:(w.alloc (.cells vs' el)).heap[w.heap.size]? =some (.cells vs' el):=heap_alloc_new _ _
   simp only[World.cell?, e,Nat.zero_add,Array.getD_eq_getD_getElem?, hv,Option.getD_some]
   rfl
  ·obtain⟨v,hv,hr,_⟩:=e2.2.2 i j hi hj
   have hp:=List.all_eq_true.1 h8 _ (List.getElem_mem hi)
   have:=(x1S hr (List.all_eq_true.1 hp _ (List.getElem_mem hj))).step h.2
   simpa[Array.getD_eq_getD_getElem?, hv]using this
def strip:D→D
 | .cond _ d=>d
 |d=>d
def w2J(g:Bool):D→Prop
 | .cond c _=>g=true→c=true
 | _=>True
theorem w5B{w:World}{μ:Mu}{st:St}{v:Value}{d:D}(h:VR w μ st v d)(hok:w2J true d):VR w μ st v (strip d):=by
 cases d with
 |cond c d=>
  cases h with
  |tr h=>cases h
  |cond _ _ _ h _=>exact h (hok rfl)
 | _=>exact h
def ev1(G:Gl)(fr:Fr)(x:Operand):D:=strip (ev G fr x)
def eok(G:Gl)(g:Bool)(fr:Fr)(x:Operand):Prop:=w2J g (ev G fr x)
def LR.and(r:LR)(p:Prop):LR:={ r with ok:=p∧r.ok }
def elemOf(i:TI):Nat:=match i.k with
 | .slice e=>e
 | .arr _ e=>e
 | .map _ e=>e
 | .ptr e=>e
 | _=>0
def w0k(s t:TI):Nat:=match t.k with
 | .str=>elemOf s
 | _=>elemOf t
def keyOf(i:TI):Nat:=match i.k with
 | .map k _=>k
 | _=>0
def w0l:D→Bool
 | .bool b=>b
 | _=>false
def u7G(c a b:D):LR:=
 match c,a,b with
 | .bool c,.bool a,.bool b=>u7g (bif c then a else b)
 | _,_,_=>.bad
def aop(P:Program)(G:Gl)(g:Bool)(o:Op)(fr:Fr)(lk:Look)(q:Nat):LR:=
 let E:=ev1 G fr
 let K:=eok G g fr
 match o with
 | .move x| .assign x=>{ d:=E x,ok:=K x }
 | .pick c a b=>(u7G (E c) (E a) (E b)).and (K c∧eok G (g&&w0l (E c)) fr a∧eok G (g&& !w0l (E c)) fr b)
 | .alloc t=>w1S (r5c P t) q
 | .box t x=>(x6D (r5c P t) q (E x)).and (K x∧(r5c P t).k≠ .none)
 | .build t ps=>(u7A (r5c P t) (r5c P (elemOf (r5c P t))) (ps.toList.map fun p=>(p.1,E p.2))).and ((∀p∈ps.toList,K p.2)∧(r5c P t).k.agg=true∧(∀n e,(r5c P t).k≠ .arr n e))
 | .buildSlice t len ps=>(bif G.imm t then u7F (r5c P t) (r5c P (elemOf (r5c P t))) len (ps.toList.map fun p=>(p.1,E p.2))else u3X (r5c P t) (r5c P (elemOf (r5c P t))) len (ps.toList.map fun p=>(p.1,E p.2)) q).and (∀p∈ps.toList,K p.2)
 | .load t a=>(w1C (r5c P t) lk (E a)).and (K a∧(r5c P t).k≠ .none)
 | .store t a x=>(u6X (r5c P t) lk (E x) (E a)).and (K a∧K x∧(r5c P t).k≠ .none)
 | .binOp op t x y _=>match op,E x with
  | .eql,.bool _| .eql,.agg _| .eql,.r5g=>(aEq (r5c P t) (r5Y P t) false (E x) (E y)).and (K x∧K y)
  | .neq,.bool _| .neq,.agg _| .neq,.r5g=>(aEq (r5c P t) (r5Y P t) true (E x) (E y)).and (K x∧K y)
  |op,_=>(u8m op (E x) (E y)).and (K x∧K y)
 | .unOp op _ x=>(aUn op (E x)).and (K x)
 | .convert s t x=>(u2t (r5c P s) (r5c P t) (r5c P (w0k (r5c P s) (r5c P t))) (E x)).and (K x)
 | .nilCheck x=>(u0J (E x)).and (K x)
 | .makeFunc (.func f) a b=>{ d:=.fn f (a.toList.map E) (b.toList.map E),ok:=(∀x∈a.toList,K x)∧∀x∈b.toList,K x }
 | .makeMap t none=>u1C (r5c P t) (r5c P (keyOf (r5c P t))) (r5c P (elemOf (r5c P t))).k.agg q
 | .makeSlice t l c=>(r8Q (r5c P t) (r5c P (elemOf (r5c P t))) (E l) (E c) q).and (K l∧K c)
 | .slice t x lo hi mx=>(u5U (r5c P t) (r5c P (elemOf (r5c P t))).size lk (E x) (lo.map E) (hi.map E) (mx.map E)).and (K x∧(∀y∈lo,K y)∧(∀y∈hi,K y)∧∀y∈mx,K y)
 | .fieldAddr t x f=>(u0w (r5c P t) f (E x)).and (K x)
 | .field t x f=>(u7y (r5c P t) f (E x)).and (K x)
 | .indexAddr t x i=>(r7B (r5c P t) (r5c P (elemOf (r5c P t))) lk (E x) (E i)).and (K x∧K i)
 | .index t x i=>(u4E (r5c P t) (r5c P (elemOf (r5c P t))) (E x) (E i)).and (K x∧K i)
 | .lookup t m k c=>(u2N (r5c P t) (r5c P (keyOf (r5c P t))) (r5c P (elemOf (r5c P t))) lk c (E k) (E m)).and (K m∧K k)
 | .mapUpdate t m k x=>(r9i (r5c P t) (r5c P (keyOf (r5c P t))) (r5c P (elemOf (r5c P t))) lk (E k) (E x) (E m)).and (K m∧K k∧K x)
 | .range t x=>(u7b (r5c P t) q (E x)).and (K x)
 | .next x b=>(u9n lk b (E x)).and (K x)
 | .extract x i=>(u3M i (E x)).and (K x)
 | .call { callee:=.builtin b,args,argTypes }=>match b,args.toList,argTypes.toList with
  | .len,[x],[t]=>(w8T (r5c P t) lk (E x)).and (K x)
  | .append,[s,x],[t,u]=>(r8g (r5c P t) (r5c P (elemOf (r5c P t))) (r5c P u).k lk (E s) (E x) q).and (K s∧K x)
  | .max,[x,y],_=>(x1N (E x) (E y)).and (K x∧K y)
  | .min,[x,y],_=>(x1O (E x) (E y)).and (K x∧K y)
  | .cap,[x],[t]=>(x3v (r5c P t) (E x)).and (K x)
  | _,_,_=>.bad
 | _=>.bad
def FR(w:World)(μ:Mu)(st:St)(tmps:Array Value)(fr:Fr):Prop:=∀t,VR w μ st (tmps.getD t undef) (fr.get t)
def Glob(G:Gl)(w:World)(μ:Mu)(st:St):Prop:=
 (∀g cs,G g=some cs→TR w (own μ st) (.pointer (some ⟨g,0,none⟩)) (.u8j cs))∧∀g c,G.whole g=some c→g<w.heap.size∧¬own μ st g∧∃ty fr,w.heap[g]? =some (.cells c ty fr)
theorem Glob.tab{G:Gl}{w:World}{μ:Mu}{st:St}(h:Glob G w μ st):∀g cs,G g=some cs→TR w (own μ st) (.pointer (some ⟨g,0,none⟩)) (.u8j cs):=h.1
theorem Glob.all{G:Gl}{w:World}{μ:Mu}{st:St}(h:Glob G w μ st):∀g c,G.whole g=some c→g<w.heap.size∧¬own μ st g∧∃ty fr,w.heap[g]? =some (.cells c ty fr):=h.2
theorem Fr.w0m(fr:Fr)(t t':Nat)(d:D):(fr.put t d).get t'=if t'=t then d else fr.get t':=by
 induction fr with
 |nil=>
  simp only[Fr.put,Fr.get]
  by_cases h:t=t'
  ·simp[h]
  ·simp[h,Ne.symm h]
 |cons p fr ih=>
  obtain⟨k,e⟩:=p
  simp only[Fr.put]
  by_cases h:k=t
  ·subst h
   simp only[if_true,Fr.get]
   by_cases h2:k=t'
   ·subst h2;simp
   ·simp[h2,Ne.symm h2]
  ·simp only[if_neg h,Fr.get,ih]
   by_cases h2:k=t'
   ·subst h2;simp[h]
   ·simp[h2]
theorem Fr.x1U(keep:List Nat)(fr:Fr)(t:Nat):(Fr.only keep fr).get t=fr.get t∨(Fr.only keep fr).get t= .any:=by
 induction fr with
 |nil=>exact .inl rfl
 |cons p fr ih=>
  obtain⟨k,e⟩:=p
  simp only[Fr.only]
  split
  ·simp only[Fr.get]
   split
   ·exact .inl rfl
   ·exact ih
  ·rename_i hk
   simp only[Fr.get]
   split
   ·rename_i h;subst h
    right
    have:∀fr:Fr,(Fr.only keep fr).get k= .any:=fun fr=>by
     induction fr with
     |nil=>rfl
     |cons p fr ih=>
      obtain⟨k',e'⟩:=p
      simp only[Fr.only]
      split
      ·rename_i hk'
       simp only[Fr.get]
       rw[if_neg (fun h=>hk (by rw[←h];exact hk'))]
       exact ih
      ·exact ih
    exact this fr
   ·exact ih
theorem FR.put{w:World}{μ:Mu}{st:St}{tmps:Array Value}{fr:Fr}{t:Nat}{v:Value}{d:D}(h:FR w μ st tmps fr)(hv:VR w μ st v d)(ht:t<tmps.size):FR w μ st (tmps.setIfInBounds t v) (fr.put t d):=fun t'=>by
 rw[Fr.w0m]
 by_cases e:t'=t
 ·subst e
  rw[if_pos rfl,u4S (v:=v) (by simp[ht])]
  exact hv
 ·rw[if_neg e]
  have:(tmps.setIfInBounds t v).getD t' undef=tmps.getD t' undef:=by simp[Array.getD_eq_getD_getElem?, Array.getElem?_setIfInBounds_ne (Ne.symm e)]
  rw[this]
  exact h t'
theorem FR.only{w:World}{μ:Mu}{st:St}{tmps:Array Value}{fr:Fr}(keep:List Nat)(h:FR w μ st tmps fr):FR w μ st tmps (Fr.only keep fr):=fun t=>by
 rcases Fr.x1U keep fr t with e|e
 ·rw[e];exact h t
 ·rw[e];exact .any _
theorem FR.step{w w':World}{μ μ':Mu}{st st':St}{tmps:Array Value}{fr:Fr}(h:FR w μ st tmps fr)(s:Step w μ st w' μ' st'):FR w' μ' st' tmps fr:=fun t=>(h t).step s
theorem Glob.step{G:Gl}{w w':World}{μ μ':Mu}{st st':St}(h:Glob G w μ st)(s:Step w μ st w' μ' st'):Glob G w' μ' st':=
 ⟨fun g cs e=>(h.tab g cs e).step s,fun g c e=>let ⟨h1,h2,ty,fr,h3⟩:=h.all g c e;⟨Nat.lt_of_lt_of_le h1 s.size,fun ho=>(s.own g ho).elim h2 (fun h=>absurd h (by omega)),ty,fr,(s.imm g h1 h2).trans h3⟩⟩
theorem w6y{G:Gl}{w:World}{μ:Mu}{st:St}{a:Act}{fr:Fr}(hf:FR w μ st a.tmps fr)(hg:Glob G w μ st)(x:Operand):VR w μ st (a.eval x) (ev G fr x):=by
 cases x with
 |tmp t=>exact hf t
 |const v=>exact u9P _ _ _ _
 |global g=>
  simp only[ev]
  cases h:G g with
  |none=>exact .any _
  |some cs=>exact .tr (hg.tab g cs h)
 |func f=>exact .fn f #[] #[] [] [] rfl rfl (fun j h=>absurd h (Nat.not_lt_zero _)) (fun j h=>absurd h (Nat.not_lt_zero _))
theorem u5h{G:Gl}{w:World}{μ:Mu}{st:St}{a:Act}{fr:Fr}(hf:FR w μ st a.tmps fr)(hg:Glob G w μ st){x:Operand}(hok:eok G true fr x):VR w μ st (a.eval x) (ev1 G fr x):=
 w5B (w6y hf hg x) hok
theorem u9E{G:Gl}{w:World}{μ:Mu}{st:St}{a:Act}{fr:Fr}(hf:FR w μ st a.tmps fr)(hg:Glob G w μ st):∀(ps:List (Nat×Operand)),(∀p∈ps,eok G true fr p.2)→
 u9X w μ st (ps.map fun(i,x)=>(i,a.eval x)) (ps.map fun p=>(p.1,ev1 G fr p.2))
 | [],_=>trivial
 |(i,x)::ps,h=>⟨rfl,u5h hf hg (h (i,x) (by simp)),u9E hf hg ps (fun p hp=>h p (by simp[hp]))⟩
theorem w9i{G:Gl}{w:World}{μ:Mu}{st:St}{a:Act}{fr:Fr}(hf:FR w μ st a.tmps fr)(hg:Glob G w μ st)(x:Option Operand)(h:∀y∈x,eok G true fr y):x4g w μ st (x.map a.eval) (x.map (ev1 G fr)):=by
 cases x with
 |none=>trivial
 |some x=>exact u5h hf hg (h x rfl)
theorem u1D{r:LR}{q:Nat}{st:St}(h1:r.up=none)(h2:r.new=none):r.app q st=st:=by simp[LR.app,h1,h2]
theorem x3y{r:LR}{q o:Nat}{st:St}{ob:Ob}(h1:r.up=some (o,ob))(h2:r.new=none):r.app q st=st.set o (some ob):=by simp[LR.app,h1,h2]
theorem w5C{r:LR}{q:Nat}{st:St}{ob:Ob}(h1:r.up=none)(h2:r.new=some ob):r.app q st=st.set q (some ob):=by simp[LR.app,h1,h2]
def LR.still(r:LR):Prop:=r.up=none∧r.new=none
theorem u5w(i:TI)(lk:Look)(a:D):(w1C i lk a).still:=by unfold w1C;(repeat' split)<;>exact⟨rfl,rfl⟩
theorem u3y(i:TI)(f:Nat)(a:D):(u0w i f a).still:=by unfold u0w;(repeat' split)<;>exact⟨rfl,rfl⟩
theorem u6f(i:TI)(f:Nat)(a:D):(u7y i f a).still:=by unfold u7y;(repeat' split)<;>exact⟨rfl,rfl⟩
theorem u1E(i:TI)(e:TI)(lk:Look)(x y:D):(r7B i e lk x y).still:=by unfold r7B;(repeat' split)<;>exact⟨rfl,rfl⟩
theorem u6g(i e:TI)(x y:D):(u4E i e x y).still:=by unfold u4E;(repeat' split)<;>exact⟨rfl,rfl⟩
theorem u4F(i:TI)(e:Nat)(lk:Look)(x:D)(lo hi mx:Option D):(u5U i e lk x lo hi mx).still:=by unfold u5U;(repeat' split)<;>exact⟨rfl,rfl⟩
theorem u6h(i e:TI)(ps:List (Nat×D)):(u7A i e ps).still:=by unfold u7A;(repeat' split)<;>exact⟨rfl,rfl⟩
theorem u3N(i k e:TI)(lk:Look)(c:Bool)(x y:D):(u2N i k e lk c x y).still:=by unfold u2N;(repeat' split)<;>exact⟨rfl,rfl⟩
theorem w0n(k:IntKind)(n:Int):(arith k n).still:=⟨rfl,rfl⟩
theorem u8o(op:BinOp)(x y:D):(u8m op x y).still:=by unfold u8m;(repeat' split)<;>first|exact⟨rfl,rfl⟩|exact w0n _ _
theorem w0o(i:TI)(f:Option (List Nat))(n:Bool)(x y:D):(aEq i f n x y).still:=by unfold aEq;(repeat' split)<;>exact⟨rfl,rfl⟩
theorem w0p(op:UnOp)(x:D):(aUn op x).still:=by unfold aUn;(repeat' split)<;>first|exact⟨rfl,rfl⟩|exact w0n _ _
theorem u3Z(x:D):(u0J x).still:=by unfold u0J;(repeat' split)<;>exact⟨rfl,rfl⟩
theorem u4T(s t e:TI)(x:D):(u2t s t e x).still:=by unfold u2t;(repeat' split)<;>exact⟨rfl,rfl⟩
theorem u4U(i:Nat)(x:D):(u3M i x).still:=by unfold u3M;(repeat' split)<;>exact⟨rfl,rfl⟩
theorem u5i(i:TI)(lk:Look)(x:D):(w8T i lk x).still:=by unfold w8T;(repeat' split)<;>exact⟨rfl,rfl⟩
theorem u5j(i:TI)(x:D):(x3v i x).still:=by unfold x3v;(repeat' split)<;>exact⟨rfl,rfl⟩
theorem u6G(x y:D):(x1N x y).still:=by unfold x1N;(repeat' split)<;>exact⟨rfl,rfl⟩
theorem u6H(x y:D):(x1O x y).still:=by unfold x1O;(repeat' split)<;>exact⟨rfl,rfl⟩
theorem u6i(x y z:D):(u7G x y z).still:=by unfold u7G;(repeat' split)<;>exact⟨rfl,rfl⟩
section
variable {P:Program} {G:Gl} {o:Oper} {a:Act} {w:World} {μ:Mu} {st:St} {fr:Fr} {q:Nat}
def Does(P:Program)(s:Sem Next)(w:World)(μ:Mu)(st:St)(r:LR)(q:Nat):Prop:=
 ∃nx v w' μ',s.run P w= .ok nx w'∧(nx= .value v∨(nx= .skip∧v=undef))∧Sim w' μ' (r.app q st)∧Step w μ st w' μ' (r.app q st)∧VR w' μ' (r.app q st) v r.d
theorem r8w{s:Sem Value}{r:LR}{p:Prop}(hs:Sim w μ st)(hst:r.still)(h:∃v,s.run P w= .ok v w∧VR w μ st v r.d):Does P (do pure (.value (←s))) w μ st (r.and p) q:=by
 obtain⟨v,h1,h2⟩:=h
 refine⟨.value v,v,w,μ,by simp[h1],.inl rfl,?_,?_,?_⟩<;>rw[u1D (st:=st) (r:=r.and p) hst.1 hst.2]
 ·exact hs
 ·exact Step.refl _ _ _
 ·exact h2
theorem u9F{s:Sem Value}{r:LR}{p:Prop}(hu:r.up=none)(h:∃v w' μ' ob,s.run P w= .ok v w'∧r.new=some ob∧Sim w' μ' (st.set q (some ob))∧Step w μ st w' μ' (st.set q (some ob))∧VR w' μ' (st.set q (some ob)) v r.d):
 Does P (do pure (.value (←s))) w μ st (r.and p) q:=by
 obtain⟨v,w',μ',ob,h1,h2,h3,h4,h5⟩:=h
 have e:=w5C (r:=r.and p) (q:=q) (st:=st) (ob:=ob) hu h2
 exact⟨.value v,v,w',μ',by simp[h1],.inl rfl,by rw[e];exact h3,by rw[e];exact h4,by rw[e];exact h5⟩
theorem w9j{s:Sem Unit}{r:LR}{p:Prop}(hn:r.new=none)(hd:r.d= .any)(h:∃w' o ob,s.run P w= .ok () w'∧r.up=some (o,ob)∧Sim w' μ (st.set o (some ob))∧Step w μ st w' μ (st.set o (some ob))):
 Does P (do s;pure .skip) w μ st (r.and p) q:=by
 obtain⟨w',o,ob,h1,h2,h3,h4⟩:=h
 have e:=x3y (r:=r.and p) (q:=q) (st:=st) (ob:=ob) h2 hn
 exact⟨.skip,undef,w',μ,by simp[h1],.inr ⟨rfl,rfl⟩,by rw[e];exact h3,by rw[e];exact h4,by rw[e,show(r.and p).d=r.d from rfl,hd];exact .any _⟩
theorem w5D{i:TI}{e:TI}{lk:Look}{x y:D}(h:(r7B i e lk x y).ok):(∃t,i.k= .slice t)∨∃n t,i.k= .arr n t:=by
 unfold r7B at h
 (repeat' split at h)<;>first|exact h.elim|exact .inl ⟨_,by assumption⟩|exact .inr ⟨_,_,by assumption⟩
theorem x4j{i e:TI}{x y:D}(h:(u4E i e x y).ok):i.k= .str∨∃n t,i.k= .arr n t:=by
 unfold u4E at h
 (repeat' split at h)<;>first|exact h.elim|exact .inl (by assumption)|exact .inr ⟨_,_,by assumption⟩
theorem x1V{i k e:TI}{lk:Look}{c:Bool}{x y:D}(h:(u2N i k e lk c x y).ok):∃a b,i.k= .map a b:=by
 unfold u2N at h
 (repeat' split at h)<;>first|exact h.elim|exact h.1
theorem w5E{i k e:TI}{lk:Look}{x y z:D}(h:(r9i i k e lk x y z).ok):∃a b,i.k= .map a b:=by
 unfold r9i at h
 (repeat' split at h)<;>first|exact h.elim|exact h.1
theorem w5F{i e:TI}{l c:D}{q:Nat}(h:(r8Q i e l c q).ok):∃t,i.k= .slice t:=by
 unfold r8Q at h
 split at h
 ·exact h.1
 ·exact h.elim
theorem x1W{i e:TI}{xk:TK}{lk:Look}{s x:D}{q:Nat}(h:(r8g i e xk lk s x q).ok):∃t,i.k= .slice t:=by
 unfold r8g at h
 (repeat' split at h)<;>first|exact h.elim|exact h.1|exact h.1.1
theorem u8p(i:TI)(lk:Look)(x a:D):(u6X i lk x a).new=none∧(u6X i lk x a).d= .any:=by unfold u6X;(repeat' split)<;>exact⟨rfl,rfl⟩
theorem u4V(i k e:TI)(lk:Look)(x y z:D):(r9i i k e lk x y z).new=none∧(r9i i k e lk x y z).d= .any:=by unfold r9i;(repeat' split)<;>exact⟨rfl,rfl⟩
theorem u7H(i e:TI)(l c:D)(q:Nat):(r8Q i e l c q).up=none:=by unfold r8Q;split<;>rfl
theorem w0q(i:TI)(q:Nat)(x:D):(u7b i q x).up=none:=by unfold u7b;split<;>rfl
theorem w3Z(lk:Look)(b:Bool)(x:D):(u9n lk b x).new=none:=by unfold u9n;(repeat' split)<;>rfl
theorem w0r(i k:TI)(ag:Bool)(q:Nat):(u1C i k ag q).up=none:=by unfold u1C;split<;>rfl
theorem w5G{vc va vb:Value}{c a b:D}(hc:VR w μ st vc c)(ha:w0l c=true→VR w μ st va a)(hb:w0l c=false→VR w μ st vb b)(hok:(u7G c a b).ok):
 ∃v,(do pure (.value (if ←asBool vc then va else vb)):Sem Next).run P w= .ok (.value v) w∧VR w μ st v (u7G c a b).d:=by
 unfold u7G at hok⊢
 split at hok
 ·rename_i c a b
  have:=u3Y hc;subst this
  refine⟨.bool (bif c then a else b),?_,r8T _ _ _ _⟩
  cases c
  ·have:=u3Y (hb rfl);subst this;simp[asBool]
  ·have:=u3Y (ha rfl);subst this;simp[asBool]
 ·exact hok.elim
theorem r9p{i:TI}{t:Nat}(h:i.k= .slice t):elemOf i=t:=by simp[elemOf,h]
theorem w2c{i:TI}{n t:Nat}(h:i.k= .arr n t):elemOf i=t:=by simp[elemOf,h]
theorem u6I{i:TI}{n t:Nat}(h:i.k= .map n t):elemOf i=t∧keyOf i=n:=by simp[elemOf,keyOf,h]
theorem x4k{op:BinOp}{t:TypeId}{x y:Operand}{vx vy:Value}{v:Value}(h1:(binOp op t vx vy).run P w= .ok v w)(h2:(∃k a k' b,vx= .int k a∧vy= .int k' b)∨∃a b,vx= .string a∧vy= .string b):
 (do eqGuard op t x y vx vy;binOp op t vx vy:Sem Value).run P w= .ok v w:=by
 rcases h2 with⟨k,a,k',b,rfl,rfl⟩|⟨a,b,rfl,rfl⟩
 ·simp only[Sem.run_bind,w5w,Result.andThen_ok];exact h1
 ·simp only[Sem.run_bind,w5x,Result.andThen_ok];exact h1
def needs:Op→Bool
 | .alloc _| .box _ _| .buildSlice _ _ _| .makeMap _ _| .makeSlice _ _ _| .range _ _| .call { callee:=.builtin .append,.. }=>true
 | _=>false
set_option maxHeartbeats 1000000 in
theorem w0s(hs:Sim w μ st)(hf:FR w μ st a.tmps fr)(hg:Glob G w μ st)(hq0:needs o.op=true→st[q]? =some (some .resv))
 (hok:(aop P G true o.op fr (look st) q).ok):Does P (execOp a.eval o) w μ st (aop P G true o.op fr (look st) q) q:=by
 have E:∀x,eok G true fr x→VR w μ st (a.eval x) (ev1 G fr x):=fun x h=>u5h hf hg h
 obtain⟨dst,op,type,pos,after,guard⟩:=o
 cases op with
 |move x=>exact⟨.value (a.eval x),_,w,μ,rfl,.inl rfl,by rw[u1D rfl rfl];exact hs,by rw[u1D rfl rfl];exact Step.refl _ _ _,by rw[u1D rfl rfl];exact E x hok⟩
 |assign x=>exact⟨.value (a.eval x),_,w,μ,rfl,.inl rfl,by rw[u1D rfl rfl];exact hs,by rw[u1D rfl rfl];exact Step.refl _ _ _,by rw[u1D rfl rfl];exact E x hok⟩
 |pick c x y=>
  obtain⟨⟨k1,k2,k3⟩,hok⟩:=hok
  have hx:w0l (ev1 G fr c)=true→VR w μ st (a.eval x) (ev1 G fr x):=fun h=>E x (by simpa[h]using k2)
  have hy:w0l (ev1 G fr c)=false→VR w μ st (a.eval y) (ev1 G fr y):=fun h=>E y (by simpa[h]using k3)
  obtain⟨v,h1,h2⟩:=w5G (P:=P) (E c k1) hx hy hok
  have hst:=u6i (ev1 G fr c) (ev1 G fr x) (ev1 G fr y)
  refine⟨.value v,v,w,μ,h1,.inl rfl,?_,?_,?_⟩<;>simp only[aop]<;>rw[u1D (r:=LR.and _ _) hst.1 hst.2]
  ·exact hs
  ·exact Step.refl _ _ _
  ·exact h2
 |alloc t=>
  have hq:=hq0 rfl
  obtain⟨v,w',μ',ob,h1,h2,h3,h4,h5⟩:=w5n (P:=P) hs hok hq
  have e:=w5C (r:=w1S (r5c P t) q) (q:=q) (st:=st) (ob:=ob) rfl h2
  simp only[aop]
  exact⟨.value v,v,w',μ',by simp[execOp,h1],.inl rfl,by rw[e];exact h3,by rw[e];exact h4,by rw[e];exact h5⟩
 |box t x=>
  have hq:=hq0 rfl
  obtain⟨⟨k1,_⟩,hok⟩:=hok
  exact u9F rfl (w8S (P:=P) hs (E x k1) hok hq)
 |build t ps=>
  obtain⟨⟨k1,k2,k3⟩,hok⟩:=hok
  have hk:∃fs,(r5c P t).k= .struct fs:=by
   cases hkk:(r5c P t).k<;>rw[hkk]at k2<;>simp[TK.agg]at k2
   ·exact⟨_,rfl⟩
   ·exact absurd hkk (k3 _ _)
  exact r8w hs (u6h _ _ _) (w5t (ps:=ps.map fun(i,x)=>(i,a.eval x)) (by simpa using u9E hf hg ps.toList k1) (.inl hk) hok)
 |buildSlice t len ps=>
  have hq:=hq0 rfl
  obtain⟨k1,hok⟩:=hok
  cases hi:G.imm t with
  |true=>
  rw[hi]at hok
  obtain⟨el,hel⟩:=hok.1
  simp only[cond_true]at hok
  rw[r9p hel]at hok
  obtain⟨v,w',h1,h2,h3,h4⟩:=w1H (P:=P) (t:=t) (el:=el) (len:=len) (q:=q) (ps:=ps.map fun(i,x)=>(i,a.eval x)) hs (by simpa using u9E hf hg ps.toList k1) hel hok hq
  simp only[aop,hi,cond_true]
  rw[r9p hel]
  refine⟨.value v,v,w',μ,by simp[execOp,h1],.inl rfl,?_,?_,?_⟩<;>rw[u1D rfl rfl]
  ·exact h2
  ·exact h3
  ·exact h4
  |false=>
  rw[hi]at hok
  simp only[cond_false]at hok
  obtain⟨el,hel⟩:=hok.1
  rw[r9p hel]at hok
  have:=u9l (P:=P) (t:=t) (el:=el) (len:=len) (q:=q) (ps:=ps.map fun(i,x)=>(i,a.eval x)) hs (by simpa using u9E hf hg ps.toList k1) hel hok hq
  simp only[aop,hi,cond_false]
  rw[r9p hel]
  exact u9F rfl this
 |insert=>exact hok.elim
 |load t x=>
  obtain⟨⟨k1,k2⟩,hok⟩:=hok
  exact r8w hs (u5w _ _ _) (w1V (P:=P) hs (E x k1) hok k2)
 |store t x y=>
  obtain⟨⟨k1,k2,k3⟩,hok⟩:=hok
  exact w9j (u8p _ _ _ _).1 (u8p _ _ _ _).2 (w5m (P:=P) hs (E x k1) (E y k2) rfl hok k3)
 |ready=>exact hok.elim
 |waits=>exact hok.elim
 |nilCheck x=>
  obtain⟨k1,hok⟩:=hok
  have hx:=E x k1
  have hst:=u3Z (ev1 G fr x)
  obtain⟨⟨ad,h1⟩,h2⟩:=w1F hx hok
  show Does P _ w μ st ((u0J (ev1 G fr x)).and (eok G true fr x)) q
  refine⟨.value (a.eval x),a.eval x,w,μ,by simp only[execOp];rw[h1];rfl,.inl rfl,?_,?_,?_⟩<;>rw[u1D (r:=(u0J (ev1 G fr x)).and (eok G true fr x)) hst.1 hst.2]
  ·exact hs
  ·exact Step.refl _ _ _
  ·exact h2
 |binOp op t x y ty=>
  have plain:∀(_:eok G true fr x∧eok G true fr y) (_:(u8m op (ev1 G fr x) (ev1 G fr y)).ok),Does P (execOp a.eval ⟨dst,.binOp op t x y ty,type,pos,after,guard⟩) w μ st ((u8m op (ev1 G fr x) (ev1 G fr y)).and (eok G true fr x∧eok G true fr y)) q:=by
   intro⟨k1,k2⟩ hok
   obtain⟨v,h1,h2,h3⟩:=w8W (P:=P) (t:=t) (E x k1) (E y k2) hok
   exact r8w hs (u8o _ _ _) ⟨v,x4k h1 h3,h2⟩
  have eqs:∀neg,(op=if neg then .neq else .eql)→∀(_:eok G true fr x∧eok G true fr y) (_:(aEq (r5c P t) (r5Y P t) neg (ev1 G fr x) (ev1 G fr y)).ok),
   Does P (execOp a.eval ⟨dst,.binOp op t x y ty,type,pos,after,guard⟩) w μ st ((aEq (r5c P t) (r5Y P t) neg (ev1 G fr x) (ev1 G fr y)).and (eok G true fr x∧eok G true fr y)) q:=by
   intro neg hop ⟨k1,k2⟩ hok
   obtain⟨v,h1,h2⟩:=x1Q (P:=P) (t:=t) (ox:=x) (oy:=y) (E x k1) (E y k2) hok
   rw[←hop]at h1
   exact r8w hs (w0o _ _ _ _ _) ⟨v,h1,h2⟩
  have key:(aop P G true (.binOp op t x y ty) fr (look st) q=(u8m op (ev1 G fr x) (ev1 G fr y)).and (eok G true fr x∧eok G true fr y))∨∃neg,(op=if neg then .neq else .eql)∧
   aop P G true (.binOp op t x y ty) fr (look st) q=(aEq (r5c P t) (r5Y P t) neg (ev1 G fr x) (ev1 G fr y)).and (eok G true fr x∧eok G true fr y):=by
   simp only[aop]
   split<;>first|exact .inl rfl|exact .inr ⟨false,rfl,rfl⟩|exact .inr ⟨true,rfl,rfl⟩
  rcases key with key|⟨neg,hop,key⟩
  ·rw[key]at hok ⊢; exact plain hok.1 hok.2
  ·rw[key]at hok ⊢; exact eqs neg hop hok.1 hok.2
 |unOp op t x=>
  obtain⟨k1,hok⟩:=hok
  exact r8w hs (w0p _ _) (x1R (P:=P) (E x k1) hok)
 |convert s t x=>
  obtain⟨k1,hok⟩:=hok
  have hst:=u4T (r5c P s) (r5c P t) (r5c P (w0k (r5c P s) (r5c P t))) (ev1 G fr x)
  obtain⟨v,w',h1,h2,h3,h4⟩:=w2F (P:=P) hs (E x k1) (fun e he=>by simp[w0k,elemOf,he]) (fun h e he=>by simp[w0k,elemOf,h,he]) hok
  show Does P _ w μ st ((u2t (r5c P s) (r5c P t) (r5c P (w0k (r5c P s) (r5c P t))) (ev1 G fr x)).and (eok G true fr x)) q
  refine⟨.value v,v,w',μ,by simp[execOp,h1],.inl rfl,?_,?_,?_⟩<;>rw[u1D (r:=(u2t (r5c P s) (r5c P t) (r5c P (w0k (r5c P s) (r5c P t))) (ev1 G fr x)).and (eok G true fr x)) hst.1 hst.2]
  ·exact h2
  ·exact h3
  ·exact h4
 |sliceToArrayPointer=>exact hok.elim
 |makeInterface=>exact hok.elim
 |makeFunc fn first cap=>
  cases fn with
  |func f=>
   obtain⟨k1,k2⟩:=hok
   refine⟨.value (.func (.func f) (first.map a.eval) (cap.map a.eval)),_,w,μ,rfl,.inl rfl,?_,?_,?_⟩<;>rw[u1D rfl rfl]
   ·exact hs
   ·exact Step.refl _ _ _
   ·refine .fn f _ _ _ _ (by simp) (by simp) (fun j hj=>?_) (fun j hj=>?_)
    ·simp at hj
     rw[u4S (v:=a.eval first[j]) (by simp[hj])]
     simpa using E first[j] (k1 _ (by simp))
    ·simp at hj
     rw[u4S (v:=a.eval cap[j]) (by simp[hj])]
     simpa using E cap[j] (k2 _ (by simp))
  | _=>exact hok.elim
 |makeMap t r=>
  have hq:=hq0 rfl
  cases r with
  |none=>
   obtain⟨v,w',μ',ob,h1,h2,h3,h4,h5⟩:=w2C (P:=P) hs hok hq
   have e:=w5C (r:=u1C (r5c P t) (r5c P (keyOf (r5c P t))) (r5c P (elemOf (r5c P t))).k.agg q) (q:=q) (st:=st) (ob:=ob) (w0r _ _ _ _) h2
   simp only[aop]
   exact⟨.value v,v,w',μ',by simp[execOp,h1],.inl rfl,by rw[e];exact h3,by rw[e];exact h4,by rw[e];exact h5⟩
  |some _=>exact hok.elim
 |makeChan=>exact hok.elim
 |makeSlice t l c=>
  have hq:=hq0 rfl
  obtain⟨⟨k1,k2⟩,hok⟩:=hok
  obtain⟨el,hel⟩:=w5F hok
  rw[r9p hel]at hok
  simp only[aop]
  rw[r9p hel]
  exact u9F (u7H _ _ _ _ _) (w0c (P:=P) hs (E l k1) (E c k2) hel hok hq)
 |slice t x lo hi mx=>
  obtain⟨⟨k1,k2,k3,k4⟩,hok⟩:=hok
  exact r8w hs (u4F _ _ _ _ _ _ _) (w5s (P:=P) hs (E x k1) (w9i hf hg lo k2) (w9i hf hg hi k3) (w9i hf hg mx k4) (fun el h=>by rw[r9p h]) hok)
 |fieldAddr t x f=>
  obtain⟨k1,hok⟩:=hok
  exact r8w hs (u3y _ _ _) (u9T (P:=P) (E x k1) hok)
 |field t x f=>
  obtain⟨k1,hok⟩:=hok
  exact r8w hs (u6f _ _ _) (w5q (P:=P) (E x k1) hok)
 |indexAddr t x i=>
  obtain⟨⟨k1,k2⟩,hok⟩:=hok
  have hel:(r5c P t).k= .slice (elemOf (r5c P t))∨∃n,(r5c P t).k= .arr n (elemOf (r5c P t)):=by
   rcases w5D hok with⟨e,h⟩|⟨n,e,h⟩
   ·rw[r9p h];exact .inl h
   ·rw[w2c h];exact .inr ⟨n,h⟩
  exact r8w hs (u1E _ _ _ _ _) (u9U (P:=P) hs (E x k1) (E i k2) hel hok)
 |index t x i=>
  obtain⟨⟨k1,k2⟩,hok⟩:=hok
  have hel:(r5c P t).k= .str∨∃n,(r5c P t).k= .arr n (elemOf (r5c P t)):=by
   rcases x4j hok with h|⟨n,e,h⟩
   ·exact .inl h
   ·rw[w2c h];exact .inr ⟨n,h⟩
  exact r8w hs (u6g _ _ _ _) (w5r (P:=P) (E x k1) (E i k2) hel hok)
 |lookup t m k c=>
  obtain⟨⟨k1,k2⟩,hok⟩:=hok
  obtain⟨kt,et,h⟩:=x1V hok
  have e1:=(u6I h).1
  have e2:=(u6I h).2
  simp only[aop]
  rw[e1,e2]at hok⊢
  exact r8w hs (u3N _ _ _ _ _ _ _) (w3V (P:=P) hs (E m k1) (E k k2) h hok)
 |mapUpdate t m k x=>
  obtain⟨⟨k1,k2,k3⟩,hok⟩:=hok
  obtain⟨kt,et,h⟩:=w5E hok
  have e1:=(u6I h).1
  have e2:=(u6I h).2
  simp only[aop]
  rw[e1,e2]at hok⊢
  exact w9j (u4V _ _ _ _ _ _ _).1 (u4V _ _ _ _ _ _ _).2 (w0g (P:=P) hs (E m k1) (E k k2) (E x k3) h rfl hok)
 |mapEntry=>exact hok.elim
 |entryStore=>exact hok.elim
 |range t x=>
  have hq:=hq0 rfl
  obtain⟨k1,hok⟩:=hok
  exact u9F (w0q _ _ _) (w5A (P:=P) hs (E x k1) hok hq)
 |next x b=>
  obtain⟨k1,hok⟩:=hok
  obtain⟨v,w',o,ob,h1,h2,h3,h4,h5⟩:=w8f (P:=P) (t:=type) hs (E x k1) hok
  have e:=x3y (r:=(u9n (look st) b (ev1 G fr x)).and (eok G true fr x)) (q:=q) (st:=st) (ob:=ob) h2 (w3Z _ _ _)
  exact⟨.value v,v,w',μ,by simp[execOp,h1],.inl rfl,by simp only[aop];rw[e];exact h3,by simp only[aop];rw[e];exact h4,by simp only[aop];rw[e];exact h5⟩
 |entry=>exact hok.elim
 |typeAssert=>exact hok.elim
 |extract x i=>
  obtain⟨k1,hok⟩:=hok
  exact r8w hs (u4U _ _) (w2G (P:=P) (E x k1) hok)
 |call c=>
  obtain⟨callee,args,argTypes⟩:=c
  cases callee with
  |builtin b=>
   simp only[aop]at hok⊢
   split at hok
   ·rename_i x t ha ht
    obtain⟨k1,hok⟩:=hok
    obtain⟨v,h1,h2⟩:=w9b (P:=P) (ty:=type) hs (E x k1) hok
    have e1:args= #[x]:=by rw[←Array.toArray_toList (xs:=args),ha]
    have e2:argTypes= #[t]:=by rw[←Array.toArray_toList (xs:=argTypes),ht]
    subst e1;subst e2
    have:=r8w (q:=q) (p:=eok G true fr x) hs (u5i (r5c P t) (look st) (ev1 G fr x)) ⟨v,h1,h2⟩
    simpa[execOp,resolve,invoke,builtin]using this
   ·rename_i s x t u ha ht
    have hq:=hq0 rfl
    obtain⟨⟨k1,k2⟩,hok⟩:=hok
    obtain⟨el,hel⟩:=x1W hok
    rw[r9p hel]at hok⊢
    obtain⟨v,w',μ',h1,h2,h3,h4⟩:=w3Y (P:=P) (ty:=type) hs (E s k1) (E x k2) hel rfl hok hq
    have e1:args= #[s,x]:=by rw[←Array.toArray_toList (xs:=args),ha]
    have e2:argTypes= #[t,u]:=by rw[←Array.toArray_toList (xs:=argTypes),ht]
    subst e1;subst e2
    exact⟨.value v,v,w',μ',by simp[execOp,resolve,invoke,builtin,h1],.inl rfl,h2,h3,h4⟩
   ·rename_i x y ha
    obtain⟨⟨k1,k2⟩,hok⟩:=hok
    obtain⟨v,h1,h2⟩:=w9d (P:=P) (ts:=argTypes) (ty:=type) (E x k1) (E y k2) hok
    have e1:args= #[x,y]:=by rw[←Array.toArray_toList (xs:=args),ha]
    subst e1
    have:=r8w (q:=q) (p:=eok G true fr x∧eok G true fr y) hs (u6G (ev1 G fr x) (ev1 G fr y)) ⟨v,h1,h2⟩
    simpa[execOp,resolve,invoke,builtin]using this
   ·rename_i x y ha
    obtain⟨⟨k1,k2⟩,hok⟩:=hok
    obtain⟨v,h1,h2⟩:=w9e (P:=P) (ts:=argTypes) (ty:=type) (E x k1) (E y k2) hok
    have e1:args= #[x,y]:=by rw[←Array.toArray_toList (xs:=args),ha]
    subst e1
    have:=r8w (q:=q) (p:=eok G true fr x∧eok G true fr y) hs (u6H (ev1 G fr x) (ev1 G fr y)) ⟨v,h1,h2⟩
    simpa[execOp,resolve,invoke,builtin]using this
   ·rename_i x t ha ht
    obtain⟨k1,hok⟩:=hok
    obtain⟨v,h1,h2⟩:=w9c (P:=P) (ty:=type) (E x k1) hok
    have e1:args= #[x]:=by rw[←Array.toArray_toList (xs:=args),ha]
    have e2:argTypes= #[t]:=by rw[←Array.toArray_toList (xs:=argTypes),ht]
    subst e1;subst e2
    have:=r8w (q:=q) (p:=eok G true fr x) hs (u5j (r5c P t) (ev1 G fr x)) ⟨v,h1,h2⟩
    simpa[execOp,resolve,invoke,builtin]using this
   ·exact hok.elim
  |value f=>exact hok.elim
  |invoke r m=>exact hok.elim
 |go=>exact hok.elim
 |defer=>exact hok.elim
 |panic=>exact hok.elim
 |send=>exact hok.elim
 |recv=>exact hok.elim
 |select=>exact hok.elim
end
mutual
def D.sc(n:Nat):D→Prop
 | .agg cs=>D.scs n cs
 | .tup cs=>D.scs n cs
 | .fn _ a b=>D.scs n a∧D.scs n b
 | .ref _ o _ _ _=>o<n
 | .ptr o _ _ _=>o<n
 | .mp o=>o<n
 | .it o=>o<n
 | .cond g d=>g=true→D.sc n d
 | _=>True
def D.scs(n:Nat):List D→Prop
 | []=>True
 |d::r=>D.sc n d∧D.scs n r
end
theorem u0B{n:Nat}:∀ {cs:List D},D.scs n cs→∀j (h:j<cs.length),D.sc n (cs[j])
 |d::r,h,0,_=>h.1
 |d::r,h,j+1,hj=>u0B (cs:=r) h.2 j (by simpa using hj)
theorem u7I{n:Nat}:∀ {cs:List D},(∀j (h:j<cs.length),D.sc n (cs[j]))→D.scs n cs
 | [],_=>trivial
 |d::r,h=>⟨h 0 (by simp),u7I fun j hj=>h (j+1) (by simpa using hj)⟩
def Ob.sc(n:Nat):Ob→Prop
 | .arr _ _ _ es=>∀e∈es,D.scs n e
 | .mps _ es=>∀e∈es,D.scs n e.2
 | .mpi _ _ es=>∀e∈es,D.scs n e.2
 | _=>True
def u4w(n:Nat)(st:St):Prop:=∀(o:Nat) (ob:Ob),st[o]? =some (some ob)→ob.sc n
theorem TR.sc{w:World}{own:Nat→Prop}{v:Value}{d:D}(h:TR w own v d)(n:Nat):D.sc n d:=by cases h<;>trivial
abbrev u3o(P:Program)(f:FuncId):Bool:=match P.funcs[f]? with|some fn=>fn.body.isSome&&fn.name != "runtime.NumGoroutine" |none=>false
def w4a(P:Program)(f:FuncId)(vs:Array Value)(w:World)(Q:Ending→World→Prop):Prop:=
 (u3o P f=true∧Calls P f vs w Q)∨∃v,(callFunc f vs).run P w= .ok (.value v) w∧Q (Ending.returned v) w
theorem w4a.mono{P:Program}{f:FuncId}{vs:Array Value}{w:World}{Q Q':Ending→World→Prop}(h:w4a P f vs w Q)(hq:∀e w',Q e w'→Q' e w'):w4a P f vs w Q':=by
 rcases h with⟨a,b⟩|⟨v,a,b⟩
 ·exact .inl ⟨a,b.mono hq⟩
 ·exact .inr ⟨v,a,hq _ _ b⟩
theorem w0t{P:Program}{f:FuncId}(hb:u3o P f=true)(vs:Array Value)(w:World):(callFunc f vs).run P w= .ok (.enter f vs) w:=by
 unfold u3o at hb
 cases hfn:P.funcs[f]? with
 |none=>rw[hfn]at hb;cases hb
 |some fn=>
  rw[hfn]at hb
  simp only[Bool.and_eq_true,bne_iff_ne]at hb
  obtain⟨hb1,hb2⟩:=hb
  obtain⟨code,hb3⟩:∃c,fn.body=some c:=by
   cases hbb:fn.body with
   |none=>rw[hbb]at hb1;cases hb1
   |some c=>exact⟨c,rfl⟩
  simp[callFunc,hfn,hb2,hb3]
theorem w4a.calls{P:Program}{f:FuncId}{vs:Array Value}{w:World}{Q:Ending→World→Prop}(h:w4a P f vs w Q)(hb:u3o P f=true):Calls P f vs w Q:=by
 rcases h with⟨_,h⟩|⟨v,h,_⟩
 ·exact h
 ·rw[w0t hb]at h;cases h
theorem w4a.upon{P:Program}{f:FuncId}{vs:Array Value}{w:World}{R:Ending→World→Prop}{o:Oper}{a:Act}{next:Act→World→Prop}{Q:Exit→Act→World→Prop}(h:w4a P f vs w R)
 (hm:∀e w',R e w'→match (motive:=Ending→World→Prop) e,w' with|Ending.returned v,w''=>next (a.put o.dst v) w''| .panicked chain,w''=>Q (.panic chain) a w''| .outgrown,_=>LetsOut Q):o.upon P a next Q ((callFunc f vs).run P w):=by
 rcases h with⟨hb,h⟩|⟨v,h,hq⟩
 ·rw[w0t hb,Oper.upon_enter]
  exact h.mono hm
 ·rw[h,Oper.upon_value]
  exact hm _ _ hq
def Spec(P:Program)(G:Gl)(f:FuncId)(args:List D)(st:St)(R:D→St→Prop):Prop:=
 True∧
 ∀(w:World) (μ:Mu) (vs:Array Value),Sim w μ st→Glob G w μ st→vs.size=args.length→(∀j (h:j<args.length),VR w μ st (vs.getD j undef) (args[j]))→
  w4a P f vs w fun e w'=>∃v d st' μ',e= .returned v∧R d st'∧Sim w' μ' st'∧Step w μ st w' μ' st'∧VR w' μ' st' v d
def Pure(P:Program)(G:Gl)(f:FuncId)(args:List D)(r:D):Prop:=∀st,Spec P G f args st fun d st'=>d=r∧st'=st
theorem Spec.mono{P:Program}{G:Gl}{f:FuncId}{args:List D}{st:St}{R R':D→St→Prop}(h:Spec P G f args st R)(hr:∀d st',R d st'→R' d st'):Spec P G f args st R':=
 ⟨h.1,fun w μ vs h1 h2 h3 h4=>(h.2 w μ vs h1 h2 h3 h4).mono fun _ _ ⟨v,d,st',μ',a,b,c⟩=>⟨v,d,st',μ',a,hr _ _ b,c⟩⟩
theorem Pure.to{P:Program}{G:Gl}{f:FuncId}{args:List D}{r:D}(h:Pure P G f args r){st:St}{R:D→St→Prop}(hr:R r st):Spec P G f args st R:=
 (h st).mono fun _ _ ⟨a,b⟩=>by subst a;subst b;exact hr
structure S where
 fr:Fr
 st:St
 ok:Prop
def guardOf(ops:Array Oper)(fr:Fr)(o:Oper):Bool:=
 match o.guard with
 |none=>true
 |some (j,want)=>match (ops[j]?).bind (·.dst)with
  |some t=>match fr.get t with
   | .bool b=>b==want
   | .cond c (.bool b)=>c&&(b==want)
   | _=>false
  |none=>false
def u2O(ops:Array Oper)(fr:Fr)(o:Oper):Prop:=
 match o.guard with
 |none=>True
 |some (j,_)=>match (ops[j]?).bind (·.dst)with
  |some t=>match fr.get t with
   | .bool _=>True
   | .cond _ (.bool _)=>True
   | _=>False
  |none=>False
def w8K(o:Oper)(G:Bool)(fr:Fr)(d:D):Fr:=
 match o.guard with
 |none=>fr.u5c o.dst d
 |some _=>fr.u5c o.dst (.cond G d)
def LR.w5H(r:LR)(st:St):St:=
 let s1:=match r.up with|some (o,ob)=>st.set o (some ob)|none=>st
 match r.new with|some ob=>s1++[some ob]|none=>s1
def u7j(N:Nat)(o:Oper):Prop:=match o.dst with|some t=>t<N|none=>True
def r8n(P:Program)(Gl:Gl)(N:Nat)(ops:Array Oper)(s:S)(o:Oper):S:=
 let G:=guardOf ops s.fr o
 let r:=if needs o.op then aop P Gl G o.op s.fr (look (s.st++[some .resv])) s.st.length else aop P Gl G o.op s.fr (look s.st) 0
 { fr:=w8K o G s.fr r.d,st:=bif G then r.w5H s.st else s.st,ok:=s.ok∧u7j N o∧u2O ops s.fr o∧(G=true→r.ok) }
def u2i:Op→Option (Operand×List Operand)
 | .call { callee:=.value f,args,.. }=>some (f,args.toList)
 | _=>none
def Run(P:Program)(Gl:Gl)(N:Nat)(ops:Array Oper):List Oper→S→(Fr→St→Prop)→Prop
 | [],s,K=>s.ok∧K s.fr s.st
 |o::l,s,K=>
  match u2i o.op with
  |none=>Run P Gl N ops l (r8n P Gl N ops s o) K
  |some (f,xs)=>
   s.ok∧u7j N o∧u2O ops s.fr o∧eok Gl (guardOf ops s.fr o) s.fr f∧(∀x∈xs,eok Gl (guardOf ops s.fr o) s.fr x)∧
   match o.guard with
   |none=>(match ev1 Gl s.fr f with
    | .fn g first cap=>Spec P Gl g (first++xs.map (ev1 Gl s.fr)++cap) s.st fun d st'=>Run P Gl N ops l ⟨s.fr.u5c o.dst d,st',True⟩ K
    | _=>False)
   |some _=>(match ev1 Gl s.fr f with
    | .fn g first cap=>∃r ups,(guardOf ops s.fr o=true→Spec P Gl g (first++xs.map (ev1 Gl s.fr)++cap) s.st fun d st'=>d=r∧st'=puts s.st ups)∧(guardOf ops s.fr o=false→puts s.st ups=s.st)∧Run P Gl N ops l ⟨w8K o (guardOf ops s.fr o) s.fr r,puts s.st ups,True⟩ K
    | _=>False)
structure u7v(Gl:Gl)(N:Nat)(w0:World)(μ0:Mu)(st0:St)(fr:Fr)(st:St)(a:Act)(w:World)(μ:Mu):Prop where
 sim:Sim w μ st
 glob:Glob Gl w μ st
 fr:FR w μ st a.tmps fr
 size:a.tmps.size=N
 defers:a.defers=[]
 step:Step w0 μ0 st0 w μ st
def w4b(Gl:Gl)(N:Nat)(w0:World)(μ0:Mu)(st0:St)(fr:Fr)(st:St)(a:Act)(w:World):Prop:=∃μ,u7v Gl N w0 μ0 st0 fr st a w μ
section
variable {P:Program} {gl:Gl} {N:Nat} {ops:Array Oper} {w0:World} {μ0:Mu} {st0:St}
theorem VR.resv{w:World}{μ:Mu}{st:St}{v:Value}{d:D}(hm:μ st.length=none)(h:VR w μ (st++[some .resv]) v d):VR w μ st v d:=by
 have hl:∀o,o<(st++[some Ob.resv]).length→(st++[some Ob.resv])[o]? ≠some (some .resv)→o<st.length:=by
  intro o h1 h2
  simp at h1
  rcases Nat.lt_or_ge o st.length with h|h
  ·exact h
  ·exfalso;apply h2
   have:o=st.length:=by omega
   subst this;simp
 have lk:∀o,o<st.length→(st++[some Ob.resv])[o]? =st[o]? :=fun o h=>List.getElem?_append_left h
 have ow:∀blk,own μ (st++[some .resv]) blk↔own μ st blk:=by
  intro blk
  constructor
  ·rintro⟨o,ob,base,h1,h2⟩
   rcases Nat.lt_or_ge o st.length with h|h
   ·rw[lk o h]at h1;exact⟨o,ob,base,h1,h2⟩
   ·have:o=st.length∨st.length<o:=by omega
    rcases this with e|e
    ·subst e;rw[hm]at h2;cases h2
    ·rw[List.getElem?_eq_none (by simp;omega)]at h1;cases h1
  ·rintro⟨o,ob,base,h1,h2⟩
   have h:o<st.length:=(List.getElem?_eq_some_iff.1 h1).1
   exact⟨o,ob,base,by rw[lk o h];exact h1,h2⟩
 induction h with
 |any v=>exact .any v
 |tr h=>exact .tr (h.mono (fun blk _ hn=>⟨rfl,fun h=>hn ((ow blk).2 h)⟩) (Nat.le_refl _))
 |agg vs cs hs hc ih=>exact .agg vs cs hs ih
 |tup vs cs hs hc ih=>exact .tup vs cs hs ih
 |fn f vf vc first cap hf hc hfc hcc ih1 ih2=>exact .fn f vf vc first cap hf hc ih1 ih2
 |ref v full o g off len hv ho hr hg h=>
  have hol:=hl o ho hr
  rw[lk o hol]at hr
  exact .ref v full o g off len hv hol hr (fun g' n b es e=>hg g' n b es (by rw[lk o hol];exact e)) (fun n b es e=>h n b es (by rw[lk o hol];exact e))
 |ptr v o g i c hv ho hr hg h=>
  have hol:=hl o ho hr
  rw[lk o hol]at hr
  exact .ptr v o g i c hv hol hr (fun g' n b es e=>hg g' n b es (by rw[lk o hol];exact e)) (fun n b es e=>h n b es (by rw[lk o hol];exact e))
 |mp v o hv ho hr h1 h2=>
  have hol:=hl o ho hr
  rw[lk o hol]at hr
  exact .mp v o hv hol hr (fun ag es e=>h1 ag es (by rw[lk o hol];exact e)) (fun ag k es e=>h2 ag k es (by rw[lk o hol];exact e))
 |it v o hv ho hr h=>
  have hol:=hl o ho hr
  rw[lk o hol]at hr
  exact .it v o hv hol hr (fun s p e=>h s p (by rw[lk o hol];exact e))
 |cond v g d h h0 ih=>exact .cond v g d ih h0
theorem w8g{w:World}{μ:Mu}{st:St}(hs:Sim w μ (st++[some .resv])):Sim w μ st∧μ st.length=none:=by
 have hm:μ st.length=none:=hs.obj st.length .resv (by simp)
 have lk:∀o ob,st[o]? =some (some ob)→(st++[some Ob.resv])[o]? =some (some ob):=fun o ob h=>by
  rw[List.getElem?_append_left (List.getElem?_eq_some_iff.1 h).1];exact h
 refine⟨⟨fun o ob h=>?_,fun o1 o2 ob1 ob2 blk b1 b2 h1 h2 m1 m2=>hs.inj o1 o2 ob1 ob2 blk b1 b2 (lk _ _ h1) (lk _ _ h2) m1 m2⟩,hm⟩
 have:=hs.obj o ob (lk o ob h)
 cases ob with
 |arr g n b es=>
  obtain⟨h1,h2,h3⟩:=(this:u6V w μ (st++[some .resv]) (μ o) n b es)
  refine(⟨h1,h2,?_⟩:u6V w μ st (μ o) n b es)
  rcases h3 with h3|⟨blk,base,c,ty,em,hh,hsz,hc⟩
  ·exact .inl h3
  ·exact .inr ⟨blk,base,c,ty,em,hh,hsz,fun i j hi hj=>let ⟨v,e,hv,h1⟩:=hc i j hi hj;⟨v,e,hv.resv hm,h1⟩⟩
 |mps ag es=>
  obtain⟨blk,ents,clock,ez,em,hh,hsz,hc,hx⟩:=(this:u6c _ ag w μ _ (μ o) es).loc
  refine(⟨⟨blk,ents,clock,ez,em,hh,hsz,fun i hi=>?_,hx⟩⟩:u6c _ ag w μ st (μ o) es)
  obtain⟨e,e1,e2,e3⟩:=hc i hi
  refine⟨e,e1,e2,?_⟩
  cases ag with
  |true=>exact VR.resv hm e3
  |false=>obtain⟨d,a,b⟩:=e3;exact⟨d,a,b.resv hm⟩
 |mpi ag k es=>
  obtain⟨blk,ents,clock,ez,em,hh,hsz,hc,hx⟩:=(this:u6c _ ag w μ _ (μ o) es).loc
  refine(⟨⟨blk,ents,clock,ez,em,hh,hsz,fun i hi=>?_,hx⟩⟩:u6c _ ag w μ st (μ o) es)
  obtain⟨e,e1,e2,e3⟩:=hc i hi
  refine⟨e,e1,e2,?_⟩
  cases ag with
  |true=>exact VR.resv hm e3
  |false=>obtain⟨d,a,b⟩:=e3;exact⟨d,a,b.resv hm⟩
 |sit=>exact this
 |resv=>exact this
theorem w5I{w w':World}{μ μ':Mu}{st st':St}(hm:μ' st'.length=none)(hl:st.length≤st'.length)(h:Step w μ st w' μ' (st'++[some .resv])):Step w μ st w' μ' st' where
 size:=h.size
 os:=h.os
 output:=h.output
 tape:=h.tape
 imm:=h.imm
 own:=fun blk ⟨o,ob,base,h1,h2⟩=>h.own blk ⟨o,ob,base,by rw[List.getElem?_append_left (List.getElem?_eq_some_iff.1 h1).1];exact h1,h2⟩
 len:=hl
 keep:=fun o ob' ho h1=>h.keep o ob' ho (by rw[List.getElem?_append_left (List.getElem?_eq_some_iff.1 h1).1];exact h1)
theorem w0u{G:Gl}{w:World}{μ μ':Mu}{st st':St}(h:Glob G w μ st)(ho:∀blk,own μ' st' blk→own μ st blk):Glob G w μ' st':=⟨fun g cs e=>(h.tab g cs e).mono (fun blk _ hn=>⟨rfl,fun x=>hn (ho blk x)⟩) (Nat.le_refl _),fun g c e=>let ⟨h1,h2,h3⟩:=h.all g c e;⟨h1,fun x=>h2 (ho g x),h3⟩⟩
theorem x6K{r:LR}{q:Nat}{st:St}(h:r.new=none):r.app q st=r.w5H st:=by
 obtain⟨d,ok,rd,up,new⟩:=r
 simp only at h
 subst h
 rfl
theorem w5J{g:Bool}{op:Op}{fr:Fr}{lk:Look}{q:Nat}(hn:needs op=false):(aop P gl g op fr lk q).new=none:=by
 cases op with
 |move=>rfl
 |assign=>rfl
 |pick=>exact(u6i _ _ _).2
 |alloc=>cases hn
 |box=>cases hn
 |build=>exact(u6h _ _ _).2
 |buildSlice=>cases hn
 |insert=>rfl
 |load=>exact(u5w _ _ _).2
 |store=>exact(u8p _ _ _ _).1
 |ready=>rfl
 |waits=>rfl
 |nilCheck=>exact(u3Z _).2
 |binOp=>simp only[aop];split<;>first|exact(u8o _ _ _).2|exact(w0o _ _ _ _ _).2
 |unOp=>exact(w0p _ _).2
 |convert=>exact(u4T _ _ _ _).2
 |sliceToArrayPointer=>rfl
 |makeInterface=>rfl
 |makeFunc fn=>cases fn<;>rfl
 |makeMap=>cases hn
 |makeChan=>rfl
 |makeSlice=>cases hn
 |slice=>exact(u4F _ _ _ _ _ _ _).2
 |fieldAddr=>exact(u3y _ _ _).2
 |field=>exact(u6f _ _ _).2
 |indexAddr=>exact(u1E _ _ _ _ _).2
 |index=>exact(u6g _ _ _ _).2
 |lookup=>exact(u3N _ _ _ _ _ _ _).2
 |mapUpdate=>exact(u4V _ _ _ _ _ _ _).1
 |mapEntry=>rfl
 |entryStore=>rfl
 |range=>cases hn
 |next=>exact w3Z _ _ _
 |entry=>rfl
 |typeAssert=>rfl
 |extract=>exact(u4U _ _).2
 |call c=>
  obtain⟨callee,args,argTypes⟩:=c
  cases callee with
  |builtin b=>
   simp only[aop]
   split
   ·exact(u5i _ _ _).2
   ·cases hn
   ·exact(u6G _ _).2
   ·exact(u6H _ _).2
   ·exact(u5j _ _).2
   ·rfl
  |value=>rfl
  |invoke=>rfl
 |go=>rfl
 |defer=>rfl
 |panic=>rfl
 |send=>rfl
 |recv=>rfl
 |select=>rfl
theorem w9k{i e:TI}{xk:TK}{lk:Look}{s x:D}{q o:Nat}{ob:Ob}(h:(r8g i e xk lk s x q).up=some (o,ob)):∃g n b es,lk o=some (.arr g n b es):=by
 unfold r8g at h
 (repeat' split at h)<;>first|(cases h;done)|skip
 rename_i hl
 cases h
 exact⟨_,_,_,_,hl⟩
theorem x6L{g:Bool}{op:Op}{fr:Fr}{st:St}{q o:Nat}{ob:Ob}(hn:needs op=true)(h:(aop P gl g op fr (look (st++[some .resv])) q).up=some (o,ob)):o<st.length:=by
 cases op with
 |alloc=>cases h
 |box=>cases h
 |buildSlice t len ps=>revert h;simp only[aop];cases gl.imm t<;>(intro h;cases h)
 |makeMap t r=>
  cases r with
  |none=>simp only[aop,w0r]at h;cases h
  |some=>cases h
 |makeSlice=>simp only[aop,LR.and,u7H]at h;cases h
 |range=>simp only[aop,LR.and,w0q]at h;cases h
 |call c=>
  obtain⟨callee,args,argTypes⟩:=c
  cases callee with
  |builtin b=>
   simp only[aop]at h
   split at h
   ·rw[show(LR.and _ _).up=_ from(u5i _ _ _).1]at h;cases h
   ·obtain⟨g,n,b,es,hl⟩:=w9k h
    have:=r5w hl
    rcases Nat.lt_or_ge o st.length with h'|h'
    ·exact h'
    ·rw[List.getElem?_append_right h']at this
     rcases Nat.eq_zero_or_pos (o-st.length)with e|e
     ·rw[e]at this;cases this
     ·rw[List.getElem?_eq_none (by simp;omega)]at this;cases this
   ·rw[show(LR.and _ _).up=_ from(u6G _ _).1]at h;cases h
   ·rw[show(LR.and _ _).up=_ from(u6H _ _).1]at h;cases h
   ·rw[show(LR.and _ _).up=_ from(u5j _ _).1]at h;cases h
   ·cases h
  |value=>cases h
  |invoke=>cases h
 | _=>cases hn
theorem x4l{fr:Fr}{st:St}{a:Act}{w:World}{μ:Mu}{o:Oper}(h:u7v gl N w0 μ0 st0 fr st a w μ){r:LR}
 (hr:r=if needs o.op then aop P gl true o.op fr (look (st++[some .resv])) st.length else aop P gl true o.op fr (look st) 0) (hok:r.ok) (hd:u7j N o):
 ∃nx v w' μ',(execOp a.eval o).run P w= .ok nx w'∧(nx= .value v∨(nx= .skip∧v=undef))∧u7v gl N w0 μ0 st0 (fr.u5c o.dst r.d) (r.w5H st) (a.put o.dst v) w' μ':=by
 have fin:∀ {w' μ' v st'},Sim w' μ' st'→Step w μ st w' μ' st'→VR w' μ' st' v r.d→u7v gl N w0 μ0 st0 (fr.u5c o.dst r.d) st' (a.put o.dst v) w' μ':=by
  intro w' μ' v st' h1 h2 h3
  refine⟨h1,h.glob.step h2,?_,?_,?_,h.step.trans h2⟩
  ·cases u8X:o.dst with
   |none=>exact h.fr.step h2
   |some t=>
    have ht:t<N:=by simpa[u7j,u8X]using hd
    exact(h.fr.step h2).put h3 (by rw[h.size];exact ht)
  ·cases u8X:o.dst with
   |none=>exact h.size
   |some t=>simp[Act.put,h.size]
  ·cases u8X:o.dst with
   |none=>exact h.defers
   |some t=>simp[Act.put,h.defers]
 cases hn:needs o.op with
 |false=>
  rw[hn]at hr
  simp only[Bool.false_eq_true,if_false]at hr
  subst hr
  obtain⟨nx,v,w',μ',h1,h2,h3,h4,h5⟩:=w0s (P:=P) (G:=gl) (q:=0) h.sim h.fr h.glob (fun e=>by rw[hn]at e;cases e) hok
  have hnew:(aop P gl true o.op fr (look st) 0).new=none:=w5J hn
  have e:(aop P gl true o.op fr (look st) 0).app 0 st=(aop P gl true o.op fr (look st) 0).w5H st:=x6K hnew
  rw[e]at h3 h4 h5
  exact⟨nx,v,w',μ',h1,h2,fin h3 h4 h5⟩
 |true=>
  rw[hn]at hr
  simp only[if_true]at hr
  obtain⟨k1,k2⟩:=u9D h.sim
  have hf2:=h.fr.step k2
  have hg2:=h.glob.step k2
  have:=w0s (P:=P) (G:=gl) (q:=st.length) k1 hf2 hg2 (fun _=>by simp) (by rw[←hr];exact hok)
  rw[←hr]at this
  obtain⟨nx,v,w',μ',h1,h2,h3,h4,h5⟩:=this
  have hup:∀o' ob,r.up=some (o',ob)→o'<st.length:=fun o' ob e=>x6L hn (by rw[←hr];exact e)
  have e:(r.new=none∧r.app st.length (st++[some .resv])=r.w5H st++[some .resv])∨(r.app st.length (st++[some .resv])=r.w5H st):=by
   cases hu:r.up with
   |none=>
    cases hnw:r.new with
    |none=>left;simp[LR.app,LR.w5H,hu,hnw]
    |some ob=>right;simp[LR.app,LR.w5H,hu,hnw]
   |some p=>
    obtain⟨o',ob'⟩:=p
    have hlt:=hup o' ob' hu
    cases hnw:r.new with
    |none=>left;simp[LR.app,LR.w5H,hu,hnw,List.set_append_left _ _ hlt]
    |some ob=>right;simp[LR.app,LR.w5H,hu,hnw,List.set_append_left _ _ hlt]
  have hlen:st.length≤(r.w5H st).length:=by
   cases hu:r.up with
   |none=>cases hnw:r.new<;>simp[LR.w5H,hu,hnw]
   |some p=>cases hnw:r.new<;>simp[LR.w5H,hu,hnw]
  rcases e with⟨_,e⟩|e
  ·rw[e]at h3 h4 h5
   obtain⟨s1,s2⟩:=w8g h3
   exact⟨nx,v,w',μ',h1,h2,fin s1 (w5I s2 hlen (k2.trans h4)) (h5.resv s2)⟩
  ·rw[e]at h3 h4 h5
   exact⟨nx,v,w',μ',h1,h2,fin h3 (k2.trans h4) h5⟩
end
section
variable {P:Program} {gl:Gl} {N:Nat} {ops:Array Oper} {w0:World} {μ0:Mu} {st0:St}
theorem u7k{w:World}{μ:Mu}{st:St}{tmps:Array Value}{fr:Fr}{o:Oper}(hf:FR w μ st tmps fr)(hok:u2O ops fr o):Region.wanted o (yielded ops tmps)=guardOf ops fr o:=by
 unfold u2O at hok
 unfold guardOf Region.wanted
 cases hg:o.guard with
 |none=>rfl
 |some p=>
  obtain⟨j,want⟩:=p
  rw[hg]at hok
  simp only at hok⊢
  cases hd:(ops[j]?).bind (·.dst)with
  |none=>rw[hd]at hok;exact hok.elim
  |some t=>
   rw[hd]at hok
   simp only at hok⊢
   have ht:=hf t
   have yes:∀b,VR w μ st (tmps.getD t undef) (.bool b)→yielded ops tmps j=some b:=fun b h=>by
    have:=u3Y h
    unfold yielded
    rw[hd]
    simp only[Option.bind_some]
    cases hq:tmps[t]? with
    |none=>simp[Array.getD_eq_getD_getElem?, hq,undef]at this
    |some u=>simp[Array.getD_eq_getD_getElem?, hq]at this;subst this;rfl
   have no:tmps.getD t undef=undef→yielded ops tmps j=none:=fun h=>by
    unfold yielded
    rw[hd]
    simp only[Option.bind_some]
    cases hq:tmps[t]? with
    |none=>rfl
    |some u=>simp[Array.getD_eq_getD_getElem?, hq]at h;subst h;rfl
   split at hok
   ·rename_i b hb
    rw[hb]at ht
    rw[yes b ht];cases b<;>cases want<;>rfl
   ·rename_i c b hb
    rw[hb]at ht
    generalize tmps.getD t undef=u at ht yes no
    cases ht with
    |tr h=>cases h
    |cond _ _ _ h h0=>
     cases c with
     |true=>rw[yes b (h rfl)];cases b<;>cases want<;>rfl
     |false=>rw[no (h0 rfl)];simp
   ·exact hok.elim
theorem x3z{K:Fr→St→Prop}:∀(l:List Oper) (s:S),Run P gl N ops l s K→s.ok
 | [],s,h=>h.1
 |o::l,s,h=>by
  simp only[Run]at h
  split at h
  ·exact(x3z l _ h).1
  ·exact h.1
theorem w0v{fr:Fr}{st:St}{a:Act}{w:World}{μ:Mu}{o:Oper}(h:u7v gl N w0 μ0 st0 fr st a w μ)(hd:u7j N o)(d:D):
 u7v gl N w0 μ0 st0 (fr.u5c o.dst (.cond false d)) st (a.put o.dst undef) w μ:=by
 refine⟨h.sim,h.glob,?_,?_,?_,h.step⟩
 ·cases u8X:o.dst with
  |none=>exact h.fr
  |some t=>
   have ht:t<N:=by simpa[u7j,u8X]using hd
   exact h.fr.put (.cond _ _ _ (fun e=>by cases e) (fun _=>rfl)) (by rw[h.size];exact ht)
 ·cases u8X:o.dst with
  |none=>exact h.size
  |some t=>simp[Act.put,h.size]
 ·cases u8X:o.dst with
  |none=>exact h.defers
  |some t=>simp[Act.put,h.defers]
theorem w0w{fr:Fr}{st:St}{a:Act}{w:World}{μ:Mu}{o:Oper}{d:D}{v:Value}(h:u7v gl N w0 μ0 st0 (fr.u5c o.dst d) st (a.put o.dst v) w μ)(G:Bool)(hG:G=true):u7v gl N w0 μ0 st0 (w8K o G fr d) st (a.put o.dst v) w μ:=by
 unfold w8K
 split
 ·exact h
 ·refine⟨h.sim,h.glob,fun t=>?_,h.size,h.defers,h.step⟩
  have:=h.fr t
  cases u8X:o.dst with
  |none=>rw[u8X]at this;exact this
  |some t'=>
   rw[u8X]at this
   simp only[Fr.u5c,Fr.w0m]at this⊢
   split
   ·rename_i e
    rw[if_pos e]at this
    exact .cond _ _ _ (fun _=>this) (fun e=>by rw[hG]at e;cases e)
   ·rename_i e;rw[if_neg e]at this;exact this
theorem u9G{o:Oper}{a:Act}{w:World}{μ:Mu}{st:St}{fr:Fr}{f:Operand}{xs:List Operand}{g:Nat}{first cap:List D}(hc:u2i o.op=some (f,xs))(hf:FR w μ st a.tmps fr)(hg:Glob gl w μ st)
 (y1T:eok gl true fr f) (y1U:∀x∈xs,eok gl true fr x) (hev:ev1 gl fr f= .fn g first cap):
 ∃vs:Array Value,(execOp a.eval o).run P w=(callFunc g vs).run P w∧vs.size=(first++xs.map (ev1 gl fr)++cap).length∧
  ∀j (h:j<(first++xs.map (ev1 gl fr)++cap).length),VR w μ st (vs.getD j undef) ((first++xs.map (ev1 gl fr)++cap)[j]):=by
 obtain⟨dst,op,type,pos,after,guard⟩:=o
 cases op<;>simp only[u2i]at hc<;>first|(cases hc;done)|skip
 rename_i c
 obtain⟨callee,args,argTypes⟩:=c
 cases callee<;>simp only at hc<;>first|(cases hc;done)|skip
 rename_i f'
 cases hc
 have hv:=u5h hf hg y1T
 rw[hev]at hv
 have hargs:∀j (h:j<args.size),VR w μ st (a.eval args[j]) (ev1 gl fr args[j]):=fun j h=>u5h hf hg (y1U _ (by simp))
 have key:∃vf vc:Array Value,a.eval f= .func (.func g) vf vc∧vf.size=first.length∧vc.size=cap.length∧(∀j (h:j<first.length),VR w μ st (vf.getD j undef) (first[j]))∧∀j (h:j<cap.length),VR w μ st (vc.getD j undef) (cap[j]):=by
  generalize a.eval f=vv at hv
  cases hv with
  |tr h=>cases h
  |fn _ vf vc _ _ h1 h2 h3 h4=>exact⟨vf,vc,rfl,h1,h2,h3,h4⟩
 obtain⟨vf,vc,e,h1,h2,h3,h4⟩:=key
 refine⟨vf++args.map a.eval++vc,?_,by simp[h1,h2],fun j hj=>?_⟩
 ·simp[execOp,resolve,e,Deferred.ofValue,invoke]
 ·simp only[List.length_append,List.length_map,Array.length_toList]at hj
  rw[Array.getD_eq_getD_getElem?]
  by_cases c1:j<first.length
  ·rw[Array.getElem?_append_left (by simp[h1];omega),Array.getElem?_append_left (by omega)]
   simp only[List.append_assoc,List.getElem_append_left c1]
   have:=h3 j c1
   rwa[Array.getD_eq_getD_getElem?]at this
  ·by_cases c2:j<first.length+args.size
   ·rw[Array.getElem?_append_left (by simp[h1];omega),Array.getElem?_append_right (by omega)]
    have hj2:j-first.length<args.size:=by omega
    have hg1:(first++args.toList.map (ev1 gl fr)++cap)[j]'(by simp;omega)=ev1 gl fr args[j-first.length]:=by
     rw[List.getElem_append_left (by simp;omega),List.getElem_append_right (by omega)]
     simp
    rw[hg1,h1]
    simpa[hj2]using hargs (j-first.length) hj2
   ·rw[Array.getElem?_append_right (by simp[h1];omega)]
    have hj2:j-(first.length+args.size)<cap.length:=by omega
    have hg1:(first++args.toList.map (ev1 gl fr)++cap)[j]'(by simp;omega)=cap[j-(first.length+args.size)]:=by
     rw[List.getElem_append_right (by simp;omega)]
     simp
    rw[hg1]
    have:=h4 _ hj2
    rw[Array.getD_eq_getD_getElem?]at this
    simpa[h1]using this
theorem u5k{K:Fr→St→Prop}{Q:Exit→Act→World→Prop}(hQ:∀fr st a w μ,K fr st→u7v gl N w0 μ0 st0 fr st a w μ→Q .normal a w):
 ∀(l:List Oper) (i:Nat),ops.toList.drop i=l→∀(s:S) (a:Act) (w:World) (μ:Mu),u7v gl N w0 μ0 st0 s.fr s.st a w μ→Run P gl N ops l s K→wpOps P ops Q (List.range' i l.length) a w
 | [],i,hl,s,a,w,μ,hc,h=>hQ _ _ _ _ _ h.2 hc
 |o::l,i,hl,s,a,w,μ,hc,h=>by
  have hlt:i<ops.size:=by
   rcases Nat.lt_or_ge i ops.size with h'|h'
   ·exact h'
   ·rw[List.drop_eq_nil_of_le (by simpa using h')]at hl;cases hl
  have ho:ops[i]? =some o:=by
   have:(ops.toList.drop i)[0]? =some o:=by rw[hl];rfl
   simpa[List.getElem?_drop]using this
  have hl':ops.toList.drop (i+1)=l:=by
   have:=congrArg List.tail hl
   simpa[List.tail_drop]using this
  simp only[List.length_cons,List.range'_succ]
  rw[wpOps_cons]
  simp only[wpOp,ho]
  simp only[Run]at h
  split at h
  ·rename_i hcall
   obtain⟨hok,hd,hgo,hr⟩:=x3z l _ h
   rw[u7k hc.fr hgo]
   cases hG:guardOf ops s.fr o with
   |true=>
    simp only[if_true]
    left
    rw[hG]at hr
    obtain⟨nx,v,w',μ',h1,h2,h3⟩:=x4l (P:=P) (o:=o) hc rfl (hr rfl) hd
    unfold Oper.wp
    rw[h1]
    have next:wpOps P ops Q (List.range' (i+1) l.length) (a.put o.dst v) w':=by
     refine u5k hQ l (i+1) hl' _ _ _ μ' ?_ h
     simp only[r8n,hG,cond_true]
     exact w0w h3 true rfl
    rcases h2 with rfl|⟨rfl,rfl⟩<;>exact next
   |false=>
    simp only[Bool.false_eq_true,if_false]
    have hgs:∃p,o.guard=some p:=by
     cases hgd:o.guard with
     |none=>simp[guardOf,hgd]at hG
     |some p=>exact⟨p,rfl⟩
    obtain⟨p,hgs⟩:=hgs
    refine u5k hQ l (i+1) hl' _ _ _ μ ?_ h
    simp only[r8n,hG,cond_false]
    have e:∀d,w8K o false s.fr d=s.fr.u5c o.dst (.cond false d):=fun d=>by simp[w8K,hgs]
    rw[e]
    exact w0v hc hd _
  ·rename_i f xs hcall
   obtain⟨hok,hd,hgo,hfo,hxo,hr⟩:=h
   rw[u7k hc.fr hgo]
   cases hgd:o.guard with
   |none=>
    rw[hgd]at hr
    simp only at hr
    have hG:guardOf ops s.fr o=true:=by simp[guardOf,hgd]
    rw[hG]at hfo hxo⊢
    simp only[if_true]
    left
    split at hr
    ·rename_i g first cap hev
     obtain⟨_,hspec⟩:=hr
     obtain⟨vs,h1,h2,h3⟩:=u9G (P:=P) hcall hc.fr hc.glob hfo hxo hev
     unfold Oper.wp
     rw[h1]
     refine(hspec w μ vs hc.sim hc.glob h2 h3).upon fun e w' ⟨v,d,st',μ',he,hR,hs',w6z,hv⟩=>?_
     subst he
     refine u5k hQ l (i+1) hl' ⟨s.fr.u5c o.dst d,st',True⟩ _ _ μ' ?_ hR
     refine⟨hs',hc.glob.step w6z,?_,?_,?_,hc.step.trans w6z⟩
     ·cases u8X:o.dst with
      |none=>exact hc.fr.step w6z
      |some t=>
       have ht:t<N:=by simpa[u7j,u8X]using hd
       exact(hc.fr.step w6z).put hv (by rw[hc.size];exact ht)
     ·cases u8X:o.dst with
      |none=>exact hc.size
      |some t=>simp[Act.put,hc.size]
     ·cases u8X:o.dst with
      |none=>exact hc.defers
      |some t=>simp[Act.put,hc.defers]
    ·exact hr.elim
   |some p=>
    rw[hgd]at hr
    simp only at hr
    cases hG:guardOf ops s.fr o with
    |false=>
     simp only[Bool.false_eq_true,if_false]
     split at hr
     ·obtain⟨r,ups,_,hst,hR⟩:=hr
      rw[hst (by assumption)]at hR
      refine u5k hQ l (i+1) hl' _ _ _ μ ?_ hR
      have e:∀d,w8K o (guardOf ops s.fr o) s.fr d=s.fr.u5c o.dst (.cond false d):=fun d=>by simp[w8K,hgd,hG]
      rw[e]
      exact w0v hc hd _
     ·exact hr.elim
    |true=>
     rw[hG]at hfo hxo hr
     simp only[if_true]
     left
     split at hr
     ·rename_i g first cap hev
      obtain⟨r,ups,hp,_,hR⟩:=hr
      obtain⟨_,hspec⟩:=hp rfl
      obtain⟨vs,h1,h2,h3⟩:=u9G (P:=P) hcall hc.fr hc.glob hfo hxo hev
      unfold Oper.wp
      rw[h1]
      refine(hspec w μ vs hc.sim hc.glob h2 h3).upon fun e w' ⟨v,d,st',μ',he,⟨hd1,hd2⟩,hs',w6z,hv⟩=>?_
      subst he;subst hd1;subst hd2
      refine u5k hQ l (i+1) hl' _ _ _ μ' ?_ hR
      refine w0w ?_ true rfl
      refine⟨hs',hc.glob.step w6z,?_,?_,?_,hc.step.trans w6z⟩
      ·cases u8X:o.dst with
       |none=>exact hc.fr.step w6z
       |some t=>
        have ht:t<N:=by simpa[u7j,u8X]using hd
        exact(hc.fr.step w6z).put hv (by rw[hc.size];exact ht)
      ·cases u8X:o.dst with
       |none=>exact hc.size
       |some t=>simp[Act.put,hc.size]
      ·cases u8X:o.dst with
       |none=>exact hc.defers
       |some t=>simp[Act.put,hc.defers]
     ·exact hr.elim
end
theorem VR.sc{w:World}{μ:Mu}{st:St}{v:Value}{d:D}(h:VR w μ st v d):D.sc st.length d:=by
 induction h with
 |any v=>trivial
 |tr h=>exact h.sc _
 |agg vs cs hs hc ih=>exact u7I ih
 |tup vs cs hs hc ih=>exact u7I ih
 |fn f vf vc first cap hf hc hfc hcc ih1 ih2=>exact⟨u7I ih1,u7I ih2⟩
 |ref v full o g off len hv ho=>exact ho
 |ptr v o g i c hv ho=>exact ho
 |mp v o hv ho=>exact ho
 |it v o hv ho=>exact ho
 |cond v g d h h0 ih=>exact ih
theorem Sim.sc{w:World}{μ:Mu}{st:St}(h:Sim w μ st):u4w st.length st:=fun o ob ho=>by
 have:=h.obj o ob ho
 cases ob with
 |arr g n b es=>
  obtain⟨_,_,h3⟩:=(this:u6V w μ st (μ o) n b es)
  intro e he
  rcases h3 with⟨_,h3⟩|⟨blk,base,c,ty,em,hh,hsz,hc⟩
  ·rw[h3]at he;simp at he
  ·obtain⟨i,hi,rfl⟩:=List.getElem_of_mem he
   exact u7I fun j hj=>by obtain⟨v,_,hv,_⟩:=hc i j hi hj;exact hv.sc
 |mps ag es=>
  obtain⟨blk,ents,clock,ez,em,hh,hsz,hc,hx⟩:=(this:u6c _ ag w μ _ (μ o) es).loc
  intro e he
  obtain⟨i,hi,rfl⟩:=List.getElem_of_mem (hx.perm.mem_iff.2 he)
  obtain⟨e,_,_,e3⟩:=hc i hi
  cases ag with
  |true=>exact VR.sc e3
  |false=>obtain⟨d,a,b⟩:=e3;rw[a];exact⟨b.sc,trivial⟩
 |mpi ag k es=>
  obtain⟨blk,ents,clock,ez,em,hh,hsz,hc,hx⟩:=(this:u6c _ ag w μ _ (μ o) es).loc
  intro e he
  obtain⟨i,hi,rfl⟩:=List.getElem_of_mem (hx.perm.mem_iff.2 he)
  obtain⟨e,_,_,e3⟩:=hc i hi
  cases ag with
  |true=>exact VR.sc e3
  |false=>obtain⟨d,a,b⟩:=e3;rw[a];exact⟨b.sc,trivial⟩
 |sit=>trivial
 |resv=>trivial
theorem VR.w5K{w:World}{μ:Mu}{s t:St}{v:Value}{d:D}(h:VR w μ (s++t) v d)(hd:D.sc s.length d):VR w μ s v d:=by
 have lk:∀o,o<s.length→(s++t)[o]? =s[o]? :=fun o h=>List.getElem?_append_left h
 have ow:∀blk,own μ s blk→own μ (s++t) blk:=by
  rintro blk ⟨o,ob,base,h1,h2⟩
  exact⟨o,ob,base,by rw[lk o (List.getElem?_eq_some_iff.1 h1).1];exact h1,h2⟩
 induction h with
 |any v=>exact .any v
 |tr h=>exact .tr (h.mono (fun blk _ hn=>⟨rfl,fun h=>hn (ow blk h)⟩) (Nat.le_refl _))
 |agg vs cs hs hc ih=>exact .agg vs cs hs (fun j hj=>ih j hj (u0B hd j hj))
 |tup vs cs hs hc ih=>exact .tup vs cs hs (fun j hj=>ih j hj (u0B hd j hj))
 |fn f vf vc first cap hf hc hfc hcc ih1 ih2=>exact .fn f vf vc first cap hf hc (fun j hj=>ih1 j hj (u0B hd.1 j hj)) (fun j hj=>ih2 j hj (u0B hd.2 j hj))
 |ref v full o g off len hv ho hr hg h=>
  rw[lk o hd]at hr
  exact .ref v full o g off len hv hd hr (fun g' n b es e=>hg g' n b es (by rw[lk o hd];exact e)) (fun n b es e=>h n b es (by rw[lk o hd];exact e))
 |ptr v o g i c hv ho hr hg h=>
  rw[lk o hd]at hr
  exact .ptr v o g i c hv hd hr (fun g' n b es e=>hg g' n b es (by rw[lk o hd];exact e)) (fun n b es e=>h n b es (by rw[lk o hd];exact e))
 |mp v o hv ho hr h1 h2=>
  rw[lk o hd]at hr
  exact .mp v o hv hd hr (fun ag es e=>h1 ag es (by rw[lk o hd];exact e)) (fun ag k es e=>h2 ag k es (by rw[lk o hd];exact e))
 |it v o hv ho hr h=>
  rw[lk o hd]at hr
  exact .it v o hv hd hr (fun s p e=>h s p (by rw[lk o hd];exact e))
 |cond v g d h h0 ih=>exact .cond v g d (fun e=>ih e (hd e)) h0
theorem Sim.w5K{w:World}{μ:Mu}{s t:St}(hs:Sim w μ (s++t))(hsc:u4w s.length s):Sim w μ s:=by
 have lk:∀o ob,s[o]? =some (some ob)→(s++t)[o]? =some (some ob):=fun o ob h=>by
  rw[List.getElem?_append_left (List.getElem?_eq_some_iff.1 h).1];exact h
 refine⟨fun o ob h=>?_,fun o1 o2 ob1 ob2 blk b1 b2 h1 h2 m1 m2=>hs.inj o1 o2 ob1 ob2 blk b1 b2 (lk _ _ h1) (lk _ _ h2) m1 m2⟩
 have:=hs.obj o ob (lk o ob h)
 have hob:=hsc o ob h
 cases ob with
 |arr g n b es=>
  obtain⟨h1,h2,h3⟩:=(this:u6V w μ (s++t) (μ o) n b es)
  refine(⟨h1,h2,?_⟩:u6V w μ s (μ o) n b es)
  rcases h3 with h3|⟨blk,base,c,ty,em,hh,hsz,hc⟩
  ·exact .inl h3
  ·exact .inr ⟨blk,base,c,ty,em,hh,hsz,fun i j hi hj=>let ⟨v,e,hv,h1⟩:=hc i j hi hj;⟨v,e,hv.w5K (u0B (hob _ (List.getElem_mem hi)) j hj),h1⟩⟩
 |mps ag es=>
  obtain⟨blk,ents,clock,ez,em,hh,hsz,hc,hx⟩:=(this:u6c _ ag w μ _ (μ o) es).loc
  refine(⟨⟨blk,ents,clock,ez,em,hh,hsz,fun i hi=>?_,hx⟩⟩:u6c _ ag w μ s (μ o) es)
  obtain⟨e,e1,e2,e3⟩:=hc i hi
  refine⟨e,e1,e2,?_⟩
  have w1r:=hob _ (hx.perm.mem_iff.1 (List.getElem_mem hi))
  cases ag with
  |true=>exact VR.w5K e3 w1r
  |false=>obtain⟨d,a,b⟩:=e3;rw[a]at w1r;exact⟨d,a,b.w5K w1r.1⟩
 |mpi ag k es=>
  obtain⟨blk,ents,clock,ez,em,hh,hsz,hc,hx⟩:=(this:u6c _ ag w μ _ (μ o) es).loc
  refine(⟨⟨blk,ents,clock,ez,em,hh,hsz,fun i hi=>?_,hx⟩⟩:u6c _ ag w μ s (μ o) es)
  obtain⟨e,e1,e2,e3⟩:=hc i hi
  refine⟨e,e1,e2,?_⟩
  have w1r:=hob _ (hx.perm.mem_iff.1 (List.getElem_mem hi))
  cases ag with
  |true=>exact VR.w5K e3 w1r
  |false=>obtain⟨d,a,b⟩:=e3;rw[a]at w1r;exact⟨d,a,b.w5K w1r.1⟩
 |sit=>exact this
 |resv=>exact this
theorem Step.w5K{w w':World}{μ μ':Mu}{st s t:St}(hl:st.length≤s.length)(h:Step w μ st w' μ' (s++t)):Step w μ st w' μ' s where
 size:=h.size
 os:=h.os
 output:=h.output
 tape:=h.tape
 imm:=h.imm
 own:=fun blk ⟨o,ob,base,h1,h2⟩=>h.own blk ⟨o,ob,base,by rw[List.getElem?_append_left (List.getElem?_eq_some_iff.1 h1).1];exact h1,h2⟩
 len:=hl
 keep:=fun o ob' ho h1=>h.keep o ob' ho (by rw[List.getElem?_append_left (List.getElem?_eq_some_iff.1 h1).1];exact h1)
inductive x1X where
 |normal
 |exit (id:Nat)
 |ret
abbrev AQ:=x1X→Fr→St→Prop
def AQ.then(next:Fr→St→Prop)(Q:AQ):AQ
 | .normal,fr,st=>next fr st
 |e,fr,st=>Q e fr st
def AQ.block(id:Nat)(Q:AQ):AQ
 | .exit i,fr,st=>if i=id then Q .normal fr st else Q (.exit i) fr st
 |e,fr,st=>Q e fr st
def cq(gl:Gl)(N:Nat)(w0:World)(μ0:Mu)(st0:St)(Q:AQ):Exit→Act→World→Prop
 | .normal,a,w=>∃fr st,Q .normal fr st∧w4b gl N w0 μ0 st0 fr st a w
 | .exit id,a,w=>∃fr st,Q (.exit id) fr st∧w4b gl N w0 μ0 st0 fr st a w
 | .ret,a,w=>∃fr st,Q .ret fr st∧w4b gl N w0 μ0 st0 fr st a w
 | _,_,_=>False
def AWp(P:Program)(gl:Gl)(N n0:Nat)(keep:List Nat)(c:Code)(Q:AQ)(fr:Fr)(st:St):Prop:=
 ∀(w0:World) (μ0:Mu) (st0:St),st0.length=n0→∀(a:Act) (w:World),w4b gl N w0 μ0 st0 fr st a w→c.wp P (cq gl N w0 μ0 st0 Q) a w
section
variable {P:Program} {gl:Gl} {N n0:Nat} {keep:List Nat} {Q:AQ} {fr:Fr} {st:St}
theorem w9l{w0:World}{μ0:Mu}{st0:St}{b:Code}(hl:st0.length=n0){e:Exit}{a:Act}{w:World}(h:cq gl N w0 μ0 st0 (AQ.then (AWp P gl N n0 keep b Q) Q) e a w):
 Exit.then (b.wp P (cq gl N w0 μ0 st0 Q)) (cq gl N w0 μ0 st0 Q) e a w:=by
 cases e with
 |normal=>obtain⟨fr,st,h1,h2⟩:=h;exact h1 w0 μ0 st0 hl a w h2
 |exit id=>exact h
 |ret=>exact h
 |goto=>exact h
 |panic=>exact h
 |outgrown=>exact h
theorem sq_{x y:Code}(h:AWp P gl N n0 keep x (AQ.then (AWp P gl N n0 keep y Q) Q) fr st):AWp P gl N n0 keep (.seq x y) Q fr st:=
 fun w0 μ0 st0 hl a w hc=>wp_seq (wp_mono (h w0 μ0 st0 hl a w hc) fun _ _ _=>w9l hl)
theorem w4c:∀(k k':List Item) (id:Nat),exitTo id k=some k'→k'.length<k.length
 | [],_,_,h=>by simp[exitTo]at h
 |x::k,k',id,h=>by
  by_cases hx:x= .inBlock id
  ·subst hx
   simp[exitTo]at h
   subst h;simp
  ·have:exitTo id k=some k':=by
    cases x<;>simp[exitTo]at h<;>first|exact h|skip
    rename_i id'
    split at h
    ·rename_i e;exact absurd (by rw[e]) hx
    ·exact h
   have:=w4c k k' id this
   simp;omega
theorem w4d{b:Frame}{a a':Act}{k k':List Item}{cs:List Frame}{w w':World}(h:lone (b.at a k) cs w=lone (b.at a' k') cs w'):k=k':=by
 simp only[lone,Machine.mk.injEq]at h
 have:=h.2.1
 simp[Frame.at]at this
 exact this.2.1
theorem u5x{c:Code}(h:AWp P gl N n0 keep c (AQ.then (AWp P gl N n0 keep (.loop c) Q) Q) fr st):AWp P gl N n0 keep (.loop c) Q fr st:=by
 intro w0 μ0 st0 hl a w hc b k cs
 obtain⟨e,a',w',hq0,harr⟩:=h w0 μ0 st0 hl a w hc b (.inLoop c::k) cs
 have hq:=w9l (P:=P) (gl:=gl) (N:=N) (keep:=keep) hl hq0
 have pass:∀e',e'≠Exit.normal→cq gl N w0 μ0 st0 Q e' a' w'→Arrives P (lone (b.at a (.code c:: .inLoop c::k)) cs w) b (.inLoop c::k) cs e' a' w'→
  ∃e a'' w'',cq gl N w0 μ0 st0 Q e a'' w''∧Arrives P (lone (b.at a (.code (.loop c)::k)) cs w) b k cs e a'' w'':=fun e' hne hq' x9y=>
  ⟨e',a',w',hq',.of_steps (.one step_loop) (.pass (x:=.inLoop c) rfl (fun _ _=>.inl hne) x9y)⟩
 cases e with
 |normal=>
  obtain⟨e2,a2,w2,hq2,x4m⟩:=hq b k cs
  have hs2:step P (lone (b.at a' (.code (.loop c)::k)) cs w')= .next (lone (b.at a' (.code c:: .inLoop c::k)) cs w'):=step_loop
  have hs3:step P (lone (b.at a' (.inLoop c::k)) cs w')= .next (lone (b.at a' (.code c:: .inLoop c::k)) cs w'):=step_inLoop
  have same:∀m,Steps P (lone (b.at a' (.code (.loop c)::k)) cs w') m→m≠lone (b.at a' (.code (.loop c)::k)) cs w'→Steps P (lone (b.at a' (.inLoop c::k)) cs w') m:=by
   intro m ⟨n,hn⟩ hne
   cases n with
   |zero=>simp[runN]at hn;exact absurd hn.symm hne
   |succ n=>
    simp only[runN,hs2]at hn
    exact⟨n+1,by simp only[runN,hs3];exact hn⟩
  refine⟨e2,a2,w2,hq2,.of_steps (.head step_loop harr) ?_⟩
  cases e2 with
  |normal=>exact same _ x4m (fun e=>by have:=congrArg List.length (w4d e);simp at this)
  |exit id=>exact fun k' hk=>same _ (x4m k' hk) (fun e=>by have:=congrArg List.length (w4d e);have:=w4c k k' id hk;simp at *; omega)
  |ret=>
   obtain⟨todo,hs⟩:=x4m
   refine⟨todo,same _ hs (fun e=>?_)⟩
   simp only[lone,Machine.mk.injEq]at e
   have:=e.2.1
   simp[Frame.at]at this
  |goto=>exact hq2.elim
  |panic=>exact hq2.elim
  |outgrown=>exact hq2.elim
 |exit id=>exact pass (.exit id) (by simp) hq harr
 |ret=>exact pass .ret (by simp) hq harr
 |goto l=>exact pass (.goto l) (by simp) hq harr
 |panic ch=>exact pass (.panic ch) (by simp) hq harr
 |outgrown=>exact pass .outgrown (by simp) hq harr
theorem x1G(h:Q .normal fr st):AWp P gl N n0 keep .skip Q fr st:=fun _ _ _ _ _ _ hc=>wp_skip ⟨fr,st,h,hc⟩
theorem x4n(h:Q .ret fr st):AWp P gl N n0 keep .ret Q fr st:=fun _ _ _ _ _ _ hc=>wp_ret ⟨fr,st,h,hc⟩
theorem u2n{id:Nat}(h:Q (.exit id) fr st):AWp P gl N n0 keep (.exit id) Q fr st:=fun _ _ _ _ _ _ hc=>wp_exit ⟨fr,st,h,hc⟩
theorem x1Y{id:Nat}{c:Code}(h:AWp P gl N n0 keep c (AQ.block id Q) fr st):AWp P gl N n0 keep (.block id c) Q fr st:=
 fun w0 μ0 st0 hl a w hc=>wp_block (wp_mono (h w0 μ0 st0 hl a w hc) fun e a' w' hq=>by
  cases e with
  |normal=>exact hq
  |exit i=>
   obtain⟨fr',st',h1,h2⟩:=hq
   simp only[AQ.block]at h1
   simp only[Exit.inBlock]
   split
   ·rename_i e;rw[if_pos e]at h1;exact⟨fr',st',h1,h2⟩
   ·rename_i e;rw[if_neg e]at h1;exact⟨fr',st',h1,h2⟩
  |ret=>exact hq
  |goto=>exact hq
  |panic=>exact hq
  |outgrown=>exact hq)
theorem x5R{c:Operand}{x y:Code}{t:Bool}(hc:ev gl fr c= .bool t)(hx:t=true→AWp P gl N n0 keep x Q fr st)(hy:t=false→AWp P gl N n0 keep y Q fr st):AWp P gl N n0 keep (.cond c x y) Q fr st:=by
 intro w0 μ0 st0 hl a w hcc
 obtain⟨μ,hcn⟩:=hcc
 have hv:=w6y hcn.fr hcn.glob c
 rw[hc]at hv
 exact wp_cond_split (u3Y hv) (fun e=>hx e w0 μ0 st0 hl a w ⟨μ,hcn⟩) (fun e=>hy e w0 μ0 st0 hl a w ⟨μ,hcn⟩)
theorem w8h{id:Nat}{l:List Oper}(h:Run P gl N l.toArray l ⟨fr,st,True⟩ (fun fr st=>Q .normal (Fr.only keep fr) st)):AWp P gl N n0 keep (.region id l.toArray false) Q fr st:=by
 intro w0 μ0 st0 hl a w ⟨μ,hc⟩
 refine wp_region ?_
 have:=u5k (P:=P) (gl:=gl) (N:=N) (ops:=l.toArray) (w0:=w0) (μ0:=μ0) (st0:=st0) (Q:=cq gl N w0 μ0 st0 Q) (fun fr st a w μ hk hc=>⟨_,_,hk,μ,hc.sim,hc.glob,hc.fr.only keep,hc.size,hc.defers,hc.step⟩) l 0 rfl ⟨fr,st,True⟩ a w μ hc h
 rw[List.range_eq_range']
 simpa using this
theorem u5y{c:Code}{Q':AQ}(h:AWp P gl N n0 keep c Q fr st)(hq:∀e fr st,Q e fr st→Q' e fr st):AWp P gl N n0 keep c Q' fr st:=
 fun w0 μ0 st0 hl a w hc=>wp_mono (h w0 μ0 st0 hl a w hc) fun e a' w' hq'=>by
  cases e with
  |normal=>obtain⟨f,s,h1,h2⟩:=hq';exact⟨f,s,hq _ _ _ h1,h2⟩
  |exit i=>obtain⟨f,s,h1,h2⟩:=hq';exact⟨f,s,hq _ _ _ h1,h2⟩
  |ret=>obtain⟨f,s,h1,h2⟩:=hq';exact⟨f,s,hq _ _ _ h1,h2⟩
  |goto=>exact hq'
  |panic=>exact hq'
  |outgrown=>exact hq'
theorem x4o{c:Code}{p:Prop}(hp:∀(w:World) (μ:Mu) (tmps:Array Value),Sim w μ st→FR w μ st tmps fr→p)(h:p→AWp P gl N n0 keep c Q fr st):AWp P gl N n0 keep c Q fr st:=
 fun w0 μ0 st0 hl a w ⟨μ,hc⟩=>h (hp w μ a.tmps hc.sim hc.fr) w0 μ0 st0 hl a w ⟨μ,hc⟩
def Fr.leq:Fr→Fr→Prop
 | [],_=>True
 |(k,d)::r,fr=>fr.get k=d∧Fr.leq r fr
theorem Fr.w9m:∀(r fr:Fr),Fr.leq r fr→∀t,r.get t=fr.get t∨r.get t= .any
 | [],_,_,_=>.inr rfl
 |(k,d)::r,fr,h,t=>by
  simp only[Fr.get]
  split
  ·rename_i e;subst e;exact .inl h.1.symm
  ·exact Fr.w9m r fr h.2 t
theorem u5z{c:Code}{fr':Fr}(hl:Fr.leq fr' fr)(h:AWp P gl N n0 keep c Q fr' st):AWp P gl N n0 keep c Q fr st:=
 fun w0 μ0 st0 hl0 a w ⟨μ,hc⟩=>h w0 μ0 st0 hl0 a w ⟨μ,hc.sim,hc.glob,fun t=>by
  rcases Fr.w9m fr' fr hl t with e|e
  ·rw[e];exact hc.fr t
  ·rw[e];exact .any _,hc.size,hc.defers,hc.step⟩
def Fr.sc(n:Nat):Fr→Prop
 | []=>True
 |(_,d)::r=>D.sc n d∧Fr.sc n r
theorem Fr.w9n{n:Nat}:∀(fr:Fr),Fr.sc n fr→∀t,D.sc n (fr.get t)
 | [],_,_=>trivial
 |(k,d)::r,h,t=>by
  simp only[Fr.get]
  split
  ·exact h.1
  ·exact Fr.w9n r h.2 t
def u4a(P:Program)(st:St)(fr:Fr):ResultVar→LR
 | .tmp t=>{ d:=fr.get t,ok:=True }
 | .cell a t=>(w1C (r5c P t) (look st) (fr.get a)).and ((r5c P t).k≠ .none)
def y0N(P:Program)(fn:Func)(fr:Fr)(st:St):D:=
 match fn.results.toList with
 | [r]=>(u4a P st fr r).d
 |rs=>.tup (rs.map fun r=>(u4a P st fr r).d)
def x9z(P:Program)(fn:Func)(fr:Fr)(st:St):Prop:=∀r∈fn.results.toList,(u4a P st fr r).ok
def w2K:Nat→List D→Fr
 | _,[]=>[]
 |i,d::r=>(i,d)::w2K (i+1) r
theorem w4e:∀(l:List D) (i t:Nat),(w2K i l).get t=if h:i≤t∧t-i<l.length then l[t-i]else .any
 | [],i,t=>by simp[w2K,Fr.get]
 |d::r,i,t=>by
  simp only[w2K,Fr.get]
  by_cases h:i=t
  ·subst h;simp
  ·rw[if_neg h,w4e r (i+1) t]
   by_cases h2:i+1≤t∧t-(i+1)<r.length
   ·rw[dif_pos h2,dif_pos ⟨by omega,by simp;omega⟩]
    have:t-i=(t-(i+1))+1:=by omega
    simp[this]
   ·rw[dif_neg h2,dif_neg (by simp;omega)]
def w6A(tmps:Array Value):ResultVar→Sem Value
 | .tmp t=>pure (tmps.getD t undef)
 | .cell a t=>do loadVar t (←asAddr (tmps.getD a undef))
theorem w9o{fn:Func}{w:World}{μ:Mu}{tmps:Array Value}(hs:Sim w μ st)(hf:FR w μ st tmps fr)(hok:x9z P fn fr st):
 ∃v,(results fn tmps).run P w= .ok v w∧VR w μ st v (y0N P fn fr st):=by
 have one:∀r:ResultVar,(u4a P st fr r).ok→∃v,(w6A tmps r).run P w= .ok v w∧VR w μ st v (u4a P st fr r).d:=by
  intro r hr
  cases r with
  |tmp t=>exact⟨_,rfl,hf t⟩
  |cell a t=>
   obtain⟨hk,hok⟩:=hr
   obtain⟨v,h1,h2⟩:=w1V (P:=P) (t:=t) hs (hf a) hok hk
   refine⟨v,?_,h2⟩
   have:∃ad,tmps.getD a undef= .pointer (some ad):=by
    cases hd:fr.get a<;>rw[hd]at hok<;>first|(exact hok.elim)|skip
    ·have:=hf a;rw[hd]at this;obtain⟨ad,e,_⟩:=w1U this;exact⟨ad,e⟩
    ·have:=hf a;rw[hd]at this
     generalize tmps.getD a undef=u at this
     cases this with
     |tr h=>cases h
     |ptr _ _ _ _ _ hv=>exact hv
   obtain⟨ad,e⟩:=this
   simp only[w6A]
   rw[e]at h1⊢
   simpa[Instr.loadAt,Instr.sureAddr,asAddr]using h1
 have many:∀rs:List ResultVar,(∀r∈rs,(u4a P st fr r).ok)→∃vs:List Value,(rs.mapM (w6A tmps)).run P w= .ok vs w∧
  vs.length=rs.length∧∀j (h:j<rs.length) (h2:j<vs.length),VR w μ st (vs[j]) (u4a P st fr rs[j]).d:=by
  intro rs
  induction rs with
  |nil=>exact fun _=>⟨[],rfl,rfl,fun j h=>absurd h (Nat.not_lt_zero _)⟩
  |cons r rs ih=>
   intro h
   obtain⟨v,h1,h2⟩:=one r (h r (by simp))
   obtain⟨vs,h3,h4,h5⟩:=ih (fun r hr=>h r (by simp[hr]))
   refine⟨v::vs,by simp only[List.mapM_cons,Sem.run_bind,h1,h3,Result.andThen_ok];rfl,by simp[h4],fun j hj hj2=>?_⟩
   cases j with
   |zero=>exact h2
   |succ j=>exact h5 j (by simpa using hj) (by simpa using hj2)
 obtain⟨vs,h1,h2,h3⟩:=many fn.results.toList hok
 have y1V:results fn tmps=(fn.results.mapM (w6A tmps) >>= fun vs=>pure (if h:vs.size=1 then vs[0]else .tuple vs)):=by
  unfold results
  congr 2
 have hrun:(results fn tmps).run P w= .ok (if h:vs.toArray.size=1 then vs.toArray[0]else .tuple vs.toArray) w:=by
  rw[y1V,Array.mapM_eq_mapM_toList]
  simp only[Sem.run_bind,Sem.run_map,h1,Result.andThen_ok,Sem.run_pure]
 refine⟨_,hrun,?_⟩
 unfold y0N
 by_cases hl:vs.length=1
 ·rw[dif_pos (by simpa using hl)]
  obtain⟨r,hr⟩:=List.length_eq_one_iff.1 (h2.symm.trans hl)
  rw[hr]at h3
  simp only[hr]
  exact h3 0 (by simp) (by omega)
 ·rw[dif_neg (by simpa using hl)]
  have hm:∀rs:List ResultVar,rs.length≠1→(match rs with| [r]=>(u4a P st fr r).d|rs=>.tup (rs.map fun r=>(u4a P st fr r).d))= .tup (rs.map fun r=>(u4a P st fr r).d):=by
   intro rs hn
   match rs,hn with
   | [],_=>rfl
   | [r],hn=>simp at hn
   | _::_::_,_=>rfl
  rw[hm _ (by rw[←h2];exact hl)]
  refine .tup _ _ (fun j hj _=>by simpa[h2]using hj) (fun j hj=>?_)
  simp at hj
  have hj2:j<vs.length:=by rw[h2];simpa using hj
  rw[u4S (v:=vs[j]) (by simp[hj2])]
  have h4:=h3 j (by simpa using hj) hj2
  simpa using h4
end
def opk:Op→Nat
 | .call { callee:=.value _,.. }=>2
 | .alloc _| .box _ _| .buildSlice _ _ _| .makeMap _ _| .makeSlice _ _ _| .range _ _| .call { callee:=.builtin .append,.. }=>1
 | _=>0
section
variable {P:Program} {gl:Gl} {N n0:Nat} {ops:Array Oper} {keep:List Nat} {Q:AQ} {fr:Fr} {st:St}
theorem u5A(op:Op):(opk op=0→u2i op=none∧needs op=false)∧(opk op=1→u2i op=none∧needs op=true):=by
 cases op<;>first|exact⟨fun _=>⟨rfl,rfl⟩,fun h=>by cases h⟩|exact⟨fun h=>(by cases h),fun _=>⟨rfl,rfl⟩⟩|skip
 rename_i c
 obtain⟨callee,args,argTypes⟩:=c
 cases callee with
 |builtin b=>cases b<;>first|exact⟨fun _=>⟨rfl,rfl⟩,fun h=>by cases h⟩|exact⟨fun h=>(by cases h),fun _=>⟨rfl,rfl⟩⟩
 |value f=>exact⟨fun h=>(by cases h),fun h=>by cases h⟩
 |invoke r m=>exact⟨fun _=>⟨rfl,rfl⟩,fun h=>by cases h⟩
def x6M(want:Bool):D→Option Bool
 | .bool b=>some (b==want)
 | .cond c (.bool b)=>some (c&&(b==want))
 | _=>none
def dlt(N:Nat):Option Nat→Prop
 |some t=>t<N
 |none=>True
def gslot(ops:Array Oper)(j:Nat):Option Nat:=(ops[j]?).bind (·.dst)
def EvR(N:Nat)(dst:Option Nat)(fr:Fr)(st:St)(k:Fr→St→Prop)(r:LR):Prop:=r.ok∧dlt N dst∧k (fr.u5c dst r.d) (r.w5H st)
def EvC(P:Program)(gl:Gl)(N:Nat)(dst:Option Nat)(fr:Fr)(st:St)(k:Fr→St→Prop)(ok:Prop)(f:D)(args:List D):Prop:=
 match f with
 | .fn g first cap=>dlt N dst∧ok∧Spec P gl g (first++args++cap) st fun d st'=>k (fr.u5c dst d) st'
 | _=>False
def u5Z(G:Bool)(p:Prop):Prop:=G=true→p
def x6N(N:Nat)(G:Bool)(dst:Option Nat)(fr:Fr)(st:St)(k:Fr→St→Prop)(r:LR):Prop:=
 u5Z G r.ok∧dlt N dst∧k (fr.u5c dst (.cond G r.d)) (bif G then r.w5H st else st)
def w8i(P:Program)(gl:Gl)(G:Bool)(dst:Option Nat)(fr:Fr)(st:St)(k:Fr→St→Prop)(g:FuncId)(args:List D):Prop:=
 ∃r ups,(G=true→Spec P gl g args st fun d st'=>d=r∧st'=puts st ups)∧(G=false→puts st ups=st)∧k (fr.u5c dst (.cond G r)) (puts st ups)
def x5S(P:Program)(gl:Gl)(N:Nat)(G:Bool)(dst:Option Nat)(fr:Fr)(st:St)(k:Fr→St→Prop)(ok:Prop)(f:D)(args:List D):Prop:=
 match f with
 | .fn g first cap=>dlt N dst∧ok∧w8i P gl G dst fr st k g (first++args++cap)
 | _=>False
def Ev0(P:Program)(gl:Gl)(N:Nat)(k:Fr→St→Prop)(dst:Option Nat)(op:Op)(fr:Fr)(st:St):Nat→Prop
 |0=>EvR N dst fr st k (aop P gl true op fr (look st) 0)
 |1=>EvR N dst fr st k (aop P gl true op fr (look (st++[some .resv])) st.length)
 | _=>match op with
  | .call ⟨.value f,args,_⟩=>EvC P gl N dst fr st k (eok gl true fr f∧(∀x∈args.toList,eok gl true fr x)) (ev1 gl fr f) (args.toList.map (ev1 gl fr))
  | _=>False
def EvG(P:Program)(gl:Gl)(N:Nat)(k:Fr→St→Prop)(dst:Option Nat)(op:Op)(fr:Fr)(st:St):Nat→Option Bool→Prop
 |0,some G=>x6N N G dst fr st k (aop P gl G op fr (look st) 0)
 |2,some G=>match op with
  | .call ⟨.value f,args,_⟩=>x5S P gl N G dst fr st k (eok gl G fr f∧(∀x∈args.toList,eok gl G fr x)) (ev1 gl fr f) (args.toList.map (ev1 gl fr))
  | _=>False
 | _,_=>False
def x1Z(fr:Fr)(want:Bool):Option Nat→Option Bool
 |some t=>x6M want (fr.get t)
 |none=>none
def Ev(P:Program)(gl:Gl)(N:Nat)(ops:Array Oper)(K:Fr→St→Prop):List Oper→Fr→St→Prop
 | [],fr,st=>K fr st
 |⟨dst,op,_,_,_,none⟩::l,fr,st=>Ev0 P gl N (Ev P gl N ops K l) dst op fr st (opk op)
 |⟨dst,op,_,_,_,some (j,want)⟩::l,fr,st=>EvG P gl N (Ev P gl N ops K l) dst op fr st (opk op) (x1Z fr want (gslot ops j))
theorem w9p{fr:Fr}{dst:Option Nat}{op:Op}{ty:TypeId}{pos:String}{af:Array Edge}{j:Nat}{want G:Bool}(hg:x1Z fr want (gslot ops j)=some G):
 guardOf ops fr ⟨dst,op,ty,pos,af,some (j,want)⟩=G∧u2O ops fr ⟨dst,op,ty,pos,af,some (j,want)⟩=True:=by
 unfold gslot at hg
 cases hj:(ops[j]?).bind (·.dst)with
 |none=>rw[hj]at hg;cases hg
 |some t=>
  rw[hj]at hg
  simp only[guardOf,u2O,hj]
  simp only[x1Z]at hg
  cases hd:fr.get t<;>rw[hd]at hg<;>simp only[x6M]at hg<;>first|(cases hg;done)|skip
  ·cases hg;exact⟨rfl,rfl⟩
  ·rename_i c d
   cases d<;>simp only at hg<;>first|(cases hg;done)|skip
   cases hg;exact⟨rfl,rfl⟩
theorem u5B{op:Op}(h:opk op≠0)(h1:opk op≠1):∃f args ats,op= .call ⟨.value f,args,ats⟩:=by
 cases op<;>first|exact absurd rfl h|exact absurd rfl h1|skip
 rename_i c
 obtain⟨callee,args,argTypes⟩:=c
 cases callee with
 |builtin b=>cases b<;>first|exact absurd rfl h|exact absurd rfl h1
 |value f=>exact⟨f,args,argTypes,rfl⟩
 |invoke r m=>exact absurd rfl h
theorem w2d{K:Fr→St→Prop}:∀(l:List Oper) (fr:Fr) (st:St) (ok:Prop),ok→Ev P gl N ops K l fr st→Run P gl N ops l ⟨fr,st,ok⟩ K
 | [],fr,st,ok,hok,h=>⟨hok,h⟩
 |⟨dst,op,ty,pos,af,none⟩::l,fr,st,ok,hok,h=>by
  simp only[Ev]at h
  by_cases h0:opk op=0
  ·rw[h0]at h
   obtain⟨a,b,c⟩:=h
   obtain⟨h1,h2⟩:=(u5A op).1 h0
   simp only[Run,h1]
   have:=w2d l _ _ (ok∧u7j N ⟨dst,op,ty,pos,af,none⟩∧True∧(true=true→(aop P gl true op fr (look st) 0).ok)) ⟨hok,b,trivial,fun _=>a⟩ c
   simpa only[r8n,h2,guardOf,u2O,w8K,cond_true,Bool.false_eq_true,if_false]using this
  ·by_cases h1:opk op=1
   ·rw[h1]at h
    obtain⟨a,b,c⟩:=h
    obtain⟨h1,h2⟩:=(u5A op).2 h1
    simp only[Run,h1]
    have:=w2d l _ _ (ok∧u7j N ⟨dst,op,ty,pos,af,none⟩∧True∧(true=true→(aop P gl true op fr (look (st++[some .resv])) st.length).ok)) ⟨hok,b,trivial,fun _=>a⟩ c
    simpa only[r8n,h2,guardOf,u2O,w8K,cond_true,if_true]using this
   ·obtain⟨f,args,ats,rfl⟩:=u5B h0 h1
    simp only[opk,Ev0,EvC]at h
    simp only[Run,u2i,guardOf,u2O]
    cases hf:ev1 gl fr f<;>rw[hf]at h<;>first|exact h.elim|skip
    obtain⟨a,⟨b,c⟩,d⟩:=h
    exact⟨hok,a,trivial,b,c,d.mono fun d st' h=>w2d l _ _ True trivial h⟩
 |⟨dst,op,ty,pos,af,some (j,want)⟩::l,fr,st,ok,hok,h=>by
  simp only[Ev]at h
  cases hg:x1Z fr want (gslot ops j)with
  |none=>rw[hg]at h;unfold EvG at h;split at h<;>first|exact h.elim|(rename_i e;cases e)
  |some G=>
   rw[hg]at h
   obtain⟨g1,g2⟩:=w9p (dst:=dst) (op:=op) (ty:=ty) (pos:=pos) (af:=af) hg
   by_cases h0:opk op=0
   ·rw[h0]at h
    obtain⟨a,b,c⟩:=h
    obtain⟨h1,h2⟩:=(u5A op).1 h0
    simp only[Run,h1]
    have:=w2d l _ _ (ok∧u7j N ⟨dst,op,ty,pos,af,some (j,want)⟩∧True∧(G=true→(aop P gl G op fr (look st) 0).ok)) ⟨hok,b,trivial,a⟩ c
    simpa only[r8n,h2,g1,g2,w8K,Bool.false_eq_true,if_false]using this
   ·by_cases h1:opk op=1
    ·rw[h1]at h;exact h.elim
    ·obtain⟨f,args,ats,rfl⟩:=u5B h0 h1
     simp only[opk,EvG,x5S]at h
     simp only[Run,u2i,g1,g2]
     cases hf:ev1 gl fr f<;>rw[hf]at h<;>first|exact h.elim|skip
     obtain⟨a,⟨b,c⟩,r,ups,d,d2,e⟩:=h
     exact⟨hok,a,trivial,b,c,r,ups,d,d2,w2d l _ _ True trivial e⟩
theorem er_{id:Nat}{l:List Oper}(h:Ev P gl N l.toArray (fun fr st=>Q .normal (Fr.only keep fr) st) l fr st):AWp P gl N n0 keep (.region id l.toArray false) Q fr st:=
 w8h (w2d _ _ _ _ trivial h)
def Then(P:Program)(gl:Gl)(N n0:Nat)(keep:List Nat)(c:Code)(Q:AQ)(fr:Fr)(st:St):Prop:=AWp P gl N n0 keep c Q (Fr.only keep fr) st
theorem then_eq{c:Code}:Then P gl N n0 keep c Q fr st=AWp P gl N n0 keep c Q (Fr.only keep fr) st:=rfl
@[congr] theorem x8O{l:List Oper}{K:Fr→St→Prop}{fr fr':Fr}{st st':St}(h:fr=fr')(h2:st=st'):Ev P gl N ops K l fr st=Ev P gl N ops K l fr' st':=by rw[h,h2]
@[congr] theorem x6O{dst:Option Nat}{k:Fr→St→Prop}{r r':LR}(h:r=r'):EvR N dst fr st k r=EvR N dst fr st k r':=by rw[h]
@[congr] theorem x5T{G:Bool}{dst:Option Nat}{k:Fr→St→Prop}{r r':LR}(h:r=r'):x6N N G dst fr st k r=x6N N G dst fr st k r':=by rw[h]
@[congr] theorem x6P{dst:Option Nat}{op:Op}{k:Fr→St→Prop}{n n':Nat}(h:n=n'):Ev0 P gl N k dst op fr st n=Ev0 P gl N k dst op fr st n':=by rw[h]
@[congr] theorem x6Q{dst:Option Nat}{op:Op}{k:Fr→St→Prop}{n n':Nat}{g g':Option Bool}(h:n=n')(h2:g=g'):EvG P gl N k dst op fr st n g=EvG P gl N k dst op fr st n' g':=by rw[h,h2]
@[congr] theorem x6R{dst:Option Nat}{k:Fr→St→Prop}{a a':Prop}{f f':D}{args args':List D}(h:a=a')(h2:f=f')(h3:args=args'):EvC P gl N dst fr st k a f args=EvC P gl N dst fr st k a' f' args':=by rw[h,h2,h3]
@[congr] theorem x5U{G:Bool}{dst:Option Nat}{k:Fr→St→Prop}{a a':Prop}{f f':D}{args args':List D}(h:a=a')(h2:f=f')(h3:args=args'):x5S P gl N G dst fr st k a f args=x5S P gl N G dst fr st k a' f' args':=by rw[h,h2,h3]
@[congr] theorem x6S{c:Code}{fr fr':Fr}{st st':St}(h:fr=fr')(h2:st=st'):AWp P gl N n0 keep c Q fr st=AWp P gl N n0 keep c Q fr' st':=by rw[h,h2]
@[congr] theorem x5V{f:FuncId}{args args':List D}{st st':St}{R:D→St→Prop}(h:args=args')(h2:st=st'):Spec P gl f args st R=Spec P gl f args' st' R:=by rw[h,h2]
def rsD(P:Program)(fr:Fr)(st:St):List ResultVar→D
 | [r]=>(u4a P st fr r).d
 |rs=>.tup (rs.map fun r=>(u4a P st fr r).d)
def x5W(P:Program)(fr:Fr)(st:St):List ResultVar→Prop
 | []=>True
 |r::l=>(u4a P st fr r).ok∧x5W P fr st l
def ends(n0:Nat)(R:D→St→Prop)(d:D)(st:St):Prop:=∃s t,st=s++t∧n0≤s.length∧D.sc s.length d∧u4w s.length s∧R d s
def x9A(P:Program)(rs:List ResultVar)(n0:Nat)(R:D→St→Prop):AQ
 | .exit _,_,_=>False
 | _,fr,st=>x5W P fr st rs∧ends n0 R (rsD P fr st rs) st
theorem w6B{fr:Fr}{st:St}:∀(rs:List ResultVar),x5W P fr st rs→∀r∈rs,(u4a P st fr r).ok
 |r::l,h,x,hx=>by
  rcases List.mem_cons.1 hx with e|e
  ·subst e;exact h.1
  ·exact w6B l h.2 x e
@[congr] theorem x5X{n:Nat}{st st':St}{R:D→St→Prop}{d d':D}(h:d=d')(h2:st=st'):ends n R d st=ends n R d' st':=by rw[h,h2]
variable {dst:Option Nat} {k:Fr→St→Prop} {p:Prop} {d:D} {rd:List Nat} {o:Nat} {ob:Ob} {G:Bool} {K:Fr→St→Prop} {op:Op} {l:List Oper}
@[congr] theorem x4p{f:FuncId}{args args':List D}(h:args=args'):w8i P gl G dst fr st k f args=w8i P gl G dst fr st k f args':=by rw[h]
theorem y0O:Ev P gl N ops K [] fr st=K fr st:=rfl
theorem y0P{o:Oper}{l':List Oper}:Ev P gl N ops K (List.append (o::l) l') fr st=Ev P gl N ops K (o::List.append l l') fr st:=rfl
theorem x9B{l':List Oper}:Ev P gl N ops K (List.append [] l') fr st=Ev P gl N ops K l' fr st:=rfl
theorem x9C{ty:TypeId}{pos:String}{af:Array Edge}:Ev P gl N ops K (⟨dst,op,ty,pos,af,none⟩::l) fr st=Ev0 P gl N (Ev P gl N ops K l) dst op fr st (opk op):=rfl
theorem x8P{ty:TypeId}{pos:String}{af:Array Edge}{j:Nat}{want:Bool}:Ev P gl N ops K (⟨dst,op,ty,pos,af,some (j,want)⟩::l) fr st=EvG P gl N (Ev P gl N ops K l) dst op fr st (opk op) (x1Z fr want (gslot ops j)):=rfl
theorem y1W:Ev0 P gl N k dst op fr st 0=EvR N dst fr st k (aop P gl true op fr (look st) 0):=rfl
theorem y1X:Ev0 P gl N k dst op fr st 1=EvR N dst fr st k (aop P gl true op fr (look (st++[some .resv])) st.length):=rfl
theorem y1Y{f:Operand}{args:Array Operand}{ats:Array TypeId}:Ev0 P gl N k dst (.call ⟨.value f,args,ats⟩) fr st 2=EvC P gl N dst fr st k (eok gl true fr f∧(∀x∈args.toList,eok gl true fr x)) (ev1 gl fr f) (args.toList.map (ev1 gl fr)):=rfl
theorem y1Z:EvG P gl N k dst op fr st 0 (some G)=x6N N G dst fr st k (aop P gl G op fr (look st) 0):=rfl
theorem y2a{f:Operand}{args:Array Operand}{ats:Array TypeId}:EvG P gl N k dst (.call ⟨.value f,args,ats⟩) fr st 2 (some G)=x5S P gl N G dst fr st k (eok gl G fr f∧(∀x∈args.toList,eok gl G fr x)) (ev1 gl fr f) (args.toList.map (ev1 gl fr)):=rfl
theorem x6T{t:Nat}{want:Bool}:x1Z fr want (some t)=x6M want (fr.get t):=rfl
theorem x6U{b want:Bool}:x6M want (.bool b)=some (b==want):=rfl
theorem x6V{c b want:Bool}:x6M want (.cond c (.bool b))=some (c&&(b==want)):=rfl
theorem y2b:EvR N dst fr st k ⟨d,p,rd,none,none⟩=(p∧dlt N dst∧k (fr.u5c dst d) st):=rfl
theorem y2c:EvR N dst fr st k ⟨d,p,rd,some (o,ob),none⟩=(p∧dlt N dst∧k (fr.u5c dst d) (st.set o (some ob))):=rfl
theorem y2d:EvR N dst fr st k ⟨d,p,rd,none,some ob⟩=(p∧dlt N dst∧k (fr.u5c dst d) (st++[some ob])):=rfl
theorem y0Q:x6N N G dst fr st k ⟨d,p,rd,none,none⟩=(u5Z G p∧dlt N dst∧k (fr.u5c dst (.cond G d)) st):=by cases G<;>rfl
theorem y0R{g:FuncId}{first cap args:List D}:EvC P gl N dst fr st k p (.fn g first cap) args=(dlt N dst∧p∧Spec P gl g (first++args++cap) st fun d st'=>k (fr.u5c dst d) st'):=rfl
theorem x9D{g:FuncId}{first cap args:List D}:x5S P gl N G dst fr st k p (.fn g first cap) args=(dlt N dst∧p∧w8i P gl G dst fr st k g (first++args++cap)):=rfl
theorem u0C{f:FuncId}{args:List D}{r:D}(h:G=true→Pure P gl f args r)(hk:k (fr.u5c dst (.cond G r)) st):
 w8i P gl G dst fr st k f args:=
 ⟨r,[],fun e=>h e st,fun _=>rfl,hk⟩
theorem x8Q{t:Nat}:dlt N (some t)=(t<N):=rfl
theorem x8R:dlt N none=True:=rfl
theorem y0S{up:Option (Nat×Ob)}{nw:Option Ob}{q:Prop}:(LR.mk d p rd up nw).and q=⟨d,q∧p,rd,up,nw⟩:=rfl
variable {keep:List Nat}
theorem get_nil{t:Nat}:Fr.get [] t= .any:=rfl
theorem x2b{t k':Nat}{fr:Fr}:Fr.get ((k',d)::fr) t=if k'=t then d else Fr.get fr t:=rfl
theorem x4q{t:Nat}:Fr.put [] t d=[(t,d)]:=rfl
theorem x2c{t k':Nat}{e:D}{fr:Fr}:Fr.put ((k',e)::fr) t d=if k'=t then(k',d)::fr else(k',e)::Fr.put fr t d:=rfl
theorem w9q{t:Nat}:Fr.u5c fr (some t) d=fr.put t d:=rfl
theorem w9r:Fr.u5c fr none d=fr:=rfl
theorem x2d:Fr.only keep []=[]:=rfl
theorem w9s{t:Nat}{fr:Fr}:Fr.only keep ((t,d)::fr)=if keep.contains t then(t,d)::Fr.only keep fr else Fr.only keep fr:=rfl
theorem u4b{s t:St}{k':Nat}:look (s++t) (s.length+k')=look t k':=by
 unfold look;rw[List.getElem?_append_right (by omega)];congr 2;omega
theorem u3p{s t:St}:look (s++t) s.length=look t 0:=by
 unfold look;rw[List.getElem?_append_right (by omega)];simp
theorem w8j{x:Option Ob}{t:St}:look (x::t) 0=x:=by cases x<;>rfl
theorem w8k{x:Option Ob}{t:St}{k':Nat}:look (x::t) (k'+1)=look t k':=rfl
theorem w9t{s t:St}{k':Nat}{x:Option Ob}:(s++t).set (s.length+k') x=s++t.set k' x:=by
 rw[List.set_append_right _ _ (by omega)];congr 2;omega
theorem x2e{s t:St}{x:Option Ob}:(s++t).set s.length x=s++t.set 0 x:=by
 rw[List.set_append_right _ _ (by omega)];simp
theorem x2f{b:Bool}:D.one (.bool b)=true:=rfl
theorem x4r{k:IntKind}{n:Int}:D.one (.int k n)=true:=rfl
theorem x4s{s:Bs}:D.one (.str s)=true:=rfl
theorem x2g:D.one .u6b=true:=rfl
theorem x2h:D.one .r5g=true:=rfl
theorem x2i:D.one .u3I=true:=rfl
theorem x2j:D.one .u4v=true:=rfl
theorem x6W{f:Bool}{n b:Nat}{es:List (List D)}:D.one (.sl f n b es)=true:=rfl
theorem x6X{f:Nat}{a b:List D}:D.one (.fn f a b)=true:=rfl
theorem x2k{cs:List D}:D.one (.u8j cs)=true:=rfl
theorem x4t{f:Bool}{o g a b:Nat}:D.one (.ref f o g a b)=true:=rfl
theorem x4u{o g i c:Nat}:D.one (.ptr o g i c)=true:=rfl
theorem x6Y{o:Nat}:D.one (.mp o)=true:=rfl
theorem x6Z{o:Nat}:D.one (.it o)=true:=rfl
theorem x2l{cs:List D}:D.one (.agg cs)=false:=rfl
theorem x9E{cs:List D}:mkv true cs= .agg cs:=rfl
theorem x9F{x:D}{cs:List D}:mkv false (x::cs)=x:=rfl
end
attribute [go_sem] y0P x9B y0O x9C x8P y1W y1X y1Y y1Z y2a x6T x6U x6V y2b y2c y2d y0Q y0R x9D x8Q x8R y0S
 then_eq opk aop ev1 ev eok strip w2J get_nil x2b x4q x2c w9q w9r x2d w9s u4b u3p w8j w8k w9t x2e
 w2K w1S w1C u6X x6D u0w u7y r7B u4E u5U u7A u7F u3X r8Q u1C u7b u9n u2N r9i u8m aEq aUn u2t u0J u3M r8g w8T x1N x1O x3v u7G
 D.plain cellsOf u3v splice u5e w3S u3W u2r u4Q u5V x1M xOk w8c u6d nz nz1 assoc r5j u7g u7B r7g r6T w3R x9E x9F x2f x4r x4s x2g x2h x2i x2j x6W x6X x2k x4t x4u x6Y x6Z x2l w0l elemOf w0k keyOf strOf x1L TK.agg
 AQ.then AQ.block x9A u4a rsD x5W IntKind.signed
 eq_self true_and and_true and_self implies_true forall_const List.map_cons List.map_nil List.length_cons List.length_nil List.take_succ_cons List.take_zero List.drop_succ_cons List.drop_zero w8b List.cons_append List.nil_append List.append_nil List.all_cons List.all_nil Bool.and_self Bool.and_true Bool.true_and Bool.and_false Bool.false_and
 List.getD_cons_zero List.getD_cons_succ List.getD_nil List.set_cons_zero List.set_cons_succ List.getElem?_cons_zero List.getElem?_cons_succ ne_eq not_false_eq_true Bool.false_eq_true if_true if_false cond_true cond_false List.mem_cons List.not_mem_nil or_false forall_eq forall_eq_or_imp List.append_assoc List.length_append List.replicate_zero List.replicate_succ not_true_eq_false beq_self_eq_true Bool.not_true Bool.not_false List.contains_cons List.contains_nil Bool.or_true Bool.true_or Bool.or_false Bool.false_or
section
variable {P:Program} {gl:Gl} {fr fr':Fr} {lk lk':Look} {q:Nat} {g:Bool} {op:Op}
theorem x7a(H:∀x∈op.operands,ev gl fr x=ev gl fr' x):aop P gl g op fr lk q=aop P gl g op fr' lk q:=by
 have H1:∀x∈op.operands,ev1 gl fr x=ev1 gl fr' x:=fun x h=>by simp only[ev1,H x h]
 have H2:∀g x,x∈op.operands→eok gl g fr x=eok gl g fr' x:=fun g x h=>by simp only[eok,H x h]
 cases op with
 |pick c a b=>
  have k1:=H1 c (by simp[Op.operands])
  have k2:=H1 a (by simp[Op.operands])
  have k3:=H1 b (by simp[Op.operands])
  simp only[aop,k1,k2,k3,fun g=>H2 g c (by simp[Op.operands]),fun g=>H2 g a (by simp[Op.operands]),fun g=>H2 g b (by simp[Op.operands])]
 |build t ps=>
  have h1:(ps.toList.map fun p=>(p.1,ev1 gl fr p.2))=ps.toList.map fun p=>(p.1,ev1 gl fr' p.2):=List.map_congr_left fun p hp=>by rw[H1 p.2 (by simp only[Op.operands,List.mem_toArray,List.mem_map];exact⟨p,hp,rfl⟩)]
  have h2:(∀p∈ps.toList,eok gl g fr p.2)= ∀p∈ps.toList,eok gl g fr' p.2:=forall_congr fun p=>propext ⟨fun h hp=>by rw[←H2 g p.2 (by simp only[Op.operands,List.mem_toArray,List.mem_map];exact⟨p,hp,rfl⟩)];exact h hp,fun h hp=>by rw[H2 g p.2 (by simp only[Op.operands,List.mem_toArray,List.mem_map];exact⟨p,hp,rfl⟩)];exact h hp⟩
  simp only[aop,h1,h2]
 |buildSlice t len ps=>
  have h1:(ps.toList.map fun p=>(p.1,ev1 gl fr p.2))=ps.toList.map fun p=>(p.1,ev1 gl fr' p.2):=List.map_congr_left fun p hp=>by rw[H1 p.2 (by simp only[Op.operands,List.mem_toArray,List.mem_map];exact⟨p,hp,rfl⟩)]
  have h2:(∀p∈ps.toList,eok gl g fr p.2)= ∀p∈ps.toList,eok gl g fr' p.2:=forall_congr fun p=>propext ⟨fun h hp=>by rw[←H2 g p.2 (by simp only[Op.operands,List.mem_toArray,List.mem_map];exact⟨p,hp,rfl⟩)];exact h hp,fun h hp=>by rw[H2 g p.2 (by simp only[Op.operands,List.mem_toArray,List.mem_map];exact⟨p,hp,rfl⟩)];exact h hp⟩
  simp only[aop,h1,h2]
 |makeFunc f a b=>
  cases f with
  |func f=>
   have h1:∀c:Array Operand,(∀x∈c.toList,x∈(Op.makeFunc (.func f) a b).operands)→c.toList.map (ev1 gl fr)=c.toList.map (ev1 gl fr'):=fun c hc=>List.map_congr_left fun x hx=>H1 x (hc x hx)
   have h2:∀c:Array Operand,(∀x∈c.toList,x∈(Op.makeFunc (.func f) a b).operands)→(∀x∈c.toList,eok gl g fr x)= ∀x∈c.toList,eok gl g fr' x:=fun c hc=>
    forall_congr fun x=>propext ⟨fun h hx=>by rw[←H2 g x (hc x hx)];exact h hx,fun h hx=>by rw[H2 g x (hc x hx)];exact h hx⟩
   have ha:∀x∈a.toList,x∈(Op.makeFunc (.func f) a b).operands:=fun x hx=>by simp only[Op.operands,Array.mem_append];exact .inl (by simpa using hx)
   have hb:∀x∈b.toList,x∈(Op.makeFunc (.func f) a b).operands:=fun x hx=>by simp only[Op.operands,Array.mem_append];exact .inr (by simpa using hx)
   simp only[aop,h1 a ha,h1 b hb,h2 a ha,h2 b hb]
  | _=>rfl
 |makeMap t r=>cases r<;>rfl
 |slice t x lo hi mx=>
  have hx:=H1 x (by simp[Op.operands])
  have hx2:=H2 g x (by simp[Op.operands])
  have key:∀z:Option Operand,(∀y∈z,y∈(Op.slice t x lo hi mx).operands)→z.map (ev1 gl fr)=z.map (ev1 gl fr')∧(∀y∈z,eok gl g fr y)= ∀y∈z,eok gl g fr' y:=fun z hz=>by
   cases z with
   |none=>simp
   |some y=>have:=hz y rfl;simp[H1 y this,H2 g y this]
  obtain⟨a1,a2⟩:=key lo (fun y hy=>by cases hy;simp[Op.operands])
  obtain⟨b1,b2⟩:=key hi (fun y hy=>by cases hy;simp[Op.operands])
  obtain⟨c1,c2⟩:=key mx (fun y hy=>by cases hy;simp[Op.operands])
  simp only[aop,hx,hx2,a1,a2,b1,b2,c1,c2]
 |call c=>
  obtain⟨callee,args,ats⟩:=c
  cases callee with
  |value f=>rfl
  |invoke r m=>rfl
  |builtin b=>
   have h1:∀x∈args.toList,ev1 gl fr x=ev1 gl fr' x:=fun x hx=>H1 x (by simp only[Op.operands,Call.operands];simpa using hx)
   have h2:∀x∈args.toList,eok gl g fr x=eok gl g fr' x:=fun x hx=>H2 g x (by simp only[Op.operands,Call.operands];simpa using hx)
   simp only[aop]
   generalize args.toList=l at h1 h2
   split
   ·simp only[List.mem_cons,List.not_mem_nil,or_false,forall_eq]at h1 h2;rw[h1,h2]
   ·simp only[List.mem_cons,List.not_mem_nil,or_false,forall_eq_or_imp,forall_eq]at h1 h2;rw[h1.1,h1.2,h2.1,h2.2]
   ·simp only[List.mem_cons,List.not_mem_nil,or_false,forall_eq_or_imp,forall_eq]at h1 h2;rw[h1.1,h1.2,h2.1,h2.2]
   ·simp only[List.mem_cons,List.not_mem_nil,or_false,forall_eq_or_imp,forall_eq]at h1 h2;rw[h1.1,h1.2,h2.1,h2.2]
   ·simp only[List.mem_cons,List.not_mem_nil,or_false,forall_eq]at h1 h2;rw[h1,h2]
   ·rfl
 | _=>first|rfl|(simp only[Op.operands,List.mem_toArray,List.mem_cons,List.not_mem_nil,or_false,forall_eq_or_imp,forall_eq]at H1 H2;simp only[aop,H1,H2 g,true_or,or_true])
end
def D.top:D→Option Nat
 | .ref _ o _ _ _=>some o
 | .ptr o _ _ _=>some o
 | .mp o=>some o
 | .it o=>some o
 | _=>none
def Loc(f:Look→LR)(ds:List D):Prop:=
 ∀lk,(f lk).ok→(∀o∈(f lk).rd,(∃d∈ds,d.top=some o)∧∃ob,lk o=some ob∧ob≠ .resv)∧∀lk',(∀o∈(f lk).rd,lk' o=lk o)→f lk'=f lk
theorem r6j{r:LR}{ds:List D}(h:r.rd=[]):Loc (fun _=>r) ds:=fun _ _=>⟨fun o ho=>(by simp only at ho;rw[h]at ho;cases ho),fun _ _=>rfl⟩
theorem Loc.and{f:Look→LR}{ds:List D}(h:Loc f ds)(p:Prop):Loc (fun lk=>(f lk).and p) ds:=fun lk hok=>
 ⟨(h lk hok.2).1,fun lk' h'=>by show(f lk').and p=(f lk).and p;rw[(h lk hok.2).2 lk' h']⟩
theorem Loc.sub{f:Look→LR}{ds ds':List D}(h:Loc f ds)(hd:∀d∈ds,d∈ds'):Loc f ds':=fun lk hok=>
 ⟨fun o ho=>by obtain⟨⟨d,h1,h2⟩,h3⟩:=(h lk hok).1 o ho;exact⟨⟨d,hd d h1,h2⟩,h3⟩,(h lk hok).2⟩
section
variable {i e:TI} {d x key:D} {n q:Nat}
theorem w6C:Loc (fun lk=>w1C i lk d) [d]:=fun lk hok=>by
 cases d with
 |ptr o g k c=>
  simp only[w1C]at hok⊢
  cases h:lk o with
  |none=>rw[h]at hok;exact hok.elim
  |some ob=>
   rw[h]at hok
   cases ob with
   |arr g' n' b es=>
    simp only[List.mem_singleton,forall_eq]
    exact⟨⟨⟨_,rfl,rfl⟩,_,h,Ob.noConfusion⟩,fun lk' h'=>by rw[h',h]⟩
   | _=>exact hok.elim
 |u8j cs=>exact⟨fun o ho=>(by cases ho),fun _ _=>rfl⟩
 | _=>exact hok.elim
theorem w4f:Loc (fun lk=>u6X i lk x d) [d]:=fun lk hok=>by
 cases d with
 |ptr o g k c=>
  simp only[u6X]at hok⊢
  cases h:lk o with
  |none=>rw[h]at hok;exact hok.elim
  |some ob=>
   rw[h]at hok
   cases ob with
   |arr g' n' b es=>
    simp only[List.mem_singleton,forall_eq]
    exact⟨⟨⟨_,rfl,rfl⟩,_,h,Ob.noConfusion⟩,fun lk' h'=>by rw[h',h]⟩
   | _=>exact hok.elim
 | _=>exact hok.elim
theorem u7J{y:D}:Loc (fun lk=>r7B i e lk x y) [x]:=fun lk hok=>by
 cases y with
 |int kk m=>
  simp only[r7B]at hok⊢
  generalize i.k=ik at hok⊢
  cases ik with
  |slice e=>
   cases x with
   |ref full o g off len=>
    simp only at hok⊢
    cases h:lk o with
    |none=>rw[h]at hok;exact hok.elim
    |some ob=>
     rw[h]at hok
     cases ob with
     |arr g' n' b es=>
      simp only[List.mem_singleton,forall_eq]
      exact⟨⟨⟨_,rfl,rfl⟩,_,h,Ob.noConfusion⟩,fun lk' h'=>by rw[h',h]⟩
     | _=>exact hok.elim
   |sl full n' b es=>exact⟨fun o ho=>(by cases ho),fun _ _=>rfl⟩
   | _=>exact hok.elim
  |arr len e=>
   cases x with
   |ptr o g k c=>exact⟨fun o ho=>(by cases ho),fun _ _=>rfl⟩
   |u8j cs=>exact⟨fun o ho=>(by cases ho),fun _ _=>rfl⟩
   | _=>exact hok.elim
  | _=>exact hok.elim
 | _=>exact hok.elim
theorem w4g{lo hi mx:Option D}:Loc (fun lk=>u5U i n lk x lo hi mx) [x]:=fun lk hok=>by
 cases x with
 |ref full o g off len=>
  simp only[u5U]at hok⊢
  cases h:lk o with
  |none=>rw[h]at hok;exact hok.elim
  |some ob=>
   rw[h]at hok
   cases ob with
   |arr g' n' b es=>
    simp only[List.mem_singleton,forall_eq]
    exact⟨⟨⟨_,rfl,rfl⟩,_,h,Ob.noConfusion⟩,fun lk' h'=>by rw[h',h]⟩
   | _=>exact hok.elim
 |str s=>exact⟨fun o ho=>(by cases ho),fun _ _=>rfl⟩
 |sl full n' b es=>exact⟨fun o ho=>(by cases ho),fun _ _=>rfl⟩
 |r5g=>exact⟨fun o ho=>(by cases ho),fun _ _=>rfl⟩
 | _=>exact hok.elim
theorem w2e{ki vi:TI}{c:Bool}:Loc (fun lk=>u2N i ki vi lk c key d) [d]:=fun lk hok=>by
 cases d with
 |u4v=>
  simp only[u2N]at hok⊢
  cases key<;>first|(exact hok.elim)|exact⟨fun o ho=>(by cases ho),fun _ _=>by first|rfl|trivial|simp⟩
 |mp o=>
  simp only[u2N]at hok⊢
  cases h:lk o with
  |none=>rw[h]at hok;exact hok.elim
  |some ob=>
   rw[h]at hok
   cases ob<;>first|(exact hok.elim)|skip
   all_goals
    cases key<;>first|(exact hok.elim)|skip
    simp only[List.mem_singleton,forall_eq]
    exact⟨⟨⟨_,rfl,rfl⟩,_,h,Ob.noConfusion⟩,fun lk' h'=>by rw[h',h]⟩
 | _=>exact hok.elim
theorem w6D{b:Bool}:Loc (fun lk=>u9n lk b d) [d]:=fun lk hok=>by
 cases b with
 |false=>exact hok.elim
 |true=>
  cases d with
  |it o=>
   simp only[u9n]at hok⊢
   cases h:lk o with
   |none=>rw[h]at hok;exact hok.elim
   |some ob=>
    rw[h]at hok
    cases ob<;>first|(exact hok.elim)|skip
    all_goals
     simp only[List.mem_singleton,forall_eq]
     exact⟨⟨⟨_,rfl,rfl⟩,_,h,Ob.noConfusion⟩,fun lk' h'=>by rw[h',h]⟩
  | _=>exact hok.elim
theorem u7K{ki vi:TI}:Loc (fun lk=>r9i i ki vi lk key x d) [d]:=fun lk hok=>by
 cases d with
 |mp o=>
  simp only[r9i]at hok⊢
  cases h:lk o with
  |none=>rw[h]at hok;exact hok.elim
  |some ob=>
   rw[h]at hok
   cases ob<;>first|(exact hok.elim)|skip
   all_goals
    cases key<;>first|(exact hok.elim)|skip
    simp only[List.mem_singleton,forall_eq]
    exact⟨⟨⟨_,rfl,rfl⟩,_,h,Ob.noConfusion⟩,fun lk' h'=>by rw[h',h]⟩
 | _=>exact hok.elim
theorem w9u:Loc (fun lk=>w8T i lk d) [d]:=fun lk hok=>by
 cases d with
 |ref full o g off len=>
  simp only[w8T]at hok⊢
  cases h:lk o with
  |none=>rw[h]at hok;exact hok.elim
  |some ob=>
   rw[h]at hok
   cases ob with
   |arr g' n' b es=>
    simp only[List.mem_singleton,forall_eq]
    exact⟨⟨⟨_,rfl,rfl⟩,_,h,Ob.noConfusion⟩,fun lk' h'=>by rw[h',h]⟩
   | _=>exact hok.elim
 |mp o=>
  simp only[w8T]at hok⊢
  cases h:lk o with
  |none=>rw[h]at hok;exact hok.elim
  |some ob=>
   rw[h]at hok
   cases ob<;>first|(exact hok.elim)|skip
   all_goals
    simp only[List.mem_singleton,forall_eq]
    exact⟨⟨⟨_,rfl,rfl⟩,_,h,Ob.noConfusion⟩,fun lk' h'=>by rw[h',h]⟩
 |str s=>exact⟨fun o ho=>(by cases ho),fun _ _=>rfl⟩
 |sl full n' b es=>exact⟨fun o ho=>(by cases ho),fun _ _=>rfl⟩
 |r5g=>exact⟨fun o ho=>(by cases ho),fun _ _=>rfl⟩
 |u4v=>exact⟨fun o ho=>(by cases ho),fun _ _=>rfl⟩
 | _=>exact hok.elim
theorem x2m{lk:Look}{news:List (List D)}(h:u5V lk e x=some news):(∀o∈x1M x,x.top=some o∧∃ob,lk o=some ob∧ob≠ .resv)∧∀lk',(∀o∈x1M x,lk' o=lk o)→u5V lk' e x=some news:=by
 cases x with
 |ref full o g off len=>
  simp only[u5V]at h
  simp only[x1M,List.mem_singleton,forall_eq]
  cases hl:lk o with
  |none=>rw[hl]at h;cases h
  |some ob=>
   rw[hl]at h
   cases ob with
   |arr g' n' b es=>exact⟨⟨rfl,_,rfl,Ob.noConfusion⟩,fun lk' h'=>by simp only[u5V,h'];exact h⟩
   | _=>cases h
 | _=>exact⟨fun o ho=>(by cases ho),fun _ _=>h⟩
theorem w2f{xk:TK}{s:D}:Loc (fun lk=>r8g i e xk lk s x q) [s,x]:=fun lk hok=>by
 simp only[r8g]at hok⊢
 cases hn:u5V lk e x with
 |none=>rw[hn]at hok;exact hok.elim
 |some news=>
  rw[hn]at hok
  obtain⟨n1,n2⟩:=x2m hn
  have hx:∀o∈x1M x,(∃d∈ [s,x],d.top=some o)∧∃ob,lk o=some ob∧ob≠ .resv:=fun o ho=>⟨⟨x,by simp,(n1 o ho).1⟩,(n1 o ho).2⟩
  cases s with
  |r5g=>exact⟨hx,fun lk' h'=>by simp only[n2 lk' h']⟩
  |sl full n' b es=>
   cases full with
   |true=>exact⟨hx,fun lk' h'=>by simp only[n2 lk' h']⟩
   |false=>exact hok.elim
  |ref full o g off len=>
   cases full<;>
   ·simp only at hok⊢
    cases hl:lk o with
    |none=>rw[hl]at hok;exact hok.elim
    |some ob=>
     rw[hl]at hok
     cases ob with
     |arr g' n' b es=>
      simp only[List.mem_cons,forall_eq_or_imp]
      exact⟨⟨⟨⟨_,.inl rfl,rfl⟩,_,hl,Ob.noConfusion⟩,fun o ho=>by simpa using hx o ho⟩,fun lk' h'=>by simp only[n2 lk' h'.2,h'.1,hl]⟩
     | _=>exact hok.elim
  | _=>exact hok.elim
theorem w2L{parts:List (Nat×D)}:(u7A i e parts).rd=[]:=by unfold u7A;split<;>rfl
theorem w2M{f:Nat}:(u7y i f x).rd=[]:=by unfold u7y;(repeat' split)<;>rfl
theorem u6j{f:Nat}:(u0w i f x).rd=[]:=by unfold u0w;(repeat' split)<;>rfl
theorem w2N{y:D}:(u4E i e x y).rd=[]:=by unfold u4E;(repeat' split)<;>rfl
theorem w9v{o:BinOp}{y:D}:(u8m o x y).rd=[]:=by
 unfold u8m
 split
 ·split<;>first|rfl|skip
  split<;>first|rfl|skip
  split<;>first|rfl
 ·split<;>rfl
 ·rfl
theorem x4v{fl:Option (List Nat)}{b:Bool}{y:D}:(aEq i fl b x y).rd=[]:=by unfold aEq;(repeat' split)<;>rfl
theorem x4w{o:UnOp}:(aUn o x).rd=[]:=by
 unfold aUn;split
 ·rfl
 ·rfl
 ·rfl
theorem u7l{x:D}:(u0J x).rd=[]:=by unfold u0J;(repeat' split)<;>rfl
theorem u8q{i e e2:TI}{x:D}:(u2t i e e2 x).rd=[]:=by unfold u2t;(repeat' split)<;>rfl
theorem u8r{ix:Nat}:(u3M ix x).rd=[]:=by unfold u3M;(repeat' split)<;>rfl
theorem w9w{i:TI}:(x3v i x).rd=[]:=by unfold x3v;split<;>rfl
theorem w9x{y:D}:(x1N x y).rd=[]:=by unfold x1N;split<;>rfl
theorem w9y{y:D}:(x1O x y).rd=[]:=by unfold x1O;split<;>rfl
theorem w5L{y z:D}:(u7G x y z).rd=[]:=by unfold u7G;split<;>rfl
theorem w2O:(u7b i q x).rd=[]:=by unfold u7b;split<;>rfl
theorem u8s{b:Bool}:(u1C i e b q).rd=[]:=by unfold u1C;(repeat' split)<;>rfl
theorem u6k{y:D}:(r8Q i e x y q).rd=[]:=by unfold r8Q;split<;>rfl
end
theorem w9z{P:Program}{gl:Gl}{fr:Fr}{q:Nat}{g:Bool}{op:Op}:Loc (fun lk=>aop P gl g op fr lk q) (op.operands.toList.map (ev1 gl fr)):=by
 have mem:∀x,x∈op.operands.toList→ev1 gl fr x∈op.operands.toList.map (ev1 gl fr):=fun x hx=>List.mem_map.2 ⟨x,hx,rfl⟩
 have one:∀ {f:Look→LR} {x:Operand},x∈op.operands.toList→Loc f [ev1 gl fr x]→Loc f (op.operands.toList.map (ev1 gl fr)):=fun hx h=>h.sub fun d hd=>by
  rw[List.mem_singleton]at hd;subst hd;exact mem _ hx
 cases op with
 |load t a=>exact one (by simp[Op.operands]) (w6C.and _)
 |store t a x=>exact one (x:=a) (by simp[Op.operands]) (w4f.and _)
 |indexAddr t x y=>exact one (x:=x) (by simp[Op.operands]) (u7J.and _)
 |slice t x lo hi mx=>exact one (x:=x) (by simp[Op.operands]) (w4g.and _)
 |lookup t m k c=>exact one (x:=m) (by simp[Op.operands]) (w2e.and _)
 |mapUpdate t m k x=>exact one (x:=m) (by simp[Op.operands]) (u7K.and _)
 |call c=>
  obtain⟨callee,args,ats⟩:=c
  cases callee with
  |value f=>exact r6j rfl
  |invoke r m=>exact r6j rfl
  |builtin b=>
   have hmem:∀x,x∈args.toList→x∈(Op.call ⟨.builtin b,args,ats⟩).operands.toList:=fun x hx=>by simp only[Op.operands,Call.operands];simpa using hx
   simp only[aop]
   generalize hl:args.toList=l at hmem
   split
   ·exact one (hmem _ (by simp)) (w9u.and _)
   ·rename_i s x t u _
    exact(w2f.and _).sub fun d hd=>by
     simp only[List.mem_cons,List.not_mem_nil,or_false]at hd
     rcases hd with rfl|rfl
     ·exact mem _ (hmem _ (by simp))
     ·exact mem _ (hmem _ (by simp))
   ·exact(r6j w9x).and _
   ·exact(r6j w9y).and _
   ·exact(r6j w9w).and _
   ·exact r6j rfl
 |pick c a b=>exact(r6j w5L).and _
 |box t x=>exact(r6j rfl).and _
 |build t ps=>exact(r6j w2L).and _
 |buildSlice t len ps=>
  simp only[aop]
  cases gl.imm t<;>exact(r6j rfl).and _
 |binOp o t x y u=>
  simp only[aop]
  split<;>first|exact(r6j x4v).and _|exact(r6j w9v).and _
 |unOp o t x=>exact(r6j x4w).and _
 |nilCheck x=>exact(r6j u7l).and _
 |convert s t x=>exact(r6j u8q).and _
 |makeFunc f a b=>cases f<;>exact r6j rfl
 |makeMap t r=>cases r with
  |none=>exact r6j u8s
  |some r=>exact r6j rfl
 |makeSlice t l c=>exact(r6j u6k).and _
 |range t x=>exact(r6j w2O).and _
 |next x b=>exact one (x:=x) (by simp[Op.operands]) (w6D.and _)
 |fieldAddr t x f=>exact(r6j u6j).and _
 |field t x f=>exact(r6j w2M).and _
 |index t x y=>exact(r6j w2N).and _
 |extract x j=>exact(r6j u8r).and _
 | _=>exact r6j rfl
section
variable {P:Program} {gl:Gl} {fr fr':Fr} {q:Nat} {g:Bool} {op:Op} {lk:Look}
theorem u6l{f:Look→LR}{d:D}(h:Loc f [d]){o:Nat}(hok:(f lk).ok)(ho:o∈(f lk).rd):d.top=some o:=by
 obtain⟨⟨e,h1,h2⟩,_⟩:=(h lk hok).1 o ho
 rw[List.mem_singleton]at h1;subst h1;exact h2
theorem x4x{o:Nat}(hok:(aop P gl g op fr lk q).ok)(ho:o∈(aop P gl g op fr lk q).rd):∃x∈op.operands.toList,eok gl g fr x∧(ev1 gl fr x).top=some o:=by
 have none:∀ {r:LR},r.rd=[]→o∈r.rd→∃x∈op.operands.toList,eok gl g fr x∧(ev1 gl fr x).top=some o:=fun h ho=>by rw[h]at ho;cases ho
 cases op with
 |load t a=>exact⟨a,by simp[Op.operands],hok.1.1,u6l w6C hok.2 ho⟩
 |store t a x=>exact⟨a,by simp[Op.operands],hok.1.1,u6l (w4f) hok.2 ho⟩
 |indexAddr t x y=>exact⟨x,by simp[Op.operands],hok.1.1,u6l (u7J) hok.2 ho⟩
 |slice t x lo hi mx=>exact⟨x,by simp[Op.operands],hok.1.1,u6l (w4g) hok.2 ho⟩
 |lookup t m k c=>exact⟨m,by simp[Op.operands],hok.1.1,u6l (w2e) hok.2 ho⟩
 |mapUpdate t m k x=>exact⟨m,by simp[Op.operands],hok.1.1,u6l (u7K) hok.2 ho⟩
 |next x b=>exact⟨x,by simp[Op.operands],hok.1,u6l (w6D) hok.2 ho⟩
 |range t x=>exact none w2O ho
 |call c=>
  obtain⟨callee,args,ats⟩:=c
  cases callee with
  |value f=>cases ho
  |invoke r m=>cases ho
  |builtin b=>
   have hmem:∀x,x∈args.toList→x∈(Op.call ⟨.builtin b,args,ats⟩).operands.toList:=fun x hx=>by simp only[Op.operands,Call.operands];simpa using hx
   simp only[aop]at hok ho
   generalize args.toList=l at hmem hok ho
   revert hok ho
   split<;>intro hok ho
   ·exact⟨_,hmem _ (by simp),hok.1,u6l w9u hok.2 ho⟩
   ·obtain⟨⟨d,h1,h2⟩,_⟩:=(w2f _ hok.2).1 o ho
    simp only[List.mem_cons,List.not_mem_nil,or_false]at h1
    rcases h1 with rfl|rfl
    ·exact⟨_,hmem _ (by simp),hok.1.1,h2⟩
    ·exact⟨_,hmem _ (by simp),hok.1.2,h2⟩
   ·exact none w9x ho
   ·exact none w9y ho
   ·exact none w9w ho
   ·cases ho
 |pick c a b=>exact none w5L ho
 |box t x=>cases ho
 |build t ps=>exact none w2L ho
 |buildSlice t len ps=>revert ho;simp only[aop];cases gl.imm t<;>(intro ho;cases ho)
 |binOp o' t x y u=>
  simp only[aop]at ho
  split at ho<;>first|exact none x4v ho|exact none w9v ho
 |unOp o t x=>exact none x4w ho
 |nilCheck x=>exact none u7l ho
 |convert s t x=>exact none u8q ho
 |makeFunc f a b=>cases f<;>cases ho
 |makeMap t r=>cases r with
  |none=>exact none u8s ho
  |some r=>cases ho
 |makeSlice t l c=>exact none u6k ho
 |fieldAddr t x f=>exact none u6j ho
 |field t x f=>exact none w2M ho
 |index t x y=>exact none w2N ho
 |extract x j=>exact none u8r ho
 | _=>cases ho
theorem VR.w6E{w:World}{μ:Mu}{st:St}{v:Value}{d:D}{o:Nat}(h:VR w μ st v d)(ht:d.top=some o):st[o]? ≠some (some .resv):=by
 cases h with
 |tr h=>cases h<;>cases ht
 |ref=>cases ht;assumption
 |ptr=>cases ht;assumption
 |mp=>cases ht;assumption
 |it=>cases ht;assumption
 | _=>cases ht
def w6F(r:LR):Prop:=∀o ob,r.up=some (o,ob)→o∈r.rd
theorem r7M{r:LR}(h:r.up=none):w6F r:=fun o ob e=>by rw[h]at e;cases e
theorem r7O{r:LR}{p:Prop}(h:r.still):w6F (r.and p):=r7M (by simp only[LR.and];exact h.1)
theorem u9H:w6F (aop P gl g op fr lk q):=by
 cases op with
 |store t a x=>
  refine fun o ob e=>?_
  simp only[aop,LR.and,u6X]at e⊢
  revert e
  cases ev1 gl fr a<;>try (intro e;cases e;done)
  rename_i o' g' k c
  simp only
  cases lk o' with
  |none=>intro e;cases e
  |some ob'=>cases ob'<;>(intro e;cases e)<;>simp
 |mapUpdate t m k x=>
  refine fun o ob e=>?_
  simp only[aop,LR.and,r9i]at e⊢
  revert e
  cases ev1 gl fr m<;>try (intro e;cases e;done)
  rename_i o'
  simp only
  cases lk o' with
  |none=>intro e;cases e
  |some ob'=>cases ob'<;>try (intro e;cases e;done)
             all_goals (cases ev1 gl fr k<;>(intro e;cases e)<;>simp)
 |next x b=>
  refine fun o ob e=>?_
  simp only[aop,LR.and]at e⊢
  cases b with
  |false=>cases e
  |true=>
   revert e
   cases ev1 gl fr x<;>try (intro e;cases e;done)
   simp only[u9n]
   rename_i o'
   cases lk o' with
   |none=>intro e;cases e
   |some ob'=>cases ob'<;>(intro e;cases e)<;>simp
 |range t x=>exact r7M (w0q _ _ _)
 |call c=>
  obtain⟨callee,args,ats⟩:=c
  cases callee with
  |value f=>exact r7M rfl
  |invoke r m=>exact r7M rfl
  |builtin b=>
   simp only[aop]
   generalize args.toList=l
   split
   ·refine r7M ?_
    simp only[LR.and]
    exact(u5i _ _ _).1
   ·refine fun o ob e=>?_
    rename_i s x t u _
    simp only[LR.and,r8g]at e⊢
    revert e
    cases u5V lk (r5c P (elemOf (r5c P t))) (ev1 gl fr x)with
    |none=>intro e;cases e
    |some news=>
     simp only
     cases ev1 gl fr s<;>try (intro e;cases e;done)
     ·rename_i full _ _ _;cases full<;>(intro e;cases e)
     ·rename_i full o' _ _ _
      cases full<;>simp only
      ·cases lk o' with
       |none=>intro e;cases e
       |some ob'=>cases ob'<;>(intro e;cases e)<;>simp
      ·cases lk o' with
       |none=>intro e;cases e
       |some ob'=>cases ob'<;>(intro e;cases e)
   ·refine r7M ?_
    simp only[LR.and];exact(u6G _ _).1
   ·refine r7M ?_
    simp only[LR.and];exact(u6H _ _).1
   ·refine r7M ?_
    simp only[LR.and];exact(u5j _ _).1
   ·exact r7M rfl
 |pick c a b=>exact r7O (u6i _ _ _)
 |box t x=>exact r7M rfl
 |build t ps=>exact r7O (u6h _ _ _)
 |buildSlice t len ps=>simp only[aop];cases gl.imm t<;>exact r7M rfl
 |load t a=>exact r7O (u5w _ _ _)
 |binOp o t x y u=>
  simp only[aop]
  split<;>first|exact r7O (w0o _ _ _ _ _)|exact r7O (u8o _ _ _)
 |unOp o t x=>exact r7O (w0p _ _)
 |nilCheck x=>exact r7O (u3Z _)
 |convert s t x=>exact r7O (u4T _ _ _ _)
 |makeFunc f a b=>cases f<;>exact r7M rfl
 |makeMap t r=>cases r with
  |none=>simp only[aop,u1C];(repeat' split)<;>exact r7M rfl
  |some r=>exact r7M rfl
 |makeSlice t l c=>simp only[aop,r8Q];split<;>exact r7M rfl
 |slice t x lo hi mx=>exact r7O (u4F _ _ _ _ _ _ _)
 |fieldAddr t x f=>exact r7O (u3y _ _ _)
 |field t x f=>exact r7O (u6f _ _ _)
 |indexAddr t x y=>exact r7O (u1E _ _ _ _ _)
 |index t x y=>exact r7O (u6g _ _ _ _)
 |lookup t m k c=>exact r7O (u3N _ _ _ _ _ _ _)
 |extract x j=>exact r7O (u4U _ _)
 | _=>exact r7M rfl
end
theorem w6G{o:Nat}:∀ {m:List (Nat×Ob)} {s:St},o∉m.map (·.1)→(puts s m)[o]? =s[o]?
 | [],_,_=>rfl
 |(a,x)::m,s,h=>by
  simp only[List.map_cons,List.mem_cons,not_or]at h
  simp only[puts]
  rw[List.getElem?_set,if_neg (fun e=>h.1 e.symm),w6G h.2]
theorem w2g{o:Nat}:∀ {m:List (Nat×Ob)} {s s':St},s[o]? =s'[o]? →(puts s m)[o]? =(puts s' m)[o]?
 | [],_,_,h=>h
 |(a,x)::m,s,s',h=>by
  have ih:=w2g (m:=m) h
  simp only[puts]
  have sg:∀(l:St) (v:Option Ob),(l.set a v)[o]? =if a=o then(l[o]?).map (fun _=>v)else l[o]? :=fun l v=>by
   rw[List.getElem?_set]
   by_cases h:a=o
   ·subst h
    rw[if_pos rfl,if_pos rfl]
    by_cases hl:a<l.length
    ·rw[if_pos hl,List.getElem?_eq_getElem hl];rfl
    ·rw[if_neg hl,List.getElem?_eq_none (by simpa using hl)];rfl
   ·rw[if_neg h,if_neg h]
  rw[sg,sg,ih]
def w2P(P:Program)(G:Gl)(f:FuncId)(args:List D)(rd:List Nat)(st0:St)(r:D)(ups:List (Nat×Ob)):Prop:=
 ∀st,(∀o∈rd,look st o=look st0 o)→Spec P G f args st fun d st'=>d=r∧st'=puts st ups
theorem Pure.loc{P:Program}{G:Gl}{f:FuncId}{args:List D}{st0:St}{r:D}(h:Pure P G f args r):w2P P G f args [] st0 r []:=fun st _=>h st
structure Row where
 o:Oper
 q:Nat
 G:Bool
 r:LR
 ups:List (Nat×Ob)
def Row.d(x:Row):D:=match x.o.guard with
 |none=>x.r.d
 |some _=>.cond x.G x.r.d
def Row.fr(x:Row)(fr:Fr):Fr:=fr.u5c x.o.dst x.d
def Row.st(x:Row)(st:St):St:=bif x.G then puts (x.r.app x.q st) x.ups else st
def Row.rd(x:Row):List Nat:=bif x.G then x.r.rd else []
def Row.wr(x:Row):List Nat:=bif x.G then(match x.r.up with|some (o,_)=>[o]|none=>[])++x.ups.map (·.1)else []
structure Fits(P:Program)(gl:Gl)(N:Nat)(ops:Array Oper)(b:Nat)(x:Row)(fr:Fr)(st:St):Prop where
 dst:u7j N x.o
 gok:u2O ops fr x.o
 hG:x.G=guardOf ops fr x.o
 w6F:w6F x.r∧∀p∈x.ups,p.1∈x.r.rd
 does:x.G=true→(u2i x.o.op=none∧x.r=aop P gl true x.o.op fr (look st) x.q∧x.r.ok∧(needs x.o.op=true→st[x.q]? =some (some .resv))∧x.ups=[])∨
  ∃f xs g first cap d rd,u2i x.o.op=some (f,xs)∧eok gl true fr f∧(∀y∈xs,eok gl true fr y)∧ev1 gl fr f= .fn g first cap∧w2P P gl g (first++xs.map (ev1 gl fr)++cap) rd st d x.ups∧
   x.r=⟨d,True,rd,none,none⟩∧∀o∈rd,(o<b∨∃e∈first++xs.map (ev1 gl fr)++cap,e.top=some o)∧∃ob,st[o]? =some (some ob)∧ob≠ .resv
 makes:x.r.new≠none→needs x.o.op=true
section
variable {P:Program} {gl:Gl} {N:Nat} {ops:Array Oper} {w0:World} {μ0:Mu} {st0:St} {x:Row} {b:Nat} {fr fr':Fr} {st st':St} {Q:Exit→Act→World→Prop}
theorem u4G{o:Nat}{ob:Ob}:look st o=some ob↔st[o]? =some (some ob):=by
 unfold look
 cases h:st[o]? with
 |none=>simp
 |some y=>cases y<;>simp
theorem w6H{a:Act}{w:World}{μ:Mu}{o:Oper}{q:Nat}(h:u7v gl N w0 μ0 st0 fr st a w μ)(hok:(aop P gl true o.op fr (look st) q).ok)(hd:u7j N o)(hq:needs o.op=true→st[q]? =some (some .resv)):
 ∃nx v w' μ',(execOp a.eval o).run P w= .ok nx w'∧(nx= .value v∨(nx= .skip∧v=undef))∧
  u7v gl N w0 μ0 st0 (fr.u5c o.dst (aop P gl true o.op fr (look st) q).d) ((aop P gl true o.op fr (look st) q).app q st) (a.put o.dst v) w' μ':=by
 obtain⟨nx,v,w',μ',h1,h2,h3,h4,h5⟩:=w0s (P:=P) (G:=gl) (q:=q) h.sim h.fr h.glob hq hok
 refine⟨nx,v,w',μ',h1,h2,h3,h.glob.step h4,?_,?_,?_,h.step.trans h4⟩
 ·cases u8X:o.dst with
  |none=>exact h.fr.step h4
  |some t=>
   have ht:t<N:=by simpa[u7j,u8X]using hd
   exact(h.fr.step h4).put h5 (by rw[h.size];exact ht)
 ·cases u8X:o.dst with
  |none=>exact h.size
  |some t=>simp[Act.put,h.size]
 ·cases u8X:o.dst with
  |none=>exact h.defers
  |some t=>simp[Act.put,h.defers]
theorem x2n{a:Act}{w:World}{μ:Mu}{K:Act→World→Prop}(hc:u7v gl N w0 μ0 st0 fr st a w μ)(h:Fits P gl N ops b x fr st)
 (hK:∀a' w' μ',u7v gl N w0 μ0 st0 (x.fr fr) (x.st st) a' w' μ'→K a' w'):
 if Region.wanted x.o (yielded ops a.tmps)then x.o.wp P a w K Q∨(x.o.asks P a w∧LetsOut Q)else K (a.put x.o.dst undef) w:=by
 rw[u7k hc.fr h.gok, ←h.hG]
 cases hG:x.G with
 |false=>
  simp only[Bool.false_eq_true,if_false]
  have hgs:∃p,x.o.guard=some p:=by
   cases hgd:x.o.guard with
   |none=>have:=h.hG;simp[guardOf,hgd,hG]at this
   |some p=>exact⟨p,rfl⟩
  obtain⟨p,hgs⟩:=hgs
  refine hK _ _ μ ?_
  simp only[Row.fr,Row.st,Row.d,hgs,hG,cond_false]
  exact w0v hc h.dst _
 |true=>
  simp only[if_true]
  left
  have wrap:∀ {d:D} {a' w' μ' st'} {v:Value},u7v gl N w0 μ0 st0 (fr.u5c x.o.dst d) st' (a.put x.o.dst v) w' μ'→x.r.d=d→a'=a.put x.o.dst v→u7v gl N w0 μ0 st0 (x.fr fr) st' a' w' μ':=by
   intro d a' w' μ' st' v hc' hd ha
   subst ha;subst hd
   have:=w0w hc' true rfl
   unfold w8K at this
   simp only[Row.fr,Row.d]
   split at this
   ·rename_i e;first|(rw[e];exact this)|exact this
   ·rename_i e;first|(rw[e];simp only[hG];exact this)|(simp only[hG];exact this)|exact this
  rcases h.does hG with⟨hcall,hr,hok,hq,x4y⟩|⟨f,xs,g,first,cap,d,rd,hcall,hf,hx,hev,hp,hr,hrd⟩
  ·rw[hr]at hok
   obtain⟨nx,v,w',μ',h1,h2,h3⟩:=w6H (P:=P) (o:=x.o) hc hok h.dst hq
   unfold Oper.wp
   rw[h1]
   have next:K (a.put x.o.dst v) w':=by
    refine hK _ _ μ' ?_
    simp only[Row.st,hG,cond_true,x4y,puts]
    rw[←hr]at h3
    exact wrap h3 rfl rfl
   rcases h2 with rfl|⟨rfl,rfl⟩<;>exact next
  ·obtain⟨_,hspec⟩:=hp st fun _ _=>rfl
   obtain⟨vs,h1,h2,h3⟩:=u9G (P:=P) hcall hc.fr hc.glob hf hx hev
   unfold Oper.wp
   rw[h1]
   refine(hspec w μ vs hc.sim hc.glob h2 h3).upon fun e w' ⟨v,d',st',μ',he,⟨hd1,hd2⟩,hs',w6z,hv⟩=>?_
   subst he;subst hd1;subst hd2
   refine hK _ _ μ' ?_
   have hst:x.st st=puts st x.ups:=by simp[Row.st,hG,hr,LR.app]
   rw[hst]
   refine wrap (d:=d') ?_ (by rw[hr]) rfl
   refine⟨hs',hc.glob.step w6z,?_,?_,?_,hc.step.trans w6z⟩
   ·cases u8X:x.o.dst with
    |none=>exact hc.fr.step w6z
    |some t=>
     have ht:t<N:=by simpa[u7j,u8X]using h.dst
     exact(hc.fr.step w6z).put hv (by rw[hc.size];exact ht)
   ·cases u8X:x.o.dst with
    |none=>exact hc.size
    |some t=>simp[Act.put,hc.size]
   ·cases u8X:x.o.dst with
    |none=>exact hc.defers
    |some t=>simp[Act.put,hc.defers]
theorem w2Q(hs:∀t∈x.o.looksAt ops,fr'.get t=fr.get t):∀y∈x.o.op.operands,ev gl fr y=ev gl fr' y:=by
 intro y hy
 cases y with
 |tmp t=>exact(hs t (by simp only[Oper.looksAt,List.mem_append,List.mem_filterMap];exact .inl ⟨.tmp t,by simpa using hy,rfl⟩)).symm
 | _=>rfl
theorem w5M(hs:∀t∈x.o.looksAt ops,fr'.get t=fr.get t):guardOf ops fr' x.o=guardOf ops fr x.o∧(u2O ops fr' x.o↔u2O ops fr x.o):=by
 unfold guardOf u2O
 cases hg:x.o.guard with
 |none=>exact⟨rfl,Iff.rfl⟩
 |some p=>
  obtain⟨j,want⟩:=p
  simp only
  cases hd:(ops[j]?).bind (·.dst)with
  |none=>exact⟨rfl,Iff.rfl⟩
  |some t=>
   have:=hs t (by simp only[Oper.looksAt,hg,hd,List.mem_append];exact .inr (by simp))
   simp only[this]
   exact⟨trivial,trivial⟩
theorem u7L{o:Op}{f:Operand}{xs:List Operand}(h:u2i o=some (f,xs)):f∈o.operands∧∀y∈xs,y∈o.operands:=by
 cases o<;>simp only[u2i]at h<;>first|(cases h;done)|skip
 rename_i c
 obtain⟨callee,args,ats⟩:=c
 cases callee<;>simp only at h<;>first|(cases h;done)|skip
 cases h
 exact⟨by simp[Op.operands,Call.operands],fun y hy=>by simp only[Op.operands,Call.operands,Array.mem_append];exact .inr (by simpa using hy)⟩
theorem w9A{a:Act}{w:World}{μ:Mu}(hc:u7v gl N w0 μ0 st0 fr' st' a w μ)(h:Fits P gl N ops b x fr st)(hs:∀t∈x.o.looksAt ops,fr'.get t=fr.get t):
 ∀o∈x.rd,st'[o]? ≠some (some .resv)∨o<b:=by
 intro o ho
 unfold Row.rd at ho
 cases hG:x.G with
 |false=>rw[hG]at ho;cases ho
 |true=>
  rw[hG]at ho
  rcases h.does hG with⟨hcall,hr,hok,hq,x4y⟩|⟨f,xs,g,first,cap,d,rd,hcall,hf,hx,hev,hp,hr,hrd⟩
  ·rw[hr]at hok
   simp only[cond_true,hr]at ho
   obtain⟨y,h1,h2,h3⟩:=x4x hok ho
   have e:=w2Q (gl:=gl) hs y (by simpa using h1)
   have h2':eok gl true fr' y:=by unfold eok at h2 ⊢; rw[←e];exact h2
   have h3':(ev1 gl fr' y).top=some o:=by unfold ev1 at h3 ⊢; rw[←e];exact h3
   exact .inl ((u5h hc.fr hc.glob h2').w6E h3')
  ·simp only[hr,cond_true]at ho
   rcases(hrd o ho).1 with h1|⟨e,h1,h2⟩
   ·exact .inr h1
   ·obtain⟨m1,m2⟩:=u7L hcall
    have y0T:=w2Q (gl:=gl) hs
    have e1:∀y∈x.o.op.operands,ev1 gl fr' y=ev1 gl fr y:=fun y hy=>by unfold ev1;rw[y0T y hy]
    have e2:∀y∈x.o.op.operands,eok gl true fr y→eok gl true fr' y:=fun y hy=>by unfold eok;rw[y0T y hy];exact id
    obtain⟨vs,_,_,h5⟩:=u9G (P:=P) hcall hc.fr hc.glob (e2 f m1 hf) (fun y hy=>e2 y (m2 y hy) (hx y hy)) ((e1 f m1).trans hev)
    rw[List.map_congr_left fun y hy=>e1 y (m2 y hy)]at h5
    obtain⟨j,hj,ej⟩:=List.getElem_of_mem h1
    have h6:=h5 j hj
    rw[ej]at h6
    exact .inl (h6.w6E h2)
theorem u8t(h:Fits P gl N ops b x fr st):∀o∈x.rd,∃ob,st[o]? =some (some ob)∧ob≠ .resv:=by
 intro o ho
 unfold Row.rd at ho
 cases hG:x.G with
 |false=>rw[hG]at ho;cases ho
 |true=>
  rw[hG]at ho
  rcases h.does hG with⟨hcall,hr,hok,hq,x4y⟩|⟨f,xs,g,first,cap,d,rd,hcall,hf,hx,hev,hp,hr,hrd⟩
  ·rw[hr]at hok
   simp only[cond_true,hr]at ho
   obtain⟨_,ob,h1,h2⟩:=(w9z (look st) hok).1 o ho
   exact⟨ob,u4G.1 h1,h2⟩
  ·simp only[hr,cond_true]at ho
   exact(hrd o ho).2
theorem w8l(h:Fits P gl N ops b x fr st)(hs:∀t∈x.o.looksAt ops,fr'.get t=fr.get t)(hm:∀o∈x.rd,look st' o=look st o)
 (hq:needs x.o.op=true→st'[x.q]? =some (some .resv)):Fits P gl N ops b x fr' st':=by
 obtain⟨g1,g2⟩:=w5M hs
 refine⟨h.dst,g2.2 h.gok,by rw[g1];exact h.hG,h.w6F,fun hG=>?_,h.makes⟩
 have hev:=w2Q (gl:=gl) hs
 rcases h.does hG with⟨hcall,hr,hok,_,x4y⟩|⟨f,xs,g,first,cap,d,rd,hcall,hf,hx,he,hp,hr,hrd⟩
 ·refine .inl ⟨hcall,?_,hok,hq,x4y⟩
  rw[hr]at hok
  have:x.rd=(aop P gl true x.o.op fr (look st) x.q).rd:=by simp[Row.rd,hG, ←hr]
  rw[this]at hm
  have k:=(w9z (look st) hok).2 (look st') hm
  rw[hr]
  exact k.symm.trans (x7a hev)
 ·obtain⟨m1,m2⟩:=u7L hcall
  have e1:∀y∈x.o.op.operands,ev1 gl fr' y=ev1 gl fr y:=fun y hy=>by unfold ev1;rw[hev y hy]
  have e2:∀y∈x.o.op.operands,eok gl true fr y→eok gl true fr' y:=fun y hy=>by unfold eok;rw[hev y hy];exact id
  have hm':∀o∈rd,look st' o=look st o:=fun o ho=>hm o (by simp[Row.rd,hG,hr];exact ho)
  refine .inr ⟨f,xs,g,first,cap,d,rd,hcall,e2 f m1 hf,fun y hy=>e2 y (m2 y hy) (hx y hy),by rw[e1 f m1];exact he,?_,hr,fun o ho=>⟨by rw[List.map_congr_left fun y hy=>e1 y (m2 y hy)];exact(hrd o ho).1,?_⟩⟩
  ·rw[List.map_congr_left fun y hy=>e1 y (m2 y hy)]
   exact fun st2 h2=>hp st2 fun o ho=>(h2 o ho).trans (hm' o ho)
  ·obtain⟨ob,h1,h2⟩:=(hrd o ho).2
   exact⟨ob,u4G.1 ((hm' o ho).trans (u4G.2 h1)),h2⟩
end
end Go.Am
