/-
 AM, part 41: tables whose rows are made one after the other.
-/
import Derived.Sort.Statements
import Derived.Shelf.Sort.Plain
import Derived.Shelf.Slices.CompactS
import Derived.Shelf.Slices.In.SortNone
import Derived.Lib.RowBridge
import Derived.Shelf.Spec.SlicesGrow
import Derived.Shelf.SlicesE.DeleteFunc
import Derived.Shelf.SlSortCmp.NoneTotal
import Derived.Maps.RangeRun
import Derived.Test.YtfacbpehlibilaaGreatDoorTVAm2
set_option linter.unusedVariables false
set_option linter.unusedSimpArgs false
namespace Go.Am
open Go
section
variable {α:Type} {E:α→List D} {b:Nat} {M:List (List α)} {R:List α} {i k m n q:Nat}
def rf(n:Nat)(f:Nat→α):List α:=(List.range n).map f
end
section
variable {P:Program} {gl:Gl} {N n0:Nat} {keep:List Nat} {Q:AQ} {fr:Fr} {st:St} {c:Code} {id n:Nat}
theorem u6J{ρ σ:Type}{body:Nat→σ→Option (Ctl ρ σ σ)}{s0:σ}{kk:σ→Option ρ}{e:ρ}(I:Nat→σ→Fr→St→Prop)(J:σ→Fr→St→Prop)
 (hn:∀k s b,body k s=some b→∃s',b= .nxt s') (h:r5r (r5J body n s0) kk=some e) (h0:I 0 s0 fr st)
 (hs:∀k s s' fr st,k<n→body k s=some (.nxt s')→I k s fr st→AWp P gl N n0 keep c (fun ex fr st=>ex= .normal∧∃F,Fr.leq F fr∧I (k+1) s' F st) fr st)
 (he:∀s fr st,I n s fr st→AWp P gl N n0 keep c (fun ex fr st=>ex= .exit id∧∃F,Fr.leq F fr∧J s F st) fr st)
 (hk:∀s F fr st,kk s=some e→J s F st→Fr.leq F fr→Q .normal fr st):AWp P gl N n0 keep (.block id (.loop c)) Q fr st:=by
 refine x1Y ?_
 unfold r5J at h
 have key:∀m k s fr st,k+m=n→r5r (r9w body m k s) kk=some e→I k s fr st→AWp P gl N n0 keep (.loop c) (AQ.block id Q) fr st:=by
  intro m
  induction m with
  |zero=>
   intro k s fr st hk' h1 hi
   have:k=n:=by omega
   subst this
   refine u5x (u5y (he s fr st hi) fun ex fr st hq=>?_)
   obtain⟨rfl,F,hb,hj⟩:=hq
   show AQ.block id Q (.exit id) fr st
   simp only[AQ.block,if_true]
   exact hk s F fr st h1 hj hb
  |succ m ih=>
   intro k s fr st hk' h1 hi
   simp only[r9w]at h1
   cases hb:body k s with
   |none=>rw[hb]at h1;cases h1
   |some b=>
    rw[hb]at h1
    obtain⟨s',rfl⟩:=hn k s b hb
    refine u5x (u5y (hs k s s' fr st (by omega) hb hi) fun ex fr st hq=>?_)
    obtain⟨rfl,F,hb,hi'⟩:=hq
    exact u5z hb (ih (k+1) s' F st (by omega) h1 hi')
 exact key n 0 s0 fr st (by omega) h h0
end
section
variable {α:Type} {E:α→List D} {b q n k:Nat} {N:St}
def x7z(q:Nat)(N:St)(E:α→List D)(b:Nat)(r:List α)(c:D):Prop:=(c= .r5g∧r=[])∨∃j g,c= .ref false (q+(j+1)) g 0 r.length∧N[j]? =some (some (.arr g 1 b (rows E r)))
inductive w3O(q:Nat)(N:St)(E:α→List D)(b:Nat):List (List D)→List (List α)→Prop
 |nil:w3O q N E b [] []
 |cons (r:List α) (c:D) (C:List (List D)) (T:List (List α)) (h:x7z q N E b r c) (t:w3O q N E b C T):w3O q N E b ([c]::C) (r::T)
theorem w3O.len{C:List (List D)}{T:List (List α)}(h:w3O q N E b C T):C.length=T.length:=by
 induction h with
 |nil=>rfl
 |cons r c C T _ _ ih=>simp[ih]
theorem x7z.app{M:St}{r:List α}{c:D}(h:x7z q N E b r c):x7z q (N++M) E b r c:=by
 rcases h with h|⟨j,g,h1,h2⟩
 ·exact .inl h
 ·exact .inr ⟨j,g,h1,by rw[List.getElem?_append_left (List.getElem?_eq_some_iff.1 h2).1];exact h2⟩
theorem w3O.app{M:St}{C:List (List D)}{T:List (List α)}(h:w3O q N E b C T):w3O q (N++M) E b C T:=by
 induction h with
 |nil=>exact .nil
 |cons r c C T h _ ih=>exact .cons r c C T h.app ih
theorem w3O.snoc{C:List (List D)}{T:List (List α)}{r:List α}{c:D}(h:w3O q N E b C T)(k:x7z q N E b r c):w3O q N E b (C++[[c]]) (T++[r]):=by
 induction h with
 |nil=>exact .cons r c [] [] k .nil
 |cons r' c' C T h _ ih=>exact .cons r' c' _ _ h ih
theorem w3O.ups[u4x E 1]{S T0:St}(hb:1≤b)(hget:∀(j:Nat) x,N[j]? =some x→S[q+(j+1)]? =some x)(hT:T0.length≤q+1){C:List (List D)}{T:List (List α)}(h:w3O q N E b C T):u7d S T0 C (rows (slc 1 b E) T):=by
 induction h with
 |nil=>exact .nil
 |cons r c C T h _ ih=>
  refine .cons _ _ _ _ (.cons _ _ _ _ ?_ .nil) ih
  rcases h with⟨rfl,h2⟩|⟨j,g,rfl,h2⟩
  ·rw[h2];exact .r5g _ _ _ hb
  ·refine .ref _ _ _ _ _ 1 b (rows E r) _ (hget _ _ h2) ?_ hb (u4I _) ?_
   ·unfold look;rw[List.getElem?_eq_none (by omega)];rfl
   ·rw[List.drop_zero,List.take_of_length_le]
    rw[u6P];exact Nat.le_refl _
theorem w9Y[u4x E 1]{s:St}{C:List (List D)}{T:List (List α)}{F0 F:Fr}(hb:1≤b)(hsc:u4w s.length s)(hr:w3O s.length N E b C T)(hn:T.length=n)
 (h1:∀st T,w3N st T F0 F0) (h2:∀st T':St,Up st T' (.ref true s.length 0 0 n) (.sl false 1 24 (rows (slc 1 b E) T))→w3N st T' F0 F)
 (s1:Fr.sc (s++[some (Ob.arr 0 1 24 (rows (slc 1 b E) T))]).length F0) (s2:Fr.sc s.length F):
 BkS s.length F s F0 (s++(some (.arr 0 1 24 C)::N)):=by
 have h1:BkS s.length F0 (s++[some (.arr 0 1 24 (rows (slc 1 b E) T))]) F0 (s++(some (.arr 0 1 24 C)::N)):=by
  refine w5R hsc (.live _ _ _ _ (w8M.arr _ _ _ _ _ (w3O.ups hb (fun j x hx=>?_) (by simp) hr)) (.nil _)) ⟨?_,trivial⟩ (h1 _ _) s1
  ·rw[List.getElem?_append_right (by omega),show s.length+(j+1)-s.length=j+1 by omega]
   exact hx
  ·intro e he
   exact Imm.sc (u4I (E:=slc 1 b E) T) _ e he
 refine h1.trans (w9T hsc (h2 _ _ (.ref _ _ _ _ _ 1 24 (rows (slc 1 b E) T) _ (w2V.trans rfl) w4p (by decide) (u4I _) ?_)) s2)
 rw[List.drop_zero,List.take_of_length_le]
 rw[u6P];omega
theorem x4K{f:Nat→α}:rf (k+1) f=rf k f++[f k]:=by simp[rf,List.range_succ]
theorem x7A{N M:St}{i:Nat}{x:Option Ob}:(N++M).set (N.length+i) x=N++M.set i x:=by rw[List.set_append_right _ _ (by omega)];simp
end
end Go.Am
namespace Go.Am
open Go Go.Sort
section
variable {α:Type} [Inhabited α]
abbrev ltC(cf:α→α→Int)(x y:α):Bool:=decide (cf x y<0)
def ins(cf:α→α→Int)(x:α):List α→List α
 | []=>[x]
 |y::l=>if cf y x<0 then y::ins cf x l else x::y::l
def u6t(cf:α→α→Int):List α→List α
 | []=>[]
 |x::l=>ins cf x (u6t cf l)
def Asc(cf:α→α→Int)(l:List α):Prop:=l.Pairwise fun a b=>¬cf b a<0
omit [Inhabited α] in
theorem w2X(cf:α→α→Int)(x:α):∀l,(ins cf x l).Perm (x::l)
 | []=>.refl _
 |y::l=>by
  unfold ins
  split
  ·exact((w2X cf x l).cons y).trans (.swap x y l)
  ·exact .refl _
omit [Inhabited α] in
theorem u2P(cf:α→α→Int):∀l,(u6t cf l).Perm l
 | []=>.refl _
 |x::l=>(w2X cf x _).trans ((u2P cf l).cons x)
omit [Inhabited α] in
theorem y0b{cf:α→α→Int}(hO:SWO (ltC cf)){x y z:α}(h1:¬cf x y<0)(h2:¬cf y z<0):¬cf x z<0:=
 of_decide_eq_false (hO.ntrans x y z (decide_eq_false h1) (decide_eq_false h2))
omit [Inhabited α] in
theorem y0c{cf:α→α→Int}(hO:SWO (ltC cf)){x y:α}(h1:cf x y<0):¬cf y x<0:=fun h2=>
 absurd (of_decide_eq_true (hO.trans x y x (decide_eq_true h1) (decide_eq_true h2))) (of_decide_eq_false (hO.irrefl x))
omit [Inhabited α] in
theorem w9Z{cf:α→α→Int}(hO:SWO (ltC cf))(x:α):∀l,Asc cf l→Asc cf (ins cf x l)
 | [],_=>List.pairwise_singleton _ _
 |y::l,h=>by
  obtain⟨h1,h2⟩:=List.pairwise_cons.1 h
  unfold ins
  split
  ·rename_i hlt
   refine List.pairwise_cons.2 ⟨fun z hz=>?_,w9Z hO x l h2⟩
   rcases List.mem_cons.1 ((w2X cf x l).mem_iff.1 hz)with rfl|hz
   ·exact y0c hO hlt
   ·exact h1 z hz
  ·rename_i hnl
   refine List.pairwise_cons.2 ⟨fun z hz=>?_,h⟩
   rcases List.mem_cons.1 hz with rfl|hz
   ·exact hnl
   ·exact y0b hO (h1 z hz) hnl
omit [Inhabited α] in
theorem w0C{cf:α→α→Int}(hO:SWO (ltC cf)):∀l,Asc cf (u6t cf l)
 | []=>.nil
 |x::l=>w9Z hO x _ (w0C hO l)
omit [Inhabited α] in
theorem w2Y{cf:α→α→Int}(ha:∀x y,¬cf x y<0→¬cf y x<0→x=y):∀(l m:List α),Asc cf l→Asc cf m→l.Perm m→l=m
 | [],m,_,_,h=>(List.nil_perm.1 h).symm
 |a::l,[],_,_,h=>absurd (h.length_eq) (by simp)
 |a::l,b::m,h1,h2,h=>by
  obtain⟨p1,p2⟩:=List.pairwise_cons.1 h1
  obtain⟨q1,q2⟩:=List.pairwise_cons.1 h2
  have e:a=b:=by
   rcases List.mem_cons.1 (h.mem_iff.1 (List.mem_cons_self ..))with e|ha'
   ·exact e
   ·rcases List.mem_cons.1 (h.symm.mem_iff.1 (List.mem_cons_self ..))with e|hb'
    ·exact e.symm
    ·exact ha a b (q1 a ha') (p1 b hb')
  subst e
  rw[w2Y ha l m p2 q2 (List.Perm.cons_inv h)]
end
end Go.Am
namespace Go.Am
open Go Go.Sort Go.Shelf
open Go.Proofs (encStr)
def x0a(l:List Bs):List Bs:=l.mergeSort fun x y=>decide (x≤y)
def cpt(l:List Bs):List Bs:=Lib.compact l++List.replicate (l.length-(Lib.compact l).length) []
theorem w5T(l:List Bs):(cpt l).length=l.length:=by
 have:(Lib.compact l).length≤l.length:=Lib.compact_length_le l
 unfold cpt
 simp only[List.length_append,List.length_replicate]
 omega
theorem w4r(l:List Bs):(x0a l).length=l.length:=List.length_mergeSort _
theorem x2z(l:List Bs):((rows r4X (cpt l)).drop 0).take (Lib.compact l).length=rows r4X (Lib.compact l):=by
 unfold cpt rows
 rw[List.drop_zero,List.map_append,List.take_left' (by simp)]
section
variable {P:Program} {G:Gl}
theorem w2Z{vs:Array Value}(h:vs.size=1):∃a,vs= #[a]:=by
 refine⟨vs[0],?_⟩
 apply Array.ext
 ·simpa using h
 ·intro i h1 h2
  match i,h1,h2 with
  |0,_,_=>rfl
  |n+1,h1,_=>omega
theorem u5m{w:World}{blk base q:Nat}{d:Array Bs}{os:Array Obj}:(grow (putRow encStr (Sort.ahead w q) blk base d) os).heap=w.heap.modify blk (onCells (putCells encStr base d))++os:=rfl
theorem y0d{w:World}{μ:Mu}{st:St}{o gen blk base q:Nat}{l l':List Bs}{os:Array Obj}(hs:Sim w μ st)(hst:st[o]? =some (some (.arr gen 1 16 (rows r4X l))))(hm:μ o=some (blk,base))(hl:l'.length=l.length):
 Sim (grow (putRow encStr (Sort.ahead w q) blk base l'.toArray) os) μ (st.set o (some (.arr gen 1 16 (rows r4X l'))))∧Step w μ st (grow (putRow encStr (Sort.ahead w q) blk base l'.toArray) os) μ (st.set o (some (.arr gen 1 16 (rows r4X l')))):=by
 have hob:u6V w μ st (μ o) 1 16 (rows r4X l):=hs.obj o _ hst
 obtain⟨u8k,base',c,ty,hm',u1v,hsz,hcell⟩:=hob.loc.resolve_left (fun h=>by rw[hm]at h;cases h.1)
 rw[hm]at hm'
 cases hm'
 have hlt:blk<w.heap.size:=(Array.getElem?_eq_some_iff.1 u1v).1
 have x7B:∀j,j<w.heap.size→j≠blk→(grow (putRow encStr (Sort.ahead w q) blk base l'.toArray) os).heap[j]? =w.heap[j]? :=fun j hj hne=>by
  rw[u5m,Array.getElem?_append_left (by simpa using hj),Array.getElem?_modify,if_neg (fun e=>hne e.symm)]
 have x7C:(grow (putRow encStr (Sort.ahead w q) blk base l'.toArray) os).heap[blk]? =some (.cells (putCells encStr base l'.toArray c) ty (0,0)):=by
  rw[u5m,Array.getElem?_append_left (by simpa using hlt),Array.getElem?_modify,if_pos rfl,u1v]
  rfl
 have hrl:(rows r4X l).length=l.length:=u6P l
 refine u1L (w':=grow (putRow encStr (Sort.ahead w q) blk base l'.toArray) os) (μ':=μ) (ob':=.arr gen 1 16 (rows r4X l')) hs hst (fun _ _=>rfl)
  (fun b' hb' hne=>x7B b' hb' fun e2=>hne base (by rw[e2];exact hm)) (by rw[u5m];simp) rfl rfl ⟨rfl,Nat.le_add_right _ _⟩
  (fun b' base' e2=>.inl ⟨base',e2⟩) ⟨Nat.le_refl _,fun _=>⟨rfl,rfl,by rw[u6P,u6P,hl],rfl,fun b' base' c2 ty2 hm2 hh2=>by
   rw[hm]at hm2
   cases hm2
   rw[u1v]at hh2
   cases hh2
   exact⟨_,x7C,by simp[putCells]⟩⟩⟩
  (fun s=>⟨by rw[u6P,hl, ←hrl];exact hob.x9r,fun x hx=>by
   obtain⟨y,_,rfl⟩:=List.mem_map.1 hx
   rfl,.inr ⟨blk,base,_,ty,hm,x7C,by rw[u6P,hl, ←hrl];simpa[putCells]using hsz,fun i j hi hj=>?_⟩⟩)
 have hi2:i<l'.length:=by rw[u6P]at hi;exact hi
 have er:(rows r4X l')[i]=[D.str (l'[i])]:=by simp[rows,r4X]
 have hj2:j=0:=by rw[er]at hj;simpa using hj
 subst hj2
 have hc:base+(i*1+0)<c.size:=by rw[hrl]at hsz;omega
 refine⟨.string (bs l'[i]),?_,?_,rfl⟩
 ·unfold putCells
  rw[Array.getElem?_mapIdx,Array.getElem?_eq_getElem hc,Option.map_some,if_pos ⟨by omega,by simp;omega⟩]
  simp[hi2,bs]
 ·have e:((rows r4X l')[i])[0]=D.str (l'[i]):=by simp[er]
  rw[e]
  exact u9S _ _ _ _
theorem x0b{w:World}{μ:Mu}{st:St}{o gen blk base:Nat}{l:List Bs}(hs:Sim w μ st)(hst:st[o]? =some (some (.arr gen 1 16 (rows r4X l))))(hm:μ o=some (blk,base)):Holds encStr w blk base l.toArray∧blk<w.heap.size:=by
 have hob:u6V w μ st (μ o) 1 16 (rows r4X l):=hs.obj o _ hst
 obtain⟨u8k,base',c,ty,hm',u1v,hsz,hcell⟩:=hob.loc.resolve_left (fun h=>by rw[hm]at h;cases h.1)
 rw[hm]at hm'
 cases hm'
 refine⟨fun i hi=>?_,(Array.getElem?_eq_some_iff.1 u1v).1⟩
 have hi2:i<l.length:=by simpa using hi
 have er:(rows r4X l)[i]'(by rw[u6P];exact hi2)=[D.str (l[i])]:=by simp[rows,r4X]
 obtain⟨v,e1,e2,_⟩:=hcell i 0 (by rw[u6P];exact hi2) (by rw[er];simp)
 have e3:((rows r4X l)[i]'(by rw[u6P];exact hi2))[0]'(by rw[er];simp)=D.str (l[i]):=by simp[er]
 rw[e3]at e2
 rw[u3J e2,Nat.mul_one,Nat.add_zero]at e1
 refine⟨?_,?_⟩
 ·unfold World.cell?
  simp only[u1v]
  simpa[hi2,bs]using e1
 ·unfold World.frozen?
  simp only[u1v]
  simp
theorem w4s{ρ:Ren}{o gen:Nat}{full:Bool}{st:St}{l:List Bs}(L:Go.Proofs.Lays.n190 P ρ)(hb:u3o P (ρ.f 190)=true)
 (hlk:look st o=some (.arr gen 1 16 (rows r4X l))) (hl:l.length<4611686018427387904):
 Am.Spec P G (ρ.f 190) [.ref full o gen 0 l.length] st (fun d st'=>d= .tup []∧st'=r5k st [(o,.arr gen 1 16 (rows r4X (x0a l)))]):=by
 refine⟨trivial,fun w μ vs hs hG hn hv=>.inl ⟨hb,?_⟩⟩
 have h0:=hv 0 (by simp)
 obtain⟨v0,rfl⟩:=w2Z (show vs.size=1 by simpa using hn)
 have h0:VR w μ st v0 (.ref full o gen 0 l.length):=h0
 have hst:st[o]? =some (some (.arr gen 1 16 (rows r4X l))):=r5w hlk
 cases h0 with
 |tr h=>cases h
 |ref _ _ _ _ _ _ _ _ _ _ hr=>
  obtain⟨a,cap,rfl,c1,c2,_,c4⟩:=hr 1 16 (rows r4X l) hst
  by_cases hl0:l=[]
  ·subst hl0
   refine(Go.Proofs.Any.slices_Sort_string_none L a cap w).mono fun e w' ⟨he1,he2⟩=>?_
   subst he2
   refine⟨_,.tup [],st,μ,he1,⟨rfl,?_⟩,hs,Step.refl _ _ _,.tup _ _ (fun j h=>absurd h (Nat.not_lt_zero _)) (fun j h=>absurd h (Nat.not_lt_zero _))⟩
   have e:x0a ([]:List Bs)=[]:=List.eq_nil_of_length_eq_zero (w4r [])
   rw[e,r5p (by simp[hlk])]
  ·have hlen:0<l.length:=List.length_pos_iff.2 hl0
   obtain⟨blk,base,hm,rfl,c,ty,u1v,hsz⟩:=c4.resolve_left (by omega)
   obtain⟨hH,hblk⟩:=x0b hs hst hm
   rw[Nat.zero_mul,Nat.add_zero]at*
   refine(Go.Proofs.Any.slices_Sort_string L blk base cap l w hH hblk hl).mono fun e w' ⟨he1,m,os,hw⟩=>?_
   subst hw
   have key:=y0d (q:=m) (os:=os) hs hst hm (w4r l)
   exact⟨_,.tup [],_,μ,he1,⟨rfl,rfl⟩,key.1,key.2,.tup _ _ (fun j h=>absurd h (Nat.not_lt_zero _)) (fun j h=>absurd h (Nat.not_lt_zero _))⟩
theorem w0D{ρ:Ren}{o gen:Nat}{full:Bool}{st:St}{l:List Bs}(L:Go.Proofs.Lays.n194 P ρ)(hb:u3o P (ρ.f 194)=true)
 (hlk:look st o=some (.arr gen 1 16 (rows r4X l))) (hl:l.length≤9223372036854775807):
 Am.Spec P G (ρ.f 194) [.ref full o gen 0 l.length] st (fun d st'=>d= .ref false o gen 0 (Lib.compact l).length∧st'=r5k st [(o,.arr gen 1 16 (rows r4X (cpt l)))]):=by
 refine⟨trivial,fun w μ vs hs hG hn hv=>.inl ⟨hb,?_⟩⟩
 have h0:=hv 0 (by simp)
 obtain⟨v0,rfl⟩:=w2Z (show vs.size=1 by simpa using hn)
 have h0:VR w μ st v0 (.ref full o gen 0 l.length):=h0
 have hst:st[o]? =some (some (.arr gen 1 16 (rows r4X l))):=r5w hlk
 have ho:o<st.length:=r5h hlk
 cases h0 with
 |tr h=>cases h
 |ref _ _ _ _ _ _ _ _ _ _ hr=>
  obtain⟨a,cap,rfl,c1,c2,_,c4⟩:=hr 1 16 (rows r4X l) hst
  by_cases hl0:l=[]
  ·subst hl0
   refine(Go.Proofs.Any.slices_Compact_string_empty L a cap w).mono fun e w' ⟨he1,he2⟩=>?_
   subst he2
   have e:cpt ([]:List Bs)=[]:=List.eq_nil_of_length_eq_zero (w5T [])
   have e2:Lib.compact ([]:List Bs)=[]:=List.eq_nil_of_length_eq_zero (Nat.le_zero.1 (Lib.compact_length_le ([]:List Bs)))
   refine⟨_,.ref false o gen 0 0,st,μ,he1,⟨by rw[e2];rfl,?_⟩,hs,Step.refl _ _ _,.ref _ _ _ _ _ _ ⟨_,_,_,rfl⟩ ho (by rw[hst];simp) (fun g' n b es h=>by rw[hst]at h;cases h;exact Nat.le_refl _) (fun n b es h=>?_)⟩
   ·rw[e,r5p (by simp[hlk])]
   ·obtain⟨a2,y2j,e3,d1,d2,_,d4⟩:=hr n b es h
    cases e3
    exact⟨_,_,rfl,d1,d2,(fun hf=>by cases hf),d4⟩
  ·have hlen:0<l.length:=List.length_pos_iff.2 hl0
   obtain⟨blk,base,hm,rfl,c,ty,u1v,hsz⟩:=c4.resolve_left (by omega)
   obtain⟨hH,hblk⟩:=x0b hs hst hm
   rw[Nat.zero_mul,Nat.add_zero]at*
   refine(Go.Proofs.Any.slices_Compact_string L blk base cap l w hH hl c1).mono fun e w' ⟨he1,m,hw⟩=>?_
   have key:=y0d (q:=m) (os:= #[]) hs hst hm (w5T l)
   rw[grow_empty]at key
   have hcl:(Lib.compact l).length≤l.length:=Lib.compact_length_le l
   subst hw
   refine⟨_,.ref false o gen 0 (Lib.compact l).length,_,μ,he1,⟨rfl,rfl⟩,key.1,key.2,?_⟩
   show VR _ μ (st.set o (some (.arr gen 1 16 (rows r4X (cpt l))))) _ _
   have w1X:(st.set o (some (.arr gen 1 16 (rows r4X (cpt l)))))[o]? =some (some (.arr gen 1 16 (rows r4X (cpt l)))):=by simp[ho]
   refine .ref _ _ _ _ _ _ ⟨_,_,_,rfl⟩ (by simpa using ho) (by rw[w1X];simp) (fun g' n b es h=>by rw[w1X]at h;cases h;exact Nat.le_refl _) (fun n b es h=>?_)
   rw[w1X]at h
   cases h
   have x0c:(putRow encStr (Sort.ahead w m) blk base (cpt l).toArray).heap[blk]? =some (.cells (putCells encStr base (cpt l).toArray c) ty (0,0)):=by
    have:=@u5m w blk base m (cpt l).toArray #[]
    rw[grow_empty]at this
    rw[this,Array.append_empty,Array.getElem?_modify,if_pos rfl,u1v]
    rfl
   exact⟨_,_,rfl,Nat.le_trans hcl c1,by rw[u6P,w5T];omega,(fun hf=>by cases hf),.inr ⟨blk,base,hm,by simp,_,ty,x0c,by simpa[putCells]using hsz⟩⟩
end
def cfB(x y:Bs):Int:=if y≤x then 0 else -1
theorem w4t{x y:Bs}:cfB x y<0↔ ¬y≤x:=by
 unfold cfB
 split<;>simp[*]
theorem w0E{x y z:Bs}(h:x≤y)(k:y≤z):x≤z:=List.le_trans h k
theorem w0F(x y:Bs):x≤y∨y≤x:=List.le_total x y
theorem x2B{x y:Bs}(h:x≤y)(k:y≤x):x=y:=List.le_antisymm h k
theorem x4L:SWO (ltC cfB) where
 irrefl x:=decide_eq_false (by rw[w4t];exact fun h=>h ((w0F x x).elim id id))
 trans x y z h k:=decide_eq_true (by
  have h:=of_decide_eq_true h
  have k:=of_decide_eq_true k
  rw[w4t]at*
  exact fun e=>k (w0E e ((w0F x y).resolve_right h)) |>.elim)
 ntrans x y z h k:=decide_eq_false (by
  have h:=of_decide_eq_false h
  have k:=of_decide_eq_false k
  rw[w4t,Decidable.not_not]at*
  exact w0E k h)
theorem x2C(l:List Bs):x0a l=u6t cfB l:=by
 refine w2Y (cf:=cfB) (fun x y h k=>?_) _ _ ?_ (w0C x4L l) ((List.mergeSort_perm l _).trans (u2P cfB l).symm)
 ·rw[w4t,Decidable.not_not]at h k
  exact x2B k h
 ·unfold Asc x0a
  refine(List.pairwise_mergeSort (fun a b c h k=>?_) (fun a b=>?_) l).imp fun {a b} h=>?_
  ·simp only[decide_eq_true_eq]at *; exact w0E h k
  ·simp only[Bool.or_eq_true,decide_eq_true_eq];exact w0F a b
  ·rw[w4t,Decidable.not_not];simpa using h
end Go.Am
namespace Go.Am
open Go Go.Shelf
theorem x0e{P:Program}{G:Gl}{ρ:Ren}(L:Go.Proofs.Lays8.n4 P ρ){i0:TypeInfo}{z:Value}(hi0:P.info? (ρ.t 25)=some i0)(hz0:i0.zero=some z)(hzs:z.cells.size=i0.size)(hs0:0<i0.size)(hb:u3o P (ρ.f 4)=true){n:Nat}{st:St}(hn:n*i0.bytes≤top)(h63:n≤4611686018427387904):
 Am.Spec P G (ρ.f 4) [.r5g,.int .i64 (n:Int)] st (fun d st'=>d= .ref false st.length 0 0 0∧st'=st++[some (.arr 0 i0.size i0.bytes [])]):=by
 refine⟨trivial,fun w μ vs hs hG hsz hv=>.inl ⟨hb,?_⟩⟩
 have h0:=hv 0 (by simp)
 have h1:=hv 1 (by simp)
 obtain⟨v0,v1,rfl⟩:∃a b,vs= #[a,b]:=by
  have:vs.size=2:=by simpa using hsz
  refine⟨vs[0],vs[1],?_⟩
  apply Array.ext
  ·simpa using this
  ·intro i h1 h2
   match i,h1,h2 with
   |0,_,_=>rfl
   |1,_,_=>rfl
   |n+2,h1,_=>omega
 obtain rfl:v0= .slice none 0 0:=u5t h0
 obtain rfl:v1= .int .i64 (n:Int):=u0F h1
 by_cases hz:n=0
 ·subst hz
  refine(Go.Proofs.Any8.slices_Grow_room L none 0 0 0 w (by omega) (by omega) (by omega) (by omega)).mono fun e w' ⟨he,hw⟩=>?_
  subst hw
  obtain⟨k1,k2⟩:=u9D hs
  have hq:(st++[some Ob.resv])[st.length]? =some (some .resv):=by simp
  have h:=u1L (w:=w') (w':=w') (μ':=upd (upd μ st.length none) st.length none) (ob':=.arr 0 i0.size i0.bytes []) k1 hq (fun o' h=>r8S _ _ _ h) (fun _ _ _=>rfl) (Nat.le_refl _) rfl rfl ⟨rfl,Nat.le_refl _⟩ (fun blk base e=>by rw[r5Z]at e;cases e) trivial
   (fun s=>(⟨by simp,by simp,.inl ⟨r5Z _ _ _,rfl⟩⟩:u6V _ _ _ _ _ _ _))
  have w1X:(st++[some Ob.resv]).set st.length (some (.arr 0 i0.size i0.bytes []))=st++[some (.arr 0 i0.size i0.bytes [])]:=by
   rw[List.set_append_right _ _ (Nat.le_refl _)];simp
  rw[w1X]at h
  refine⟨_,.ref false st.length 0 0 0,_,_,he,⟨rfl,rfl⟩,h.1,k2.trans h.2,?_⟩
  refine .ref _ false st.length 0 0 0 ⟨_,_,_,rfl⟩ (by simp) (by simp) (fun g' n b es e=>Nat.zero_le _) (fun n' b es' e=>?_)
  exact⟨_,_,rfl,Nat.le_refl _,by simp,fun hf=>(by cases hf),.inl rfl⟩
 ·refine(Go.Proofs.Any8.slices_Grow_grow L i0 z hi0 hz0 hs0 none 0 0 n [] w (by omega) (by omega) (by rw[Nat.zero_add];unfold top at hn;exact hn) (by omega) (by simp) (fun _=>rfl) (fun a ha=>by cases ha)).mono fun e w' ⟨he,hw⟩=>?_
  obtain⟨k1,k2⟩:=u9D hs
  have hq:(st++[some Ob.resv])[st.length]? =some (some .resv):=by simp
  have step:Step w (upd μ st.length none) (st++[some .resv]) w.drew (upd μ st.length none) (st++[some .resv]):=⟨Nat.le_refl _,rfl,rfl,⟨rfl,Nat.le_succ _⟩,fun _ _ _=>rfl,fun _ h=>.inl h,Nat.le_refl _,fun _ ob' _ h=>⟨ob',h,by
   cases ob' with
   |arr g n b es=>exact⟨Nat.le_refl _,fun _=>⟨rfl,rfl,rfl,rfl,fun blk base c ty _ hh=>⟨c,hh,rfl⟩⟩⟩
   |mps=>exact⟨rfl,rfl⟩
   |mpi=>exact⟨rfl,rfl,rfl⟩
   |sit=>rfl
   |resv=>trivial⟩⟩
  have hd0:Sim w.drew (upd μ st.length none) (st++[some .resv]):=⟨fun o ob h=>(k1.obj o ob h).step step (fun _ _ _=>rfl),k1.inj⟩
  have h:=u3L (w:=w.drew) (x:=.cells ((#[]:Array Value)++Builtin.zeroCells z.cells (0+n-0)++Builtin.zeroCells z.cells (grownCap w (0+n) 0 (ρ.t 25)-(0+n))) (ρ.t 25)) (ob:=.arr 0 i0.size i0.bytes []) hd0 hq
   (fun s=>u8l (fun a b ha hb'=>absurd ha (Nat.not_lt_zero _)) (by simp) (fun e he=>by cases he) (by simp) s)
  have w1X:(st++[some Ob.resv]).set st.length (some (.arr 0 i0.size i0.bytes []))=st++[some (.arr 0 i0.size i0.bytes [])]:=by
   rw[List.set_append_right _ _ (Nat.le_refl _)];simp
  rw[w1X]at h
  subst hw
  refine⟨_,.ref false st.length 0 0 0,_,_,he,⟨rfl,rfl⟩,h.1,(k2.trans step).trans h.2,?_⟩
  refine .ref _ false st.length 0 0 0 ⟨_,_,_,rfl⟩ (by simp) (by simp) (fun g' n b es e=>Nat.zero_le _) (fun n' b es' e=>?_)
  have e:some (some (Ob.arr 0 i0.size i0.bytes []))=some (some (Ob.arr 0 n' b es')):=by rw[←e];simp
  cases e
  refine⟨_,_,rfl,Nat.zero_le _,by simp,fun hf=>(by cases hf),.inr ⟨w.heap.size,0,by rw[r5Z];rfl,by simp,_,ρ.t 25,heap_alloc_new _ _,?_⟩⟩
  have hzc:∀m,(Builtin.zeroCells z.cells m).size=m*z.cells.size:=fun m=>by simp[Builtin.zeroCells]
  have hge:=grownCap_ge w (0+n) 0 (ρ.t 25)
  rw[Array.size_append,Array.size_append,hzc,hzc,hzs]
  simp only[List.size_toArray,List.length_nil,Nat.zero_add,Nat.sub_zero]at*
  rw[←Nat.add_mul]
  refine Nat.le_of_eq ?_
  congr 1
  omega
end Go.Am
namespace Go.Am
open Go Go.Sort Go.Shelf
open Go.Proofs (encStr PredAt PredOver FnGives OneCell)
def flt(p:Bs→Bool)(l:List Bs):List Bs:=l.filter fun x=> !p x
def w1L(p:Bs→Bool)(l:List Bs):List Bs:=flt p l++List.replicate (l.length-(flt p l).length) []
theorem x3I(p:Bs→Bool)(l:List Bs):(flt p l).length≤l.length:=List.length_filter_le _ _
theorem w3a(p:Bs→Bool)(l:List Bs):(w1L p l).length=l.length:=by
 have:=x3I p l
 unfold w1L
 simp only[List.length_append,List.length_replicate]
 omega
section
variable {P:Program} {G:Gl}
theorem x2D{vs:Array Value}(h:vs.size=2):∃a b,vs= #[a,b]:=by
 refine⟨vs[0],vs[1],?_⟩
 apply Array.ext
 ·simpa using h
 ·intro i h1 h2
  match i,h1,h2 with
  |0,_,_=>rfl
  |1,_,_=>rfl
  |n+2,h1,_=>omega
theorem w3b{base:Nat}{d z:List Bs}{c:Array Value}(hz:∀j (h:j<z.length),c[base+(d.length+j)]? =some (.string (bs z[j]))):putCells encStr base (d++z).toArray c=putCells encStr base d.toArray c:=by
 unfold putCells
 apply Array.ext
 ·simp
 ·intro k h1 h2
  simp only[Array.getElem_mapIdx,List.size_toArray,List.length_append]
  by_cases h3:base≤k∧k<base+d.length
  ·rw[if_pos h3,if_pos ⟨h3.1,by omega⟩]
   have:k-base<d.length:=by omega
   simp[this,List.getElem_append_left,show k-base<d.length+z.length by omega]
  ·rw[if_neg h3]
   by_cases h4:base≤k∧k<base+(d.length+z.length)
   ·rw[if_pos h4]
    have hj:k-base-d.length<z.length:=by omega
    have e:=hz (k-base-d.length) hj
    rw[show base+(d.length+(k-base-d.length))=k by omega]at e
    have hk:k<c.size:=by simpa using h1
    rw[Array.getElem?_eq_getElem hk]at e
    have e:=Option.some.inj e
    rw[e]
    have h5:d.length≤k-base:=by omega
    simp[List.getElem_append_right h5,show k-base<d.length+z.length by omega,hj,bs]
   ·rw[if_neg h4]
theorem w5U{w:World}{blk base q:Nat}{d z:List Bs}{c:Array Value}{ty:TypeId}{fz:Nat×Nat}(hh:w.heap[blk]? =some (.cells c ty fz))(hz:∀j (h:j<z.length),c[base+(d.length+j)]? =some (.string (bs z[j]))):
 putRow encStr (Sort.ahead w q) blk base (d++z).toArray=putRow encStr (Sort.ahead w q) blk base d.toArray:=by
 have e:∀f g:Array Value→Array Value,f c=g c→w.heap.modify blk (onCells f)=w.heap.modify blk (onCells g):=fun f g h=>by
  apply Array.ext_getElem?
  intro i
  rw[Array.getElem?_modify,Array.getElem?_modify]
  by_cases ei:blk=i
  ·subst ei
   rw[if_pos rfl,if_pos rfl,hh]
   simp only[Option.map_some,onCells,h]
  ·rw[if_neg ei,if_neg ei]
 unfold putRow mapBlock
 have:=e _ _ (w3b (base:=base) hz)
 simp only[Sort.ahead]at this⊢
 rw[this]
theorem u9o{ρ:Ren}(L:Go.Proofs.SlLaysH.n10 P ρ)(a:Option Addr)(c:Nat)(fv:Value)(w:World):
 Calls P (ρ.f 10) #[.slice a 0 c,fv] w fun e w'=>e= .returned (.slice a 0 c)∧w'=w:=by
 have mixed:=L.mixed;have t0:=L.t0;have a0:=L.a0;have z0:=L.z0;have v0:=L.v0;have t3:=L.t3;have a3:=L.a3;have z3:=L.z3;have v3:=L.v3;have t4:=L.t4;have a4:=L.a4;have z4:=L.z4;have v4:=L.v4;have t22:=L.t22;have a22:=L.a22;have z22:=L.z22;have v22:=L.v22;have a23:=L.a23;have z23:=L.z23;have t25:=L.t25;have a25:=L.a25;have z25:=L.z25;have v25:=L.v25
 have e6:∀args w,(callFunc (ρ.f 6) args).run P w= .ok (.enter (ρ.f 6) args) w:=L.f6.enters rfl
 obtain⟨_,_,FG⟩:=L.f10
 go_enter FG,Go.Proofs.SlBodyH.n10_ntmps ρ
 go_wp2_with (go_at_fn (ρ.f 6);refine(Go.Proofs.AnyE.slices_IndexFunc_empty { L with } a c fv _).mono ?_;rintro e w' ⟨rfl,rfl⟩)
 go_ret
 exact⟨rfl,rfl⟩
theorem w0G{ρ:Ren}{o gen:Nat}{full:Bool}{st:St}{l z:List Bs}{g:FuncId}{caps:List D}{p:Bs→Bool}(L:Go.Proofs.SlLaysH.n10 P ρ)(hb:u3o P (ρ.f 10)=true)(v23:∀w,(zeroValue (ρ.t 23)).run P w= .ok (.string (bs [])) w)
 (eg:∀args w,(callFunc g args).run P w= .ok (.enter g args) w)
 (hlk:look st o=some (.arr gen 1 16 (rows r4X (l++z)))) (hl:l.length≤9223372036854775807)
 (hp:∀(w:World) (μ:Mu) (lb:Array Value) (blk base:Nat),Sim w μ st→Glob G w μ st→μ o=some (blk,base)→(∀j (h:j<caps.length),VR w μ st (lb.getD j undef) (caps[j]))→lb.size=caps.length→PredAt P g lb encStr p w∧PredOver P g lb encStr p blk base l.length w):
 Am.Spec P G (ρ.f 10) [.ref full o gen 0 l.length,.fn g [] caps] st (fun d st'=>d= .ref false o gen 0 (flt p l).length∧st'=r5k st [(o,.arr gen 1 16 (rows r4X (w1L p l++z)))]):=by
 refine⟨trivial,fun w μ vs hs hG hn hv=>.inl ⟨hb,?_⟩⟩
 have h0:=hv 0 (by simp)
 have h1:=hv 1 (by simp)
 obtain⟨v0,v1,rfl⟩:=x2D (show vs.size=2 by simpa using hn)
 have h0:VR w μ st v0 (.ref full o gen 0 l.length):=h0
 have h1:VR w μ st v1 (.fn g [] caps):=h1
 have hst:st[o]? =some (some (.arr gen 1 16 (rows r4X (l++z)))):=r5w hlk
 have ho:o<st.length:=r5h hlk
 cases h0 with
 |tr h=>cases h
 |ref _ _ _ _ _ _ _ _ _ _ hr=>
  obtain⟨a,cap,rfl,c1,c2,_,c4⟩:=hr 1 16 (rows r4X (l++z)) hst
  by_cases hl0:l=[]
  ·subst hl0
   refine(u9o L a cap v1 w).mono fun e w' ⟨he1,he2⟩=>?_
   subst he2
   refine⟨_,.ref false o gen 0 0,st,μ,he1,⟨rfl,?_⟩,hs,Step.refl _ _ _,.ref _ _ _ _ _ _ ⟨_,_,_,rfl⟩ ho (by rw[hst];simp) (fun g' n b es h=>by rw[hst]at h;cases h;exact Nat.le_refl _) (fun n b es h=>?_)⟩
   ·show st=r5k st [(o,.arr gen 1 16 (rows r4X ([]++z)))]
    rw[r5p (by simp[hlk])]
   ·obtain⟨a2,y2j,e3,d1,d2,_,d4⟩:=hr n b es h
    cases e3
    exact⟨_,_,rfl,d1,d2,(fun hf=>by cases hf),d4⟩
  ·have hlen:0<l.length:=List.length_pos_iff.2 hl0
   obtain⟨blk,base,hm,rfl,c,ty,u1v,hsz⟩:=c4.resolve_left (by omega)
   obtain⟨hH,hblk⟩:=x0b hs hst hm
   rw[Nat.zero_mul,Nat.add_zero]at*
   have hH':Holds encStr w blk base l.toArray:=fun j hj=>by
    have hj':j<l.length:=by simpa using hj
    have:=hH j (by simp;omega)
    have e:(l++z).toArray[j]! =l.toArray[j]! :=by
     simp[hj',List.getElem_append_left,show j<l.length+z.length by omega]
    rw[e]at this
    exact this
   have hz:∀j (h:j<z.length),c[base+((w1L p l).length+j)]? =some (.string (bs z[j])):=fun j hj=>by
    have:=(hH (l.length+j) (by simp;omega)).1
    unfold World.cell? at this
    simp only[u1v]at this
    rw[w3a]
    simpa[hj,List.getElem_append_right,bs]using this
   cases h1 with
   |tr h=>cases h
   |fn _ vf lb _ _ hf hc _ hcc=>
    obtain rfl:vf= #[]:=Array.size_eq_zero_iff.1 (by simpa using hf)
    obtain⟨hp1,hp2⟩:=hp w μ lb blk base hs hG hm hcc hc
    refine(Go.Proofs.AnyE.slices_DeleteFunc L encStr (fun _=>rfl) p g lb eg [] v23 blk base cap l.toArray w hp1 (by simpa using hp2) hH' (by simpa using hl) (by simpa using c1)).mono fun e w' ⟨he1,m,hw⟩=>?_
    have ef:(l.toArray.toList.filter fun x=> !p x)=flt p l:=rfl
    have em:((l.toArray.toList.filter fun x=> !p x)++List.replicate (l.toArray.size-(l.toArray.toList.filter fun x=> !p x).length) ([]:Bs)).toArray=(w1L p l).toArray:=by
     rw[ef,List.size_toArray];rfl
    rw[em, ←w5U u1v hz]at hw
    rw[ef]at he1
    have key:=y0d (q:=m) (os:= #[]) hs hst hm (show(w1L p l++z).length=(l++z).length by rw[List.length_append,List.length_append,w3a])
    rw[grow_empty]at key
    have hcl:=x3I p l
    subst hw
    refine⟨_,.ref false o gen 0 (flt p l).length,_,μ,he1,⟨rfl,rfl⟩,key.1,key.2,?_⟩
    show VR _ μ (st.set o (some (.arr gen 1 16 (rows r4X (w1L p l++z))))) _ _
    have w1X:(st.set o (some (.arr gen 1 16 (rows r4X (w1L p l++z)))))[o]? =some (some (.arr gen 1 16 (rows r4X (w1L p l++z)))):=by simp[ho]
    refine .ref _ _ _ _ _ _ ⟨_,_,_,rfl⟩ (by simpa using ho) (by rw[w1X];simp) (fun g' n b es h=>by rw[w1X]at h;cases h;exact Nat.le_refl _) (fun n b es h=>?_)
    rw[w1X]at h
    cases h
    have x0c:(putRow encStr (Sort.ahead w m) blk base (w1L p l++z).toArray).heap[blk]? =some (.cells (putCells encStr base (w1L p l++z).toArray c) ty (0,0)):=by
     have:=@u5m w blk base m (w1L p l++z).toArray #[]
     rw[grow_empty]at this
     rw[this,Array.append_empty,Array.getElem?_modify,if_pos rfl,u1v]
     rfl
    exact⟨_,_,rfl,Nat.le_trans hcl c1,by rw[u6P,List.length_append,w3a];omega,(fun hf=>by cases hf),.inr ⟨blk,base,hm,by simp,_,ty,x0c,by simpa[putCells]using hsz⟩⟩
end
end Go.Am
namespace Go.Am
open Go
def Evt{α:Type}(x:Nat→Option α)(P:α→Prop):Prop:=∃r,P r∧∃N,∀n,N≤n→x n=some r
section
variable {α β ρ σ τ:Type} {P:α→Prop} {Q:β→Prop}
theorem Evt.mono{x:Nat→Option α}{P':α→Prop}(h:Evt x P)(hp:∀r,P r→P' r):Evt x P':=by
 obtain⟨r,hr,N,hN⟩:=h
 exact⟨r,hp r hr,N,hN⟩
theorem Evt.pure{r:α}(h:P r):Evt (fun _=>some r) P:=⟨r,h,0,fun _ _=>rfl⟩
theorem Evt.of{x:Option α}{r:α}(e:x=some r)(h:P r):Evt (fun _=>x) P:=⟨r,h,0,fun _ _=>e⟩
theorem Evt.congr{x y:Nat→Option α}(h:Evt x P)(e:∀n,y n=x n):Evt y P:=by
 obtain⟨r,hr,N,hN⟩:=h
 exact⟨r,hr,N,fun n hn=>(e n).trans (hN n hn)⟩
theorem Evt.succ{x:Nat→Option α}(h:Evt (fun n=>x (n+1)) P):Evt x P:=by
 obtain⟨r,hr,N,hN⟩:=h
 refine⟨r,hr,N+1,fun n hn=>?_⟩
 obtain⟨m,rfl⟩:∃m,n=m+1:=⟨n-1,by omega⟩
 exact hN m (by omega)
theorem Evt.bind{x:Nat→Option α}{f:Nat→α→Option β}(h:Evt x P)(hf:∀r,P r→Evt (fun n=>f n r) Q):Evt (fun n=>(x n).bind (f n)) Q:=by
 obtain⟨r,hr,N,hN⟩:=h
 obtain⟨s,hs,M,hM⟩:=hf r hr
 exact⟨s,hs,max N M,fun n hn=>by show(x n).bind (f n)=_;rw[hN n (by omega)];exact hM n (by omega)⟩
theorem Evt.chk{p:Prop}[Decidable p]{x:Nat→Option α}(hp:p)(h:Evt x P):Evt (fun n=>chk p (x n)) P:=by
 obtain⟨r,hr,N,hN⟩:=h
 exact⟨r,hr,N,fun n hn=>by show Am.chk p (x n)=_;unfold Am.chk;rw[if_pos hp];exact hN n hn⟩
theorem Evt.r9F{a:α}{f:Nat→α→Option β}(h:Evt (fun n=>f n a) Q):Evt (fun n=>r9F a (f n)) Q:=h
theorem Evt.cond{b:Bool}{x y:Nat→Option α}(h1:b=true→Evt x P)(h2:b=false→Evt y P):Evt (fun n=>bif b then x n else y n) P:=by
 cases b
 ·exact h2 rfl
 ·exact h1 rfl
theorem Evt.gd{G:Bool}{x:Nat→Option α}{d:α}(h1:G=true→Evt x P)(h2:G=false→P d):Evt (fun n=>gd G (x n) d) P:=by
 cases G
 ·exact Evt.pure (h2 rfl)
 ·exact h1 rfl
theorem Evt.r5r{x:Nat→Option (Ex ρ τ)}{k:Nat→τ→Option ρ}{P:Ex ρ τ→Prop}{Q:ρ→Prop}(h:Evt x P)(hn:∀t,P (.nxt t)→Evt (fun n=>k n t) Q)(hr:∀r,P (.ret r)→Q r):
 Evt (fun n=>r5r (x n) (k n)) Q:=by
 obtain⟨e,he,N,hN⟩:=h
 cases e with
 |nxt t=>
  obtain⟨s,hs,M,hM⟩:=hn t he
  exact⟨s,hs,max N M,fun n hn=>by simp only[hN n (by omega),Am.r5r];exact hM n (by omega)⟩
 |ret r=>exact⟨r,hr r he,N,fun n hn=>by simp only[hN n hn,Am.r5r]⟩
def w4u(I:σ→Prop)(B:τ→Prop)(R:ρ→Prop):Ctl ρ σ τ→Prop
 | .nxt s=>I s
 | .brk t=>B t
 | .ret x=>R x
def ExP(B:τ→Prop)(R:ρ→Prop):Ex ρ τ→Prop
 | .nxt t=>B t
 | .ret x=>R x
theorem Evt.range{body:Nat→Nat→σ→Option (Ctl ρ σ σ)}{m:Nat}{s0:σ}(I:Nat→σ→Prop)(B:σ→Prop)(R:ρ→Prop)(h0:I 0 s0)
 (hs:∀k s,k<m→I k s→Evt (fun n=>body n k s) (w4u (I (k+1)) B R)):
 Evt (fun n=>r5J (body n) m s0) (ExP (fun s=>I m s∨B s) R):=by
 unfold r5J
 have key:∀j k s,k+j=m→I k s→Evt (fun n=>r9w (body n) j k s) (ExP (fun s=>I m s∨B s) R):=by
  intro j
  induction j with
  |zero=>
   intro k s e hi
   have:k=m:=by omega
   subst this
   exact Evt.pure (.inl hi)
  |succ j ih=>
   intro k s e hi
   obtain⟨c,hc,N,hN⟩:=hs k s (by omega) hi
   cases c with
   |nxt s'=>
    obtain⟨r,hr,M,hM⟩:=ih (k+1) s' (by omega) hc
    exact⟨r,hr,max N M,fun n hn=>by simp only[r9w,hN n (by omega)];exact hM n (by omega)⟩
   |brk t=>exact⟨.nxt t,.inr hc,N,fun n hn=>by simp only[r9w,hN n hn]⟩
   |ret x=>exact⟨.ret x,hc,N,fun n hn=>by simp only[r9w,hN n hn]⟩
 exact key m 0 s0 (by omega) h0
theorem Evt.loop{body:Nat→σ→Option (Ctl ρ σ τ)}{s0:σ}(mu:σ→Nat)(I:σ→Prop)(B:τ→Prop)(R:ρ→Prop)(h0:I s0)
 (hs:∀s,I s→Evt (fun n=>body n s) (w4u (fun s'=>I s'∧mu s'<mu s) B R)):
 Evt (fun n=>r6G (body n) n s0) (ExP B R):=by
 have key:∀d s,mu s≤d→I s→∃e,ExP B R e∧∃N,∀n,N≤n→∀f,d<f→r6G (body n) f s=some e:=by
  intro d
  induction d with
  |zero=>
   intro s hd hi
   obtain⟨c,hc,N,hN⟩:=hs s hi
   cases c with
   |nxt s'=>exact absurd hc.2 (by omega)
   |brk t=>refine⟨.nxt t,hc,N,fun n hn f hf=>?_⟩;obtain⟨g,rfl⟩:∃g,f=g+1:=⟨f-1,by omega⟩;simp only[r6G,hN n hn]
   |ret x=>refine⟨.ret x,hc,N,fun n hn f hf=>?_⟩;obtain⟨g,rfl⟩:∃g,f=g+1:=⟨f-1,by omega⟩;simp only[r6G,hN n hn]
  |succ d ih=>
   intro s hd hi
   obtain⟨c,hc,N,hN⟩:=hs s hi
   cases c with
   |nxt s'=>
    obtain⟨e,he,M,hM⟩:=ih s' (by have:=hc.2;omega) hc.1
    refine⟨e,he,max N M,fun n hn f hf=>?_⟩
    obtain⟨g,rfl⟩:∃g,f=g+1:=⟨f-1,by omega⟩
    simp only[r6G,hN n (by omega)]
    exact hM n (by omega) g (by omega)
   |brk t=>refine⟨.nxt t,hc,N,fun n hn f hf=>?_⟩;obtain⟨g,rfl⟩:∃g,f=g+1:=⟨f-1,by omega⟩;simp only[r6G,hN n hn]
   |ret x=>refine⟨.ret x,hc,N,fun n hn f hf=>?_⟩;obtain⟨g,rfl⟩:∃g,f=g+1:=⟨f-1,by omega⟩;simp only[r6G,hN n hn]
 obtain⟨e,he,N,hN⟩:=key (mu s0) s0 (Nat.le_refl _) h0
 exact⟨e,he,max N (mu s0+1),fun n hn=>hN n (by omega) n (by omega)⟩
end
section
variable {P:Program} {G:Gl}
theorem w5V{w:World}{m:Option (Nat×Nat)}{ob:Ob}:u1k w w m m ob ob:=by
 cases ob with
 |arr g n b es=>exact⟨Nat.le_refl _,fun _=>⟨rfl,rfl,rfl,rfl,fun blk base c ty _ h=>⟨c,h,rfl⟩⟩⟩
 |mps=>exact⟨rfl,rfl⟩
 |mpi=>exact⟨rfl,rfl,rfl⟩
 |sit=>exact(rfl:_=_)
 |resv=>exact trivial
theorem w4v{w0 w:World}{μ0 μ:Mu}{s0 st:St}{o gen g n b:Nat}{es:List (List D)}{v:Value}{len:Nat}(hsc:u4w (st.set o (some (.arr (gen+1) n b es))).length (st.set o (some (.arr (gen+1) n b es))))
 (ho:st[o]? =some (some (.arr gen n b []))) (hle:s0.length≤st.length) (hs:Sim w μ (st++[some (.arr g n b es)])) (hst:Step w0 μ0 s0 w μ (st++[some (.arr g n b es)])) (hv:VR w μ (st++[some (.arr g n b es)]) v (.ref false st.length g 0 len)):
 ∃μ',Sim w μ' (st.set o (some (.arr (gen+1) n b es)))∧Step w0 μ0 s0 w μ' (st.set o (some (.arr (gen+1) n b es)))∧VR w μ' (st.set o (some (.arr (gen+1) n b es))) v (.ref false o (gen+1) 0 len):=by
 have hlt:o<st.length:=(List.getElem?_eq_some_iff.1 ho).1
 let S:St:=st++[some (.arr g n b es)]
 let T:St:=st.set o (some (.arr (gen+1) n b es))
 let μ':Mu:=upd μ o (μ st.length)
 have hTo:T[o]? =some (some (.arr (gen+1) n b es)):=by simp[T,hlt]
 have hTx:∀o':Nat,o'≠o→T[o']? =st[o']? :=fun o' h=>by simp only[T];rw[List.getElem?_set_ne (fun e=>h e.symm)]
 have hSl:S[st.length]? =some (some (.arr g n b es)):=by simp[S]
 have hSx:∀o':Nat,o'<st.length→S[o']? =st[o']? :=fun o' h=>by simp only[S];rw[List.getElem?_append_left h]
 have y0e:T.length=st.length:=by simp[T]
 have hT2:∀(o':Nat) (ob:Ob),(T++[none])[o']? =some (some ob)→o'<st.length∧T[o']? =some (some ob):=fun o' ob h=>by
  by_cases hh:o'<T.length
  ·rw[List.getElem?_append_left hh]at h
   exact⟨by omega,h⟩
  ·rw[List.getElem?_append_right (by omega)]at h
   cases hk:o'-T.length with
   |zero=>rw[hk]at h;simp at h
   |succ k=>rw[hk]at h;simp at h
 have hμo:μ' o=μ st.length:=r5Z _ _ _
 have hμx:∀o',o'≠o→μ' o'=μ o':=fun o' h=>r8S _ _ _ h
 have step:Step w μ S w μ' (T++[none]):=by
  refine⟨Nat.le_refl _,rfl,rfl,⟨rfl,Nat.le_refl _⟩,fun _ _ _=>rfl,fun blk h=>.inl ?_,by simp[S,y0e],fun o' ob' hl h=>?_⟩
  ·obtain⟨o',ob,base,h1,h2⟩:=h
   obtain⟨h3,h4⟩:=hT2 o' ob h1
   by_cases e:o'=o
   ·subst e
    rw[hμo]at h2
    exact⟨_,_,base,hSl,h2⟩
   ·rw[hTx o' e, ←hSx o' h3]at h4
    rw[hμx o' e]at h2
    exact⟨_,_,base,h4,h2⟩
  ·obtain⟨h3,h4⟩:=hT2 o' ob' h
   by_cases e:o'=o
   ·subst e
    rw[hTo]at h4
    cases h4
    exact⟨_,(hSx _ h3).trans ho,Nat.le_succ _,fun e=>absurd e (by omega)⟩
   ·rw[hTx o' e, ←hSx o' h3]at h4
    refine⟨ob',h4,?_⟩
    rw[hμx o' e]
    exact w5V
 have hs2:Sim w μ' (T++[none]):=by
  refine⟨fun o' ob h=>?_,fun o1 o2 ob1 ob2 blk b1 b2 e1 e2 m1 m2=>?_⟩
  ·obtain⟨h3,h4⟩:=hT2 o' ob h
   by_cases e:o'=o
   ·subst e
    rw[hTo]at h4
    cases h4
    rw[hμo]
    have:=(hs.obj _ _ hSl).step step (fun _ _ _=>rfl)
    exact this
   ·rw[hTx o' e, ←hSx o' h3]at h4
    rw[hμx o' e]
    exact(hs.obj _ _ h4).step step (fun _ _ _=>rfl)
  ·obtain⟨h3,h4⟩:=hT2 o1 ob1 e1
   obtain⟨h5,h6⟩:=hT2 o2 ob2 e2
   by_cases a1:o1=o
   ·by_cases a2:o2=o
    ·rw[a1,a2]
    ·subst a1
     rw[hμo]at m1
     rw[hμx o2 a2]at m2
     rw[hTx o2 a2, ←hSx o2 h5]at h6
     have:=hs.inj _ _ _ _ blk b1 b2 hSl h6 m1 m2
     omega
   ·by_cases a2:o2=o
    ·subst a2
     rw[hμo]at m2
     rw[hμx o1 a1]at m1
     rw[hTx o1 a1, ←hSx o1 h3]at h4
     have:=hs.inj _ _ _ _ blk b1 b2 h4 hSl m1 m2
     omega
    ·rw[hμx o1 a1]at m1
     rw[hμx o2 a2]at m2
     rw[hTx o1 a1, ←hSx o1 h3]at h4
     rw[hTx o2 a2, ←hSx o2 h5]at h6
     exact hs.inj _ _ _ _ blk b1 b2 h4 h6 m1 m2
 have hw:w8q (T++[none]) T:=u8Z hsc
 refine⟨μ',hs2.wk hw,(hst.trans step).wk (by simpa[T]using hle) hw,?_⟩
 cases hv with
 |tr h=>cases h
 |ref _ _ _ _ _ _ hv1 _ _ _ hr=>
  have:=hr n b es hSl
  refine .ref _ _ _ _ _ _ hv1 (by simpa using hlt) (by rw[hTo];simp) (fun g' n' b' es' h=>by rw[hTo]at h;cases h;exact Nat.le_refl _) (fun n' b' es' h=>?_)
  rw[hTo]at h
  cases h
  rw[hμo]
  exact this
theorem x2E{w0 w:World}{μ0 μ:Mu}{st:St}{o gen n b:Nat}{v:Value}(ho:st[o]? =some (some (.arr gen n b [])))(hs:Sim w μ st)(hst:Step w0 μ0 st w μ st)(hv:VR w μ st v .r5g):
 Sim w μ (st.set o (some (.arr (gen+1) n b [])))∧Step w0 μ0 st w μ (st.set o (some (.arr (gen+1) n b [])))∧VR w μ (st.set o (some (.arr (gen+1) n b []))) v (.ref false o (gen+1) 0 0):=by
 have hlt:o<st.length:=(List.getElem?_eq_some_iff.1 ho).1
 have h:=u1L (w:=w) (w':=w) (μ':=μ) (ob':=.arr (gen+1) n b []) hs ho (fun _ _=>rfl) (fun _ _ _=>rfl) (Nat.le_refl _) rfl rfl ⟨rfl,Nat.le_refl _⟩ (fun blk base e=>.inl ⟨base,e⟩) ⟨Nat.le_succ _,fun e=>absurd e (by omega)⟩
  (fun s=>by
   have:=(hs.obj _ _ ho).step s (fun _ _ _=>rfl)
   exact this)
 refine⟨h.1,hst.trans h.2,?_⟩
 obtain rfl:=u5t hv
 have hTo:(st.set o (some (.arr (gen+1) n b [])))[o]? =some (some (.arr (gen+1) n b [])):=by simp[hlt]
 refine .ref _ _ _ _ _ _ ⟨_,_,_,rfl⟩ (by simpa using hlt) (by rw[hTo];simp) (fun g' n' b' es' h=>by rw[hTo]at h;cases h;exact Nat.le_refl _) (fun n' b' es' h=>?_)
 exact⟨none,0,rfl,Nat.le_refl _,Nat.zero_le _,(fun hf=>by cases hf),.inl rfl⟩
theorem x0g{f:FuncId}{args:List D}{st:St}{o gen g n b:Nat}{es:List (List D)}(hsc:u4w st.length st→u4w (st.set o (some (.arr (gen+1) n b es))).length (st.set o (some (.arr (gen+1) n b es))))
 (hlk:look st o=some (.arr gen n b [])) (h:Am.Spec P G f args st fun d st'=>(d= .ref false st.length g 0 es.length∧st'=st++[some (.arr g n b es)])∨(d= .ref false (st.length+1) g 0 es.length∧st'=st++[none,some (.arr g n b es)])∨(d= .r5g∧st'=st∧es=[])):
 Am.Spec P G f args st fun d st'=>d= .ref false o (gen+1) 0 es.length∧st'=puts st [(o,.arr (gen+1) n b es)]:=by
 have ho:=r5w hlk
 refine⟨trivial,fun w μ vs h1 h2 h3 h4=>(h.2 w μ vs h1 h2 h3 h4).mono fun e w' ⟨v,d,st',μ',a,hR,c1,c2,c3⟩=>?_⟩
 rcases hR with⟨rfl,rfl⟩|⟨rfl,rfl⟩|⟨rfl,rfl,rfl⟩
 ·obtain⟨μ2,k1,k2,k3⟩:=w4v (hsc h1.sc) ho (Nat.le_refl _) c1 c2 c3
  exact⟨v,_,_,μ2,a,⟨rfl,rfl⟩,k1,k2,k3⟩
 ·have hlt:o<st.length:=(List.getElem?_eq_some_iff.1 ho).1
  have ho2:(st++[none])[o]? =some (some (.arr gen n b [])):=by rw[List.getElem?_append_left hlt];exact ho
  have e1:st++[none,some (.arr g n b es)]=(st++[none])++[some (.arr g n b es)]:=by simp
  have e2:st.length+1=(st++[none]).length:=by simp
  have e3:(st++[none]).set o (some (.arr (gen+1) n b es))=st.set o (some (.arr (gen+1) n b es))++[none]:=List.set_append_left _ _ hlt
  rw[e1]at c1 c2 c3
  rw[e2]at c3
  have y1m:=hsc h1.sc
  have y2k:u4w (st.set o (some (.arr (gen+1) n b es))).length (st.set o (some (.arr (gen+1) n b es)))→u4w ((st++[none]).set o (some (.arr (gen+1) n b es))).length ((st++[none]).set o (some (.arr (gen+1) n b es))):=fun h o' ob hh=>by
   rw[e3]at hh⊢
   by_cases hl:o'<(st.set o (some (.arr (gen+1) n b es))).length
   ·rw[List.getElem?_append_left hl]at hh
    exact Ob.w8r (by simp) (h o' ob hh)
   ·rw[List.getElem?_append_right (by omega)]at hh
    cases hk:o'-(st.set o (some (.arr (gen+1) n b es))).length with
    |zero=>rw[hk]at hh;simp at hh
    |succ k=>rw[hk]at hh;simp at hh
  obtain⟨μ2,k1,k2,k3⟩:=w4v (y2k y1m) ho2 (by rw[List.length_append];exact Nat.le_add_right _ _) c1 c2 c3
  rw[e3]at k1 k2 k3
  have hw:w8q (st.set o (some (.arr (gen+1) n b es))++[none]) (st.set o (some (.arr (gen+1) n b es))):=u8Z y1m
  exact⟨v,_,_,μ2,a,⟨rfl,rfl⟩,k1.wk hw,k2.wk (by show _≤(st.set o _).length;rw[List.length_set];exact Nat.le_refl _) hw,k3.kill hw.kill (by show o<_;simpa using hlt)⟩
 ·obtain⟨k1,k2,k3⟩:=x2E ho c1 c2 c3
  exact⟨v,_,_,_,a,⟨rfl,rfl⟩,k1,k2,k3⟩
end
theorem x0h{P:Program}{gl:Gl}{st T:St}{f:FuncId}{args:List D}{R:D→St→Prop}(hw:w8q st T)(hl:st.length≤T.length)(hsc:D.scs T.length args)(h:Spec P gl f args T R):Spec P gl f args st R:=by
 refine⟨h.1,fun w μ vs hs hg hsz hvs=>?_⟩
 have hv0:∀j (hj:j<args.length),VR w μ T (vs.getD j undef) (args[j]):=fun j hj=>VR.up hs hw.kill (.same _) (hvs j hj) (u0B hsc j hj)
 refine(h.2 w μ vs (hs.wk hw) (w0u hg (fun _ h=>hw.kill.own h)) hsz hv0).mono fun e w' ⟨v,d,st',μ',he,hR,hs',hstep,hv⟩=>?_
 exact⟨v,d,st',μ',he,hR,hs',(Step.wk hl hw (Step.refl w μ st)).trans hstep,hv⟩
end Go.Am
namespace Go.Am
open Go Go.Sort Go.Shelf
open Go.Proofs (ltOf sortWorldK)
section
variable {α:Type} [Inhabited α] {P:Program} {G:Gl}
def u2w(cf:α→α→Int)(l:List α):List α:=(pdq (ltOf cf) l.toArray 0 l.toArray.size (Lib.bitLen l.toArray.size) true true).toList
omit [Inhabited α] in
theorem x0i{X:Array α}{n:Nat}(h:X.size=n):X.extract 0 n=X:=by rw[←h];simp
theorem u8x{cf:α→α→Int}(hO:SWO (ltOf cf))(l:List α):(u2w cf l).Perm l∧(u2w cf l).length=l.length∧∀i j,i<j→j<l.length→¬cf (get (u2w cf l) j) (get (u2w cf l) i)<0:=by
 have h:=pdq_sorts (ltOf cf) hO l.toArray 0 l.toArray.size (Lib.bitLen l.toArray.size) true true (Nat.zero_le _) (Nat.le_refl _) (Or.inl rfl)
 obtain⟨⟨hs,_,hp⟩,hso⟩:=h
 have hs2:(u2w cf l).length=l.length:=by
  unfold u2w
  simpa using hs
 refine⟨?_,hs2,fun i j hi hj=>?_⟩
 ·have e1:(pdq (ltOf cf) l.toArray 0 l.toArray.size (Lib.bitLen l.toArray.size) true true).extract 0 l.toArray.size=pdq (ltOf cf) l.toArray 0 l.toArray.size (Lib.bitLen l.toArray.size) true true:=x0i hs
  have e2:l.toArray.extract 0 l.toArray.size=l.toArray:=x0i rfl
  rw[e1,e2]at hp
  exact hp
 ·have:=hso i j (Nat.zero_le _) hi (by simpa using hj)
  have g:∀k,get (u2w cf l) k=(pdq (ltOf cf) l.toArray 0 l.toArray.size (Lib.bitLen l.toArray.size) true true)[k]! :=fun k=>by
   unfold u2w get
   rw[List.getD_eq_getElem?_getD,Array.getElem?_toList,Array.getElem!_eq_getD,Array.getD_eq_getD_getElem?]
  rw[g,g]
  unfold ltOf at this
  exact of_decide_eq_false this
theorem x2F{cf:α→α→Int}(hO:SWO (ltOf cf))(ha:∀x y,¬cf x y<0→¬cf y x<0→x=y)(l:List α):u2w cf l=u6t cf l:=by
 obtain⟨h1,h2,h3⟩:=u8x hO l
 refine w2Y ha _ _ (List.pairwise_iff_getElem.2 fun i j hi hj hij=>?_) (w0C hO l) (h1.trans (u2P cf l).symm)
 have:=h3 i j hij (by omega)
 simpa[get,hi,hj]using this
structure w5W(E:α→List D)(enc:α→List Value)(k:Nat):Prop where
 x0j:∀x,(E x).length=k
 x7D:∀x,(enc x).length=k
 one:∀x,∀v∈enc x,v.oneCell'=true
 to:∀(w:World) (μ:Mu) (st:St) (x:α) (j:Nat) (h:j<(E x).length) (v:Value),VR w μ st v ((E x)[j])→v=(enc x)[j]!
 fro:∀(w:World) (μ:Mu) (st:St) (x:α) (j:Nat) (h:j<(E x).length),VR w μ st ((enc x)[j]!) ((E x)[j])
theorem w8v{W w':World}(hs:W.heap.size≤w'.heap.size)(ho:w'.os=W.os)(hout:w'.output=W.output)(ht:w'.tape=W.tape)(hd:W.drawn≤w'.drawn)(hh:∀j,j<W.heap.size→w'.heap[j]? =W.heap[j]?):∃q os',w'=grow (W.drewN q) os':=by
 refine⟨w'.drawn-W.drawn,w'.heap.extract W.heap.size w'.heap.size,?_⟩
 obtain⟨heap,tape,drawn,os,output⟩:=w'
 simp only at*
 subst ho hout ht
 unfold grow World.drewN
 have e1:heap=W.heap++heap.extract W.heap.size heap.size:=by
  apply Array.ext_getElem?
  intro j
  by_cases hj:j<W.heap.size
  ·rw[hh j hj,Array.getElem?_append_left hj]
  ·rw[Array.getElem?_append_right (by omega),Array.getElem?_extract]
   by_cases hj2:j<heap.size
   ·rw[if_pos (by omega),show W.heap.size+(j-W.heap.size)=j by omega]
   ·rw[if_neg (by omega),Array.getElem?_eq_none (by omega)]
 have e2:drawn=W.drawn+(drawn-W.drawn):=by omega
 rw[World.mk.injEq]
 exact⟨e1,rfl,e2,rfl,rfl⟩
theorem x2G{E:α→List D}{enc:α→List Value}{k g:Nat}{cf:α→α→Int}(he:w5W E enc k)(hg:u3o P g=true)(hcf:∀x y,Pure P G g [.agg (E x),.agg (E y)] (.int .i64 (cf x y)))
 {blk off size:Nat} {w:World} (hG:∀m os (dk:Array α),dk.size=size→Glob G (sortWorldK enc k w blk off m dk os) (fun _=>none) []):Go.Proofs.CmpLays P g #[] enc k cf blk off size w:=by
 intro m os dk hs x y
 have hx:∀z:α,VR (sortWorldK enc k w blk off m dk os) (fun _=>none) [] (.agg (enc z).toArray) (.agg (E z)):=fun z=>
  .agg _ _ (by simp[he.x0j,he.x7D]) fun j hj=>by
   have:=he.fro (sortWorldK enc k w blk off m dk os) (fun _=>none) [] z j hj
   have e:(enc z).toArray.getD j undef=(enc z)[j]! :=by
    have hj2:j<(enc z).length:=by rw[he.x7D, ←he.x0j z];exact hj
    simp[Array.getD_eq_getD_getElem?, hj2]
   rw[e];exact this
 have h:=((hcf x y []).2 (sortWorldK enc k w blk off m dk os) (fun _=>none) #[.agg (enc x).toArray,.agg (enc y).toArray] ⟨fun o ob h=>by simp at h,fun o o' ob ob' blk b b' h=>by simp at h⟩ (hG m os dk hs) rfl (fun j hj=>by
  match j,hj with
  |0,_=>exact hx x
  |1,_=>exact hx y)).calls hg
 refine h.mono fun e w' ⟨v,d,st',μ',h1,⟨hd,hst⟩,_,hstep,hv⟩=>?_
 subst hd;subst hst
 have hv:=u0F hv
 subst hv
 exact⟨h1,w8v hstep.size hstep.os hstep.output hstep.tape.1 hstep.tape.2 fun j hj=>hstep.imm j hj fun⟨o,ob,b,h,_⟩=>by simp at h⟩
theorem w0H{enc:α→List Value}{k:Nat}{w:World}{blk off m:Nat}{d:Array α}{os:Array Obj}:(sortWorldK enc k w blk off m d os).heap=w.heap.modify blk (onCells (putCells id off (flatK enc k d)))++os:=rfl
theorem u9a{enc:α→List Value}{k:Nat}{w:World}{blk off m:Nat}{d:Array α}{os:Array Obj}{c:Array Value}{ty:TypeId}{fr:Nat×Nat}(hb:w.heap[blk]? =some (.cells c ty fr)):
 (sortWorldK enc k w blk off m d os).heap[blk]? =some (.cells (putCells id off (flatK enc k d) c) ty fr):=by
 have hlt:blk<w.heap.size:=(Array.getElem?_eq_some_iff.1 hb).1
 rw[w0H,Array.getElem?_append_left (by simpa using hlt),Array.getElem?_modify,if_pos rfl,hb]
 rfl
theorem u5E{enc:α→List Value}{k:Nat}{w:World}{blk off m j:Nat}{d:Array α}{os:Array Obj}(hj:j<w.heap.size)(hne:j≠blk):
 (sortWorldK enc k w blk off m d os).heap[j]? =w.heap[j]? :=by
 rw[w0H,Array.getElem?_append_left (by simpa using hj),Array.getElem?_modify,if_neg (fun e=>hne e.symm)]
theorem x0k{ρ:Ren}{E:α→List D}{enc:α→List Value}{k g o gen b:Nat}{cf:α→α→Int}{full:Bool}{st:St}{l:List α}(L:Go.Proofs.SlLaysF0.n6 P ρ)(aE:∀w,(isAgg (ρ.t 24)).run P w= .ok true w)(zE:∀w,(Go.sizeOf (ρ.t 24)).run P w= .ok k w)
 (he:w5W E enc k) (hk:0<k) (hO:SWO (ltOf cf)) (hg:u3o P g=true) (hb:u3o P (ρ.f 6)=true) (hcf:∀x y,Pure P G g [.agg (E x),.agg (E y)] (.int .i64 (cf x y)))
 (hlk:look st o=some (.arr gen k b (rows E l))) (hl:l.length<4611686018427387904):
 Am.Spec P G (ρ.f 6) [.ref full o gen 0 l.length,.fn g [] []] st (fun d st'=>d= .tup []∧st'=r5k st [(o,.arr gen k b (rows E (u2w cf l)))]):=by
 refine⟨trivial,fun w μ vs hs hG hn hv=>.inl ⟨hb,?_⟩⟩
 have h0:=hv 0 (by simp)
 have h1:=hv 1 (by simp)
 obtain⟨v0,v1,rfl⟩:∃a b,vs= #[a,b]:=by
  have:vs.size=2:=by simpa using hn
  refine⟨vs[0],vs[1],?_⟩
  apply Array.ext
  ·simpa using this
  ·intro i h1 h2
   match i,h1,h2 with
   |0,_,_=>rfl
   |1,_,_=>rfl
   |n+2,h1,_=>omega
 have h0:VR w μ st v0 (.ref full o gen 0 l.length):=h0
 have h1:VR w μ st v1 (.fn g [] []):=h1
 obtain rfl:v1= .func (.func g) #[] #[]:=by
  cases h1 with
  |tr h=>cases h
  |fn _ vf vc _ _ hf hc _ _=>
   have e1:vf= #[]:=Array.eq_empty_of_size_eq_zero hf
   have e2:vc= #[]:=Array.eq_empty_of_size_eq_zero hc
   rw[e1,e2]
 have hst:st[o]? =some (some (.arr gen k b (rows E l))):=r5w hlk
 have ho:o<st.length:=r5h hlk
 cases h0 with
 |tr h=>cases h
 |ref _ _ _ _ _ _ _ _ _ _ hr=>
  obtain⟨a,cap,rfl,c1,c2,_,c4⟩:=hr k b (rows E l) hst
  by_cases hl0:l=[]
  ·subst hl0
   refine(Go.Proofs.AnyF.slices_SortFunc_none L a cap _ w).mono fun e w' ⟨he1,he2⟩=>?_
   subst he2
   refine⟨_,.tup [],st,μ,he1,⟨rfl,?_⟩,hs,Step.refl _ _ _,.tup _ _ (fun j h=>absurd h (Nat.not_lt_zero _)) (fun j h=>absurd h (Nat.not_lt_zero _))⟩
   have e:u2w cf ([]:List α)=[]:=List.eq_nil_of_length_eq_zero (by rw[(u8x hO []).2.1];rfl)
   rw[e,r5p (by simp[hlk])]
  ·have hlen:0<l.length:=List.length_pos_iff.2 hl0
   obtain⟨blk,base,hm,rfl,c,ty,u1v,hsz⟩:=c4.resolve_left (by omega)
   rw[Nat.zero_mul,Nat.add_zero]at*
   have hob:u6V w μ st (μ o) k b (rows E l):=hs.obj o _ hst
   obtain⟨u8k,base',c',ty',hm',x3J,hsz',hcell⟩:=hob.loc.resolve_left (fun h=>by rw[hm]at h;cases h.1)
   rw[hm]at hm'
   cases hm'
   rw[u1v]at x3J
   cases x3J
   have hblk:blk<w.heap.size:=(Array.getElem?_eq_some_iff.1 u1v).1
   have hrl:(rows E l).length=l.length:=u6P l
   have w3P:∀i j,i<l.length→j<k→c[base+(i*k+j)]? =some (enc (l.toArray[i]!))[j]! :=fun i j hi hj=>by
    have hi':i<(rows E l).length:=by rw[hrl];exact hi
    have er:(rows E l)[i]=E l[i]:=by simp[rows]
    have hj':j<((rows E l)[i]).length:=by rw[er,he.x0j];exact hj
    obtain⟨v,e1,e2,_⟩:=hcell i j hi' hj'
    have e3:VR w μ st v ((E l[i])[j]'(by rw[he.x0j];exact hj)):=by
     have:((rows E l)[i])[j]=(E l[i])[j]'(by rw[he.x0j];exact hj):=by simp[er]
     rw[←this];exact e2
    rw[e1,he.to w μ st l[i] j (by rw[he.x0j];exact hj) v e3]
    simp[hi]
   have hH:HoldsK enc k w blk base l.toArray:=fun t ht=>by
    rw[size_flatK]at ht
    have ht2:t<l.length*k:=by simpa using ht
    have hi:t / k<l.length:=Nat.div_lt_of_lt_mul (by rw[Nat.mul_comm];exact ht2)
    have hj:t%k<k:=Nat.mod_lt _ hk
    have e1:t=t / k*k+t%k:=by rw[Nat.mul_comm];exact(Nat.div_add_mod t k).symm
    refine⟨?_,?_⟩
    ·rw[get_flatK _ _ _ _ ht]
     unfold World.cell?
     simp only[u1v]
     have:=w3P (t / k) (t%k) hi hj
     rw[←e1]at this
     simpa using this
    ·unfold World.frozen?
     simp only[u1v]
     simp
   have hGl:∀m os (dk:Array α),dk.size=l.toArray.size→Glob G (sortWorldK enc k w blk base m dk os) (fun _=>none) []:=fun m os dk _=>by
    refine⟨fun gg cs e=>(hG.tab gg cs e).mono (fun b' hb' hnb=>⟨u5E hb' fun e2=>hnb ⟨o,_,base,hst,by rw[e2];exact hm⟩,fun⟨o',ob',b2,h3,_⟩=>by simp at h3⟩) ?_,fun gg cc e=>?_⟩
    ·rw[w0H];simp
    ·obtain⟨h1,h2,ty,fr,h3⟩:=hG.all gg cc e
     refine⟨by rw[w0H];simp;omega,fun⟨o',ob',b2,h4,_⟩=>by simp at h4,ty,fr,?_⟩
     rw[u5E h1 fun e2=>h2 ⟨o,_,base,hst,by rw[e2];exact hm⟩]
     exact h3
   refine(Go.Proofs.AnyQ.slices_SortFunc_eq L k aE zE enc he.x7D he.one cf hO g #[] blk base cap l.toArray w (fun args w2=>w0t hg args w2) (x2G he hg hcf hGl) hH hblk (by simpa using hl)).mono fun e w' ⟨he1,m,os,hw⟩=>?_
   subst hw
   obtain⟨_,sl2,_⟩:=u8x hO l
   have hds:(pdq (ltOf cf) l.toArray 0 l.toArray.size (Lib.bitLen l.toArray.size) true true)=(u2w cf l).toArray:=by unfold u2w;simp
   rw[hds]
   have key:=u1L (w':=sortWorldK enc k w blk base m (u2w cf l).toArray os) (μ':=μ) (ob':=.arr gen k b (rows E (u2w cf l))) hs hst (fun _ _=>rfl)
    (fun b' hb' hne=>u5E hb' fun e2=>hne base (by rw[e2];exact hm)) (by rw[w0H];simp) rfl rfl ⟨rfl,Nat.le_add_right _ _⟩
    (fun b' base' e2=>.inl ⟨base',e2⟩) ⟨Nat.le_refl _,fun _=>⟨rfl,rfl,by rw[u6P,u6P,sl2],rfl,fun b' base' c2 ty2 hm2 hh2=>by
     rw[hm]at hm2
     cases hm2
     rw[u1v]at hh2
     cases hh2
     exact⟨_,u9a u1v,by simp[putCells]⟩⟩⟩
    (fun s=>⟨by rw[u6P,sl2];simpa[u6P]using hob.x9r,fun x hx=>by
     obtain⟨y,_,rfl⟩:=List.mem_map.1 hx
     exact he.x0j y,.inr ⟨blk,base,_,ty,hm,u9a u1v,by rw[u6P,sl2];simpa[putCells,u6P]using hsz',fun i j hi hj=>by
     have hi2:i<(u2w cf l).length:=by rw[u6P]at hi;exact hi
     have er:(rows E (u2w cf l))[i]=E (u2w cf l)[i]:=by simp[rows]
     have hj2:j<k:=by rw[er,he.x0j]at hj;exact hj
     have hlt:i*k+j<(u2w cf l).toArray.size*k:=by
      have:=Nat.mul_le_mul_right k (show i+1≤(u2w cf l).toArray.size by simp only[List.size_toArray];omega)
      rw[Nat.add_mul,Nat.one_mul]at this
      omega
     have q1:(i*k+j) / k=i:=by rw[Nat.mul_comm,Nat.mul_add_div hk,Nat.div_eq_of_lt hj2,Nat.add_zero]
     have q2:(i*k+j)%k=j:=by rw[Nat.mul_comm,Nat.mul_add_mod,Nat.mod_eq_of_lt hj2]
     have hc:base+(i*k+j)<c.size:=by
      have h9:base+(rows E l).length*k≤c.size:=hsz'
      rw[u6P, ←sl2]at h9
      have:i*k+j<(u2w cf l).length*k:=by simpa using hlt
      omega
     refine⟨(enc (u2w cf l)[i])[j]!, ?_,?_,?_⟩
     ·unfold putCells
      rw[Array.getElem?_mapIdx,Array.getElem?_eq_getElem hc,Option.map_some,if_pos ⟨by omega,by rw[size_flatK];omega⟩,Nat.add_sub_cancel_left,get_flatK _ _ _ _ hlt,q1,q2]
      simp[hi2]
     ·have:=he.fro (sortWorldK enc k w blk base m (u2w cf l).toArray os) μ (st.set o (some (.arr gen k b (rows E (u2w cf l))))) (u2w cf l)[i] j (by rw[he.x0j];exact hj2)
      have e4:((rows E (u2w cf l))[i])[j]=(E (u2w cf l)[i])[j]'(by rw[he.x0j];exact hj2):=by simp[er]
      rw[e4];exact this
     ·refine he.one (u2w cf l)[i] _ ?_
      have hj3:j<(enc (u2w cf l)[i]).length:=by rw[he.x7D];exact hj2
      rw[List.getElem!_eq_getElem?_getD,List.getElem?_eq_getElem hj3]
      exact List.getElem_mem hj3⟩⟩)
   exact⟨_,.tup [],_,μ,he1,⟨rfl,rfl⟩,key.1,key.2,.tup _ _ (fun j h=>absurd h (Nat.not_lt_zero _)) (fun j h=>absurd h (Nat.not_lt_zero _))⟩
end
end Go.Am
namespace Go.Am
open Go
theorem ndg{l:List Nat}(h:l.Nodup)(i j:Nat)(hi:i<j)(hj:j<l.length):((l[i]'(Nat.lt_trans hi hj)=l[j])=False)∧((l[j]=l[i]'(Nat.lt_trans hi hj))=False):=by
 have:=(List.pairwise_iff_getElem.1 h) i j (Nat.lt_trans hi hj) hj hi
 exact⟨eq_false this,eq_false fun e=>this e.symm⟩
theorem r5O{d:Option Ob}:∀ {m:List (Nat×Ob)} (_:(m.map (·.1)).Nodup) (j:Nat) (hj:j<m.length),w2W m (m[j]).1 d=some (m[j]).2
 |(a,y)::m,h,0,_=>by
  show(if a=a then some y else _)=_
  rw[if_pos rfl];rfl
 |(a,y)::m,h,j+1,hj=>by
  rw[List.map_cons,List.nodup_cons]at h
  have hj:j<m.length:=by simpa using hj
  have hne:¬(m[j]).1=a:=fun e=>h.1 (List.mem_map.2 ⟨m[j],List.getElem_mem hj,e⟩)
  show(if(m[j]).1=a then some y else w2W m (m[j]).1 d)=some (m[j]).2
  rw[if_neg hne,r5O h.2 j hj]
theorem r6q{x:Ob}:∀ {m:List (Nat×Ob)} (_:(m.map (·.1)).Nodup) (j:Nat) (hj:j<m.length),x2w m (m[j]).1 x=m.set j ((m[j]).1,x)
 |(a,y)::m,h,0,_=>by
  show(if a=a then(a,x)::m else _)=_
  rw[if_pos rfl];rfl
 |(a,y)::m,h,j+1,hj=>by
  rw[List.map_cons,List.nodup_cons]at h
  have hj:j<m.length:=by simpa using hj
  have hne:¬(m[j]).1=a:=fun e=>h.1 (List.mem_map.2 ⟨m[j],List.getElem_mem hj,e⟩)
  show(if(m[j]).1=a then(a,x)::m else(a,y)::x2w m (m[j]).1 x)=(a,y)::m.set j ((m[j]).1,x)
  rw[if_neg hne,r6q h.2 j hj]
theorem y2l{st:St}{x0 x1 x2 x3 x4 x5 x6 x7 x8 x9 x10 x11 x12 x13 x14 x15 x16 x17:Nat}(h: [x0,x1,x2,x3,x4,x5,x6,x7,x8,x9,x10,x11,x12,x13,x14,x15,x16,x17].Nodup)(h0:x0<st.length)(h1:x1<st.length)(h2:x2<st.length)(h3:x3<st.length)(h4:x4<st.length)(h5:x5<st.length)(h6:x6<st.length)(h7:x7<st.length)(h8:x8<st.length)(h9:x9<st.length)(h10:x10<st.length)(h11:x11<st.length)(h12:x12<st.length)(h13:x13<st.length)(h14:x14<st.length)(h15:x15<st.length)(h16:x16<st.length)(h17:x17<st.length):
 ((∀(l:St) (X0 X1 X2 X3 X4 X5 X6 X7 X8 X9 X10 X11 X12 X13 X14 X15 X16 X17:Ob),look (r5k st [(x0,X0),(x1,X1),(x2,X2),(x3,X3),(x4,X4),(x5,X5),(x6,X6),(x7,X7),(x8,X8),(x9,X9),(x10,X10),(x11,X11),(x12,X12),(x13,X13),(x14,X14),(x15,X15),(x16,X16),(x17,X17)]++l) x0=some X0)∧(∀(l:St) (X0 X1 X2 X3 X4 X5 X6 X7 X8 X9 X10 X11 X12 X13 X14 X15 X16 X17 x:Ob),(r5k st [(x0,X0),(x1,X1),(x2,X2),(x3,X3),(x4,X4),(x5,X5),(x6,X6),(x7,X7),(x8,X8),(x9,X9),(x10,X10),(x11,X11),(x12,X12),(x13,X13),(x14,X14),(x15,X15),(x16,X16),(x17,X17)]++l).set x0 (some x)=r5k st [(x0,x),(x1,X1),(x2,X2),(x3,X3),(x4,X4),(x5,X5),(x6,X6),(x7,X7),(x8,X8),(x9,X9),(x10,X10),(x11,X11),(x12,X12),(x13,X13),(x14,X14),(x15,X15),(x16,X16),(x17,X17)]++l)∧(∀X0 X1 X2 X3 X4 X5 X6 X7 X8 X9 X10 X11 X12 X13 X14 X15 X16 X17:Ob,look (r5k st [(x0,X0),(x1,X1),(x2,X2),(x3,X3),(x4,X4),(x5,X5),(x6,X6),(x7,X7),(x8,X8),(x9,X9),(x10,X10),(x11,X11),(x12,X12),(x13,X13),(x14,X14),(x15,X15),(x16,X16),(x17,X17)]) x0=some X0)∧∀X0 X1 X2 X3 X4 X5 X6 X7 X8 X9 X10 X11 X12 X13 X14 X15 X16 X17 x:Ob,(r5k st [(x0,X0),(x1,X1),(x2,X2),(x3,X3),(x4,X4),(x5,X5),(x6,X6),(x7,X7),(x8,X8),(x9,X9),(x10,X10),(x11,X11),(x12,X12),(x13,X13),(x14,X14),(x15,X15),(x16,X16),(x17,X17)]).set x0 (some x)=r5k st [(x0,x),(x1,X1),(x2,X2),(x3,X3),(x4,X4),(x5,X5),(x6,X6),(x7,X7),(x8,X8),(x9,X9),(x10,X10),(x11,X11),(x12,X12),(x13,X13),(x14,X14),(x15,X15),(x16,X16),(x17,X17)])
 ∧((∀(l:St) (X0 X1 X2 X3 X4 X5 X6 X7 X8 X9 X10 X11 X12 X13 X14 X15 X16 X17:Ob),look (r5k st [(x0,X0),(x1,X1),(x2,X2),(x3,X3),(x4,X4),(x5,X5),(x6,X6),(x7,X7),(x8,X8),(x9,X9),(x10,X10),(x11,X11),(x12,X12),(x13,X13),(x14,X14),(x15,X15),(x16,X16),(x17,X17)]++l) x1=some X1)∧(∀(l:St) (X0 X1 X2 X3 X4 X5 X6 X7 X8 X9 X10 X11 X12 X13 X14 X15 X16 X17 x:Ob),(r5k st [(x0,X0),(x1,X1),(x2,X2),(x3,X3),(x4,X4),(x5,X5),(x6,X6),(x7,X7),(x8,X8),(x9,X9),(x10,X10),(x11,X11),(x12,X12),(x13,X13),(x14,X14),(x15,X15),(x16,X16),(x17,X17)]++l).set x1 (some x)=r5k st [(x0,X0),(x1,x),(x2,X2),(x3,X3),(x4,X4),(x5,X5),(x6,X6),(x7,X7),(x8,X8),(x9,X9),(x10,X10),(x11,X11),(x12,X12),(x13,X13),(x14,X14),(x15,X15),(x16,X16),(x17,X17)]++l)∧(∀X0 X1 X2 X3 X4 X5 X6 X7 X8 X9 X10 X11 X12 X13 X14 X15 X16 X17:Ob,look (r5k st [(x0,X0),(x1,X1),(x2,X2),(x3,X3),(x4,X4),(x5,X5),(x6,X6),(x7,X7),(x8,X8),(x9,X9),(x10,X10),(x11,X11),(x12,X12),(x13,X13),(x14,X14),(x15,X15),(x16,X16),(x17,X17)]) x1=some X1)∧∀X0 X1 X2 X3 X4 X5 X6 X7 X8 X9 X10 X11 X12 X13 X14 X15 X16 X17 x:Ob,(r5k st [(x0,X0),(x1,X1),(x2,X2),(x3,X3),(x4,X4),(x5,X5),(x6,X6),(x7,X7),(x8,X8),(x9,X9),(x10,X10),(x11,X11),(x12,X12),(x13,X13),(x14,X14),(x15,X15),(x16,X16),(x17,X17)]).set x1 (some x)=r5k st [(x0,X0),(x1,x),(x2,X2),(x3,X3),(x4,X4),(x5,X5),(x6,X6),(x7,X7),(x8,X8),(x9,X9),(x10,X10),(x11,X11),(x12,X12),(x13,X13),(x14,X14),(x15,X15),(x16,X16),(x17,X17)])
 ∧((∀(l:St) (X0 X1 X2 X3 X4 X5 X6 X7 X8 X9 X10 X11 X12 X13 X14 X15 X16 X17:Ob),look (r5k st [(x0,X0),(x1,X1),(x2,X2),(x3,X3),(x4,X4),(x5,X5),(x6,X6),(x7,X7),(x8,X8),(x9,X9),(x10,X10),(x11,X11),(x12,X12),(x13,X13),(x14,X14),(x15,X15),(x16,X16),(x17,X17)]++l) x2=some X2)∧(∀(l:St) (X0 X1 X2 X3 X4 X5 X6 X7 X8 X9 X10 X11 X12 X13 X14 X15 X16 X17 x:Ob),(r5k st [(x0,X0),(x1,X1),(x2,X2),(x3,X3),(x4,X4),(x5,X5),(x6,X6),(x7,X7),(x8,X8),(x9,X9),(x10,X10),(x11,X11),(x12,X12),(x13,X13),(x14,X14),(x15,X15),(x16,X16),(x17,X17)]++l).set x2 (some x)=r5k st [(x0,X0),(x1,X1),(x2,x),(x3,X3),(x4,X4),(x5,X5),(x6,X6),(x7,X7),(x8,X8),(x9,X9),(x10,X10),(x11,X11),(x12,X12),(x13,X13),(x14,X14),(x15,X15),(x16,X16),(x17,X17)]++l)∧(∀X0 X1 X2 X3 X4 X5 X6 X7 X8 X9 X10 X11 X12 X13 X14 X15 X16 X17:Ob,look (r5k st [(x0,X0),(x1,X1),(x2,X2),(x3,X3),(x4,X4),(x5,X5),(x6,X6),(x7,X7),(x8,X8),(x9,X9),(x10,X10),(x11,X11),(x12,X12),(x13,X13),(x14,X14),(x15,X15),(x16,X16),(x17,X17)]) x2=some X2)∧∀X0 X1 X2 X3 X4 X5 X6 X7 X8 X9 X10 X11 X12 X13 X14 X15 X16 X17 x:Ob,(r5k st [(x0,X0),(x1,X1),(x2,X2),(x3,X3),(x4,X4),(x5,X5),(x6,X6),(x7,X7),(x8,X8),(x9,X9),(x10,X10),(x11,X11),(x12,X12),(x13,X13),(x14,X14),(x15,X15),(x16,X16),(x17,X17)]).set x2 (some x)=r5k st [(x0,X0),(x1,X1),(x2,x),(x3,X3),(x4,X4),(x5,X5),(x6,X6),(x7,X7),(x8,X8),(x9,X9),(x10,X10),(x11,X11),(x12,X12),(x13,X13),(x14,X14),(x15,X15),(x16,X16),(x17,X17)])
 ∧((∀(l:St) (X0 X1 X2 X3 X4 X5 X6 X7 X8 X9 X10 X11 X12 X13 X14 X15 X16 X17:Ob),look (r5k st [(x0,X0),(x1,X1),(x2,X2),(x3,X3),(x4,X4),(x5,X5),(x6,X6),(x7,X7),(x8,X8),(x9,X9),(x10,X10),(x11,X11),(x12,X12),(x13,X13),(x14,X14),(x15,X15),(x16,X16),(x17,X17)]++l) x3=some X3)∧(∀(l:St) (X0 X1 X2 X3 X4 X5 X6 X7 X8 X9 X10 X11 X12 X13 X14 X15 X16 X17 x:Ob),(r5k st [(x0,X0),(x1,X1),(x2,X2),(x3,X3),(x4,X4),(x5,X5),(x6,X6),(x7,X7),(x8,X8),(x9,X9),(x10,X10),(x11,X11),(x12,X12),(x13,X13),(x14,X14),(x15,X15),(x16,X16),(x17,X17)]++l).set x3 (some x)=r5k st [(x0,X0),(x1,X1),(x2,X2),(x3,x),(x4,X4),(x5,X5),(x6,X6),(x7,X7),(x8,X8),(x9,X9),(x10,X10),(x11,X11),(x12,X12),(x13,X13),(x14,X14),(x15,X15),(x16,X16),(x17,X17)]++l)∧(∀X0 X1 X2 X3 X4 X5 X6 X7 X8 X9 X10 X11 X12 X13 X14 X15 X16 X17:Ob,look (r5k st [(x0,X0),(x1,X1),(x2,X2),(x3,X3),(x4,X4),(x5,X5),(x6,X6),(x7,X7),(x8,X8),(x9,X9),(x10,X10),(x11,X11),(x12,X12),(x13,X13),(x14,X14),(x15,X15),(x16,X16),(x17,X17)]) x3=some X3)∧∀X0 X1 X2 X3 X4 X5 X6 X7 X8 X9 X10 X11 X12 X13 X14 X15 X16 X17 x:Ob,(r5k st [(x0,X0),(x1,X1),(x2,X2),(x3,X3),(x4,X4),(x5,X5),(x6,X6),(x7,X7),(x8,X8),(x9,X9),(x10,X10),(x11,X11),(x12,X12),(x13,X13),(x14,X14),(x15,X15),(x16,X16),(x17,X17)]).set x3 (some x)=r5k st [(x0,X0),(x1,X1),(x2,X2),(x3,x),(x4,X4),(x5,X5),(x6,X6),(x7,X7),(x8,X8),(x9,X9),(x10,X10),(x11,X11),(x12,X12),(x13,X13),(x14,X14),(x15,X15),(x16,X16),(x17,X17)])
 ∧((∀(l:St) (X0 X1 X2 X3 X4 X5 X6 X7 X8 X9 X10 X11 X12 X13 X14 X15 X16 X17:Ob),look (r5k st [(x0,X0),(x1,X1),(x2,X2),(x3,X3),(x4,X4),(x5,X5),(x6,X6),(x7,X7),(x8,X8),(x9,X9),(x10,X10),(x11,X11),(x12,X12),(x13,X13),(x14,X14),(x15,X15),(x16,X16),(x17,X17)]++l) x4=some X4)∧(∀(l:St) (X0 X1 X2 X3 X4 X5 X6 X7 X8 X9 X10 X11 X12 X13 X14 X15 X16 X17 x:Ob),(r5k st [(x0,X0),(x1,X1),(x2,X2),(x3,X3),(x4,X4),(x5,X5),(x6,X6),(x7,X7),(x8,X8),(x9,X9),(x10,X10),(x11,X11),(x12,X12),(x13,X13),(x14,X14),(x15,X15),(x16,X16),(x17,X17)]++l).set x4 (some x)=r5k st [(x0,X0),(x1,X1),(x2,X2),(x3,X3),(x4,x),(x5,X5),(x6,X6),(x7,X7),(x8,X8),(x9,X9),(x10,X10),(x11,X11),(x12,X12),(x13,X13),(x14,X14),(x15,X15),(x16,X16),(x17,X17)]++l)∧(∀X0 X1 X2 X3 X4 X5 X6 X7 X8 X9 X10 X11 X12 X13 X14 X15 X16 X17:Ob,look (r5k st [(x0,X0),(x1,X1),(x2,X2),(x3,X3),(x4,X4),(x5,X5),(x6,X6),(x7,X7),(x8,X8),(x9,X9),(x10,X10),(x11,X11),(x12,X12),(x13,X13),(x14,X14),(x15,X15),(x16,X16),(x17,X17)]) x4=some X4)∧∀X0 X1 X2 X3 X4 X5 X6 X7 X8 X9 X10 X11 X12 X13 X14 X15 X16 X17 x:Ob,(r5k st [(x0,X0),(x1,X1),(x2,X2),(x3,X3),(x4,X4),(x5,X5),(x6,X6),(x7,X7),(x8,X8),(x9,X9),(x10,X10),(x11,X11),(x12,X12),(x13,X13),(x14,X14),(x15,X15),(x16,X16),(x17,X17)]).set x4 (some x)=r5k st [(x0,X0),(x1,X1),(x2,X2),(x3,X3),(x4,x),(x5,X5),(x6,X6),(x7,X7),(x8,X8),(x9,X9),(x10,X10),(x11,X11),(x12,X12),(x13,X13),(x14,X14),(x15,X15),(x16,X16),(x17,X17)])
 ∧((∀(l:St) (X0 X1 X2 X3 X4 X5 X6 X7 X8 X9 X10 X11 X12 X13 X14 X15 X16 X17:Ob),look (r5k st [(x0,X0),(x1,X1),(x2,X2),(x3,X3),(x4,X4),(x5,X5),(x6,X6),(x7,X7),(x8,X8),(x9,X9),(x10,X10),(x11,X11),(x12,X12),(x13,X13),(x14,X14),(x15,X15),(x16,X16),(x17,X17)]++l) x5=some X5)∧(∀(l:St) (X0 X1 X2 X3 X4 X5 X6 X7 X8 X9 X10 X11 X12 X13 X14 X15 X16 X17 x:Ob),(r5k st [(x0,X0),(x1,X1),(x2,X2),(x3,X3),(x4,X4),(x5,X5),(x6,X6),(x7,X7),(x8,X8),(x9,X9),(x10,X10),(x11,X11),(x12,X12),(x13,X13),(x14,X14),(x15,X15),(x16,X16),(x17,X17)]++l).set x5 (some x)=r5k st [(x0,X0),(x1,X1),(x2,X2),(x3,X3),(x4,X4),(x5,x),(x6,X6),(x7,X7),(x8,X8),(x9,X9),(x10,X10),(x11,X11),(x12,X12),(x13,X13),(x14,X14),(x15,X15),(x16,X16),(x17,X17)]++l)∧(∀X0 X1 X2 X3 X4 X5 X6 X7 X8 X9 X10 X11 X12 X13 X14 X15 X16 X17:Ob,look (r5k st [(x0,X0),(x1,X1),(x2,X2),(x3,X3),(x4,X4),(x5,X5),(x6,X6),(x7,X7),(x8,X8),(x9,X9),(x10,X10),(x11,X11),(x12,X12),(x13,X13),(x14,X14),(x15,X15),(x16,X16),(x17,X17)]) x5=some X5)∧∀X0 X1 X2 X3 X4 X5 X6 X7 X8 X9 X10 X11 X12 X13 X14 X15 X16 X17 x:Ob,(r5k st [(x0,X0),(x1,X1),(x2,X2),(x3,X3),(x4,X4),(x5,X5),(x6,X6),(x7,X7),(x8,X8),(x9,X9),(x10,X10),(x11,X11),(x12,X12),(x13,X13),(x14,X14),(x15,X15),(x16,X16),(x17,X17)]).set x5 (some x)=r5k st [(x0,X0),(x1,X1),(x2,X2),(x3,X3),(x4,X4),(x5,x),(x6,X6),(x7,X7),(x8,X8),(x9,X9),(x10,X10),(x11,X11),(x12,X12),(x13,X13),(x14,X14),(x15,X15),(x16,X16),(x17,X17)])
 ∧((∀(l:St) (X0 X1 X2 X3 X4 X5 X6 X7 X8 X9 X10 X11 X12 X13 X14 X15 X16 X17:Ob),look (r5k st [(x0,X0),(x1,X1),(x2,X2),(x3,X3),(x4,X4),(x5,X5),(x6,X6),(x7,X7),(x8,X8),(x9,X9),(x10,X10),(x11,X11),(x12,X12),(x13,X13),(x14,X14),(x15,X15),(x16,X16),(x17,X17)]++l) x6=some X6)∧(∀(l:St) (X0 X1 X2 X3 X4 X5 X6 X7 X8 X9 X10 X11 X12 X13 X14 X15 X16 X17 x:Ob),(r5k st [(x0,X0),(x1,X1),(x2,X2),(x3,X3),(x4,X4),(x5,X5),(x6,X6),(x7,X7),(x8,X8),(x9,X9),(x10,X10),(x11,X11),(x12,X12),(x13,X13),(x14,X14),(x15,X15),(x16,X16),(x17,X17)]++l).set x6 (some x)=r5k st [(x0,X0),(x1,X1),(x2,X2),(x3,X3),(x4,X4),(x5,X5),(x6,x),(x7,X7),(x8,X8),(x9,X9),(x10,X10),(x11,X11),(x12,X12),(x13,X13),(x14,X14),(x15,X15),(x16,X16),(x17,X17)]++l)∧(∀X0 X1 X2 X3 X4 X5 X6 X7 X8 X9 X10 X11 X12 X13 X14 X15 X16 X17:Ob,look (r5k st [(x0,X0),(x1,X1),(x2,X2),(x3,X3),(x4,X4),(x5,X5),(x6,X6),(x7,X7),(x8,X8),(x9,X9),(x10,X10),(x11,X11),(x12,X12),(x13,X13),(x14,X14),(x15,X15),(x16,X16),(x17,X17)]) x6=some X6)∧∀X0 X1 X2 X3 X4 X5 X6 X7 X8 X9 X10 X11 X12 X13 X14 X15 X16 X17 x:Ob,(r5k st [(x0,X0),(x1,X1),(x2,X2),(x3,X3),(x4,X4),(x5,X5),(x6,X6),(x7,X7),(x8,X8),(x9,X9),(x10,X10),(x11,X11),(x12,X12),(x13,X13),(x14,X14),(x15,X15),(x16,X16),(x17,X17)]).set x6 (some x)=r5k st [(x0,X0),(x1,X1),(x2,X2),(x3,X3),(x4,X4),(x5,X5),(x6,x),(x7,X7),(x8,X8),(x9,X9),(x10,X10),(x11,X11),(x12,X12),(x13,X13),(x14,X14),(x15,X15),(x16,X16),(x17,X17)])
 ∧((∀(l:St) (X0 X1 X2 X3 X4 X5 X6 X7 X8 X9 X10 X11 X12 X13 X14 X15 X16 X17:Ob),look (r5k st [(x0,X0),(x1,X1),(x2,X2),(x3,X3),(x4,X4),(x5,X5),(x6,X6),(x7,X7),(x8,X8),(x9,X9),(x10,X10),(x11,X11),(x12,X12),(x13,X13),(x14,X14),(x15,X15),(x16,X16),(x17,X17)]++l) x7=some X7)∧(∀(l:St) (X0 X1 X2 X3 X4 X5 X6 X7 X8 X9 X10 X11 X12 X13 X14 X15 X16 X17 x:Ob),(r5k st [(x0,X0),(x1,X1),(x2,X2),(x3,X3),(x4,X4),(x5,X5),(x6,X6),(x7,X7),(x8,X8),(x9,X9),(x10,X10),(x11,X11),(x12,X12),(x13,X13),(x14,X14),(x15,X15),(x16,X16),(x17,X17)]++l).set x7 (some x)=r5k st [(x0,X0),(x1,X1),(x2,X2),(x3,X3),(x4,X4),(x5,X5),(x6,X6),(x7,x),(x8,X8),(x9,X9),(x10,X10),(x11,X11),(x12,X12),(x13,X13),(x14,X14),(x15,X15),(x16,X16),(x17,X17)]++l)∧(∀X0 X1 X2 X3 X4 X5 X6 X7 X8 X9 X10 X11 X12 X13 X14 X15 X16 X17:Ob,look (r5k st [(x0,X0),(x1,X1),(x2,X2),(x3,X3),(x4,X4),(x5,X5),(x6,X6),(x7,X7),(x8,X8),(x9,X9),(x10,X10),(x11,X11),(x12,X12),(x13,X13),(x14,X14),(x15,X15),(x16,X16),(x17,X17)]) x7=some X7)∧∀X0 X1 X2 X3 X4 X5 X6 X7 X8 X9 X10 X11 X12 X13 X14 X15 X16 X17 x:Ob,(r5k st [(x0,X0),(x1,X1),(x2,X2),(x3,X3),(x4,X4),(x5,X5),(x6,X6),(x7,X7),(x8,X8),(x9,X9),(x10,X10),(x11,X11),(x12,X12),(x13,X13),(x14,X14),(x15,X15),(x16,X16),(x17,X17)]).set x7 (some x)=r5k st [(x0,X0),(x1,X1),(x2,X2),(x3,X3),(x4,X4),(x5,X5),(x6,X6),(x7,x),(x8,X8),(x9,X9),(x10,X10),(x11,X11),(x12,X12),(x13,X13),(x14,X14),(x15,X15),(x16,X16),(x17,X17)])
 ∧((∀(l:St) (X0 X1 X2 X3 X4 X5 X6 X7 X8 X9 X10 X11 X12 X13 X14 X15 X16 X17:Ob),look (r5k st [(x0,X0),(x1,X1),(x2,X2),(x3,X3),(x4,X4),(x5,X5),(x6,X6),(x7,X7),(x8,X8),(x9,X9),(x10,X10),(x11,X11),(x12,X12),(x13,X13),(x14,X14),(x15,X15),(x16,X16),(x17,X17)]++l) x8=some X8)∧(∀(l:St) (X0 X1 X2 X3 X4 X5 X6 X7 X8 X9 X10 X11 X12 X13 X14 X15 X16 X17 x:Ob),(r5k st [(x0,X0),(x1,X1),(x2,X2),(x3,X3),(x4,X4),(x5,X5),(x6,X6),(x7,X7),(x8,X8),(x9,X9),(x10,X10),(x11,X11),(x12,X12),(x13,X13),(x14,X14),(x15,X15),(x16,X16),(x17,X17)]++l).set x8 (some x)=r5k st [(x0,X0),(x1,X1),(x2,X2),(x3,X3),(x4,X4),(x5,X5),(x6,X6),(x7,X7),(x8,x),(x9,X9),(x10,X10),(x11,X11),(x12,X12),(x13,X13),(x14,X14),(x15,X15),(x16,X16),(x17,X17)]++l)∧(∀X0 X1 X2 X3 X4 X5 X6 X7 X8 X9 X10 X11 X12 X13 X14 X15 X16 X17:Ob,look (r5k st [(x0,X0),(x1,X1),(x2,X2),(x3,X3),(x4,X4),(x5,X5),(x6,X6),(x7,X7),(x8,X8),(x9,X9),(x10,X10),(x11,X11),(x12,X12),(x13,X13),(x14,X14),(x15,X15),(x16,X16),(x17,X17)]) x8=some X8)∧∀X0 X1 X2 X3 X4 X5 X6 X7 X8 X9 X10 X11 X12 X13 X14 X15 X16 X17 x:Ob,(r5k st [(x0,X0),(x1,X1),(x2,X2),(x3,X3),(x4,X4),(x5,X5),(x6,X6),(x7,X7),(x8,X8),(x9,X9),(x10,X10),(x11,X11),(x12,X12),(x13,X13),(x14,X14),(x15,X15),(x16,X16),(x17,X17)]).set x8 (some x)=r5k st [(x0,X0),(x1,X1),(x2,X2),(x3,X3),(x4,X4),(x5,X5),(x6,X6),(x7,X7),(x8,x),(x9,X9),(x10,X10),(x11,X11),(x12,X12),(x13,X13),(x14,X14),(x15,X15),(x16,X16),(x17,X17)])
 ∧((∀(l:St) (X0 X1 X2 X3 X4 X5 X6 X7 X8 X9 X10 X11 X12 X13 X14 X15 X16 X17:Ob),look (r5k st [(x0,X0),(x1,X1),(x2,X2),(x3,X3),(x4,X4),(x5,X5),(x6,X6),(x7,X7),(x8,X8),(x9,X9),(x10,X10),(x11,X11),(x12,X12),(x13,X13),(x14,X14),(x15,X15),(x16,X16),(x17,X17)]++l) x9=some X9)∧(∀(l:St) (X0 X1 X2 X3 X4 X5 X6 X7 X8 X9 X10 X11 X12 X13 X14 X15 X16 X17 x:Ob),(r5k st [(x0,X0),(x1,X1),(x2,X2),(x3,X3),(x4,X4),(x5,X5),(x6,X6),(x7,X7),(x8,X8),(x9,X9),(x10,X10),(x11,X11),(x12,X12),(x13,X13),(x14,X14),(x15,X15),(x16,X16),(x17,X17)]++l).set x9 (some x)=r5k st [(x0,X0),(x1,X1),(x2,X2),(x3,X3),(x4,X4),(x5,X5),(x6,X6),(x7,X7),(x8,X8),(x9,x),(x10,X10),(x11,X11),(x12,X12),(x13,X13),(x14,X14),(x15,X15),(x16,X16),(x17,X17)]++l)∧(∀X0 X1 X2 X3 X4 X5 X6 X7 X8 X9 X10 X11 X12 X13 X14 X15 X16 X17:Ob,look (r5k st [(x0,X0),(x1,X1),(x2,X2),(x3,X3),(x4,X4),(x5,X5),(x6,X6),(x7,X7),(x8,X8),(x9,X9),(x10,X10),(x11,X11),(x12,X12),(x13,X13),(x14,X14),(x15,X15),(x16,X16),(x17,X17)]) x9=some X9)∧∀X0 X1 X2 X3 X4 X5 X6 X7 X8 X9 X10 X11 X12 X13 X14 X15 X16 X17 x:Ob,(r5k st [(x0,X0),(x1,X1),(x2,X2),(x3,X3),(x4,X4),(x5,X5),(x6,X6),(x7,X7),(x8,X8),(x9,X9),(x10,X10),(x11,X11),(x12,X12),(x13,X13),(x14,X14),(x15,X15),(x16,X16),(x17,X17)]).set x9 (some x)=r5k st [(x0,X0),(x1,X1),(x2,X2),(x3,X3),(x4,X4),(x5,X5),(x6,X6),(x7,X7),(x8,X8),(x9,x),(x10,X10),(x11,X11),(x12,X12),(x13,X13),(x14,X14),(x15,X15),(x16,X16),(x17,X17)])
 ∧((∀(l:St) (X0 X1 X2 X3 X4 X5 X6 X7 X8 X9 X10 X11 X12 X13 X14 X15 X16 X17:Ob),look (r5k st [(x0,X0),(x1,X1),(x2,X2),(x3,X3),(x4,X4),(x5,X5),(x6,X6),(x7,X7),(x8,X8),(x9,X9),(x10,X10),(x11,X11),(x12,X12),(x13,X13),(x14,X14),(x15,X15),(x16,X16),(x17,X17)]++l) x10=some X10)∧(∀(l:St) (X0 X1 X2 X3 X4 X5 X6 X7 X8 X9 X10 X11 X12 X13 X14 X15 X16 X17 x:Ob),(r5k st [(x0,X0),(x1,X1),(x2,X2),(x3,X3),(x4,X4),(x5,X5),(x6,X6),(x7,X7),(x8,X8),(x9,X9),(x10,X10),(x11,X11),(x12,X12),(x13,X13),(x14,X14),(x15,X15),(x16,X16),(x17,X17)]++l).set x10 (some x)=r5k st [(x0,X0),(x1,X1),(x2,X2),(x3,X3),(x4,X4),(x5,X5),(x6,X6),(x7,X7),(x8,X8),(x9,X9),(x10,x),(x11,X11),(x12,X12),(x13,X13),(x14,X14),(x15,X15),(x16,X16),(x17,X17)]++l)∧(∀X0 X1 X2 X3 X4 X5 X6 X7 X8 X9 X10 X11 X12 X13 X14 X15 X16 X17:Ob,look (r5k st [(x0,X0),(x1,X1),(x2,X2),(x3,X3),(x4,X4),(x5,X5),(x6,X6),(x7,X7),(x8,X8),(x9,X9),(x10,X10),(x11,X11),(x12,X12),(x13,X13),(x14,X14),(x15,X15),(x16,X16),(x17,X17)]) x10=some X10)∧∀X0 X1 X2 X3 X4 X5 X6 X7 X8 X9 X10 X11 X12 X13 X14 X15 X16 X17 x:Ob,(r5k st [(x0,X0),(x1,X1),(x2,X2),(x3,X3),(x4,X4),(x5,X5),(x6,X6),(x7,X7),(x8,X8),(x9,X9),(x10,X10),(x11,X11),(x12,X12),(x13,X13),(x14,X14),(x15,X15),(x16,X16),(x17,X17)]).set x10 (some x)=r5k st [(x0,X0),(x1,X1),(x2,X2),(x3,X3),(x4,X4),(x5,X5),(x6,X6),(x7,X7),(x8,X8),(x9,X9),(x10,x),(x11,X11),(x12,X12),(x13,X13),(x14,X14),(x15,X15),(x16,X16),(x17,X17)])
 ∧((∀(l:St) (X0 X1 X2 X3 X4 X5 X6 X7 X8 X9 X10 X11 X12 X13 X14 X15 X16 X17:Ob),look (r5k st [(x0,X0),(x1,X1),(x2,X2),(x3,X3),(x4,X4),(x5,X5),(x6,X6),(x7,X7),(x8,X8),(x9,X9),(x10,X10),(x11,X11),(x12,X12),(x13,X13),(x14,X14),(x15,X15),(x16,X16),(x17,X17)]++l) x11=some X11)∧(∀(l:St) (X0 X1 X2 X3 X4 X5 X6 X7 X8 X9 X10 X11 X12 X13 X14 X15 X16 X17 x:Ob),(r5k st [(x0,X0),(x1,X1),(x2,X2),(x3,X3),(x4,X4),(x5,X5),(x6,X6),(x7,X7),(x8,X8),(x9,X9),(x10,X10),(x11,X11),(x12,X12),(x13,X13),(x14,X14),(x15,X15),(x16,X16),(x17,X17)]++l).set x11 (some x)=r5k st [(x0,X0),(x1,X1),(x2,X2),(x3,X3),(x4,X4),(x5,X5),(x6,X6),(x7,X7),(x8,X8),(x9,X9),(x10,X10),(x11,x),(x12,X12),(x13,X13),(x14,X14),(x15,X15),(x16,X16),(x17,X17)]++l)∧(∀X0 X1 X2 X3 X4 X5 X6 X7 X8 X9 X10 X11 X12 X13 X14 X15 X16 X17:Ob,look (r5k st [(x0,X0),(x1,X1),(x2,X2),(x3,X3),(x4,X4),(x5,X5),(x6,X6),(x7,X7),(x8,X8),(x9,X9),(x10,X10),(x11,X11),(x12,X12),(x13,X13),(x14,X14),(x15,X15),(x16,X16),(x17,X17)]) x11=some X11)∧∀X0 X1 X2 X3 X4 X5 X6 X7 X8 X9 X10 X11 X12 X13 X14 X15 X16 X17 x:Ob,(r5k st [(x0,X0),(x1,X1),(x2,X2),(x3,X3),(x4,X4),(x5,X5),(x6,X6),(x7,X7),(x8,X8),(x9,X9),(x10,X10),(x11,X11),(x12,X12),(x13,X13),(x14,X14),(x15,X15),(x16,X16),(x17,X17)]).set x11 (some x)=r5k st [(x0,X0),(x1,X1),(x2,X2),(x3,X3),(x4,X4),(x5,X5),(x6,X6),(x7,X7),(x8,X8),(x9,X9),(x10,X10),(x11,x),(x12,X12),(x13,X13),(x14,X14),(x15,X15),(x16,X16),(x17,X17)])
 ∧((∀(l:St) (X0 X1 X2 X3 X4 X5 X6 X7 X8 X9 X10 X11 X12 X13 X14 X15 X16 X17:Ob),look (r5k st [(x0,X0),(x1,X1),(x2,X2),(x3,X3),(x4,X4),(x5,X5),(x6,X6),(x7,X7),(x8,X8),(x9,X9),(x10,X10),(x11,X11),(x12,X12),(x13,X13),(x14,X14),(x15,X15),(x16,X16),(x17,X17)]++l) x12=some X12)∧(∀(l:St) (X0 X1 X2 X3 X4 X5 X6 X7 X8 X9 X10 X11 X12 X13 X14 X15 X16 X17 x:Ob),(r5k st [(x0,X0),(x1,X1),(x2,X2),(x3,X3),(x4,X4),(x5,X5),(x6,X6),(x7,X7),(x8,X8),(x9,X9),(x10,X10),(x11,X11),(x12,X12),(x13,X13),(x14,X14),(x15,X15),(x16,X16),(x17,X17)]++l).set x12 (some x)=r5k st [(x0,X0),(x1,X1),(x2,X2),(x3,X3),(x4,X4),(x5,X5),(x6,X6),(x7,X7),(x8,X8),(x9,X9),(x10,X10),(x11,X11),(x12,x),(x13,X13),(x14,X14),(x15,X15),(x16,X16),(x17,X17)]++l)∧(∀X0 X1 X2 X3 X4 X5 X6 X7 X8 X9 X10 X11 X12 X13 X14 X15 X16 X17:Ob,look (r5k st [(x0,X0),(x1,X1),(x2,X2),(x3,X3),(x4,X4),(x5,X5),(x6,X6),(x7,X7),(x8,X8),(x9,X9),(x10,X10),(x11,X11),(x12,X12),(x13,X13),(x14,X14),(x15,X15),(x16,X16),(x17,X17)]) x12=some X12)∧∀X0 X1 X2 X3 X4 X5 X6 X7 X8 X9 X10 X11 X12 X13 X14 X15 X16 X17 x:Ob,(r5k st [(x0,X0),(x1,X1),(x2,X2),(x3,X3),(x4,X4),(x5,X5),(x6,X6),(x7,X7),(x8,X8),(x9,X9),(x10,X10),(x11,X11),(x12,X12),(x13,X13),(x14,X14),(x15,X15),(x16,X16),(x17,X17)]).set x12 (some x)=r5k st [(x0,X0),(x1,X1),(x2,X2),(x3,X3),(x4,X4),(x5,X5),(x6,X6),(x7,X7),(x8,X8),(x9,X9),(x10,X10),(x11,X11),(x12,x),(x13,X13),(x14,X14),(x15,X15),(x16,X16),(x17,X17)])
 ∧((∀(l:St) (X0 X1 X2 X3 X4 X5 X6 X7 X8 X9 X10 X11 X12 X13 X14 X15 X16 X17:Ob),look (r5k st [(x0,X0),(x1,X1),(x2,X2),(x3,X3),(x4,X4),(x5,X5),(x6,X6),(x7,X7),(x8,X8),(x9,X9),(x10,X10),(x11,X11),(x12,X12),(x13,X13),(x14,X14),(x15,X15),(x16,X16),(x17,X17)]++l) x13=some X13)∧(∀(l:St) (X0 X1 X2 X3 X4 X5 X6 X7 X8 X9 X10 X11 X12 X13 X14 X15 X16 X17 x:Ob),(r5k st [(x0,X0),(x1,X1),(x2,X2),(x3,X3),(x4,X4),(x5,X5),(x6,X6),(x7,X7),(x8,X8),(x9,X9),(x10,X10),(x11,X11),(x12,X12),(x13,X13),(x14,X14),(x15,X15),(x16,X16),(x17,X17)]++l).set x13 (some x)=r5k st [(x0,X0),(x1,X1),(x2,X2),(x3,X3),(x4,X4),(x5,X5),(x6,X6),(x7,X7),(x8,X8),(x9,X9),(x10,X10),(x11,X11),(x12,X12),(x13,x),(x14,X14),(x15,X15),(x16,X16),(x17,X17)]++l)∧(∀X0 X1 X2 X3 X4 X5 X6 X7 X8 X9 X10 X11 X12 X13 X14 X15 X16 X17:Ob,look (r5k st [(x0,X0),(x1,X1),(x2,X2),(x3,X3),(x4,X4),(x5,X5),(x6,X6),(x7,X7),(x8,X8),(x9,X9),(x10,X10),(x11,X11),(x12,X12),(x13,X13),(x14,X14),(x15,X15),(x16,X16),(x17,X17)]) x13=some X13)∧∀X0 X1 X2 X3 X4 X5 X6 X7 X8 X9 X10 X11 X12 X13 X14 X15 X16 X17 x:Ob,(r5k st [(x0,X0),(x1,X1),(x2,X2),(x3,X3),(x4,X4),(x5,X5),(x6,X6),(x7,X7),(x8,X8),(x9,X9),(x10,X10),(x11,X11),(x12,X12),(x13,X13),(x14,X14),(x15,X15),(x16,X16),(x17,X17)]).set x13 (some x)=r5k st [(x0,X0),(x1,X1),(x2,X2),(x3,X3),(x4,X4),(x5,X5),(x6,X6),(x7,X7),(x8,X8),(x9,X9),(x10,X10),(x11,X11),(x12,X12),(x13,x),(x14,X14),(x15,X15),(x16,X16),(x17,X17)])
 ∧((∀(l:St) (X0 X1 X2 X3 X4 X5 X6 X7 X8 X9 X10 X11 X12 X13 X14 X15 X16 X17:Ob),look (r5k st [(x0,X0),(x1,X1),(x2,X2),(x3,X3),(x4,X4),(x5,X5),(x6,X6),(x7,X7),(x8,X8),(x9,X9),(x10,X10),(x11,X11),(x12,X12),(x13,X13),(x14,X14),(x15,X15),(x16,X16),(x17,X17)]++l) x14=some X14)∧(∀(l:St) (X0 X1 X2 X3 X4 X5 X6 X7 X8 X9 X10 X11 X12 X13 X14 X15 X16 X17 x:Ob),(r5k st [(x0,X0),(x1,X1),(x2,X2),(x3,X3),(x4,X4),(x5,X5),(x6,X6),(x7,X7),(x8,X8),(x9,X9),(x10,X10),(x11,X11),(x12,X12),(x13,X13),(x14,X14),(x15,X15),(x16,X16),(x17,X17)]++l).set x14 (some x)=r5k st [(x0,X0),(x1,X1),(x2,X2),(x3,X3),(x4,X4),(x5,X5),(x6,X6),(x7,X7),(x8,X8),(x9,X9),(x10,X10),(x11,X11),(x12,X12),(x13,X13),(x14,x),(x15,X15),(x16,X16),(x17,X17)]++l)∧(∀X0 X1 X2 X3 X4 X5 X6 X7 X8 X9 X10 X11 X12 X13 X14 X15 X16 X17:Ob,look (r5k st [(x0,X0),(x1,X1),(x2,X2),(x3,X3),(x4,X4),(x5,X5),(x6,X6),(x7,X7),(x8,X8),(x9,X9),(x10,X10),(x11,X11),(x12,X12),(x13,X13),(x14,X14),(x15,X15),(x16,X16),(x17,X17)]) x14=some X14)∧∀X0 X1 X2 X3 X4 X5 X6 X7 X8 X9 X10 X11 X12 X13 X14 X15 X16 X17 x:Ob,(r5k st [(x0,X0),(x1,X1),(x2,X2),(x3,X3),(x4,X4),(x5,X5),(x6,X6),(x7,X7),(x8,X8),(x9,X9),(x10,X10),(x11,X11),(x12,X12),(x13,X13),(x14,X14),(x15,X15),(x16,X16),(x17,X17)]).set x14 (some x)=r5k st [(x0,X0),(x1,X1),(x2,X2),(x3,X3),(x4,X4),(x5,X5),(x6,X6),(x7,X7),(x8,X8),(x9,X9),(x10,X10),(x11,X11),(x12,X12),(x13,X13),(x14,x),(x15,X15),(x16,X16),(x17,X17)])
 ∧((∀(l:St) (X0 X1 X2 X3 X4 X5 X6 X7 X8 X9 X10 X11 X12 X13 X14 X15 X16 X17:Ob),look (r5k st [(x0,X0),(x1,X1),(x2,X2),(x3,X3),(x4,X4),(x5,X5),(x6,X6),(x7,X7),(x8,X8),(x9,X9),(x10,X10),(x11,X11),(x12,X12),(x13,X13),(x14,X14),(x15,X15),(x16,X16),(x17,X17)]++l) x15=some X15)∧(∀(l:St) (X0 X1 X2 X3 X4 X5 X6 X7 X8 X9 X10 X11 X12 X13 X14 X15 X16 X17 x:Ob),(r5k st [(x0,X0),(x1,X1),(x2,X2),(x3,X3),(x4,X4),(x5,X5),(x6,X6),(x7,X7),(x8,X8),(x9,X9),(x10,X10),(x11,X11),(x12,X12),(x13,X13),(x14,X14),(x15,X15),(x16,X16),(x17,X17)]++l).set x15 (some x)=r5k st [(x0,X0),(x1,X1),(x2,X2),(x3,X3),(x4,X4),(x5,X5),(x6,X6),(x7,X7),(x8,X8),(x9,X9),(x10,X10),(x11,X11),(x12,X12),(x13,X13),(x14,X14),(x15,x),(x16,X16),(x17,X17)]++l)∧(∀X0 X1 X2 X3 X4 X5 X6 X7 X8 X9 X10 X11 X12 X13 X14 X15 X16 X17:Ob,look (r5k st [(x0,X0),(x1,X1),(x2,X2),(x3,X3),(x4,X4),(x5,X5),(x6,X6),(x7,X7),(x8,X8),(x9,X9),(x10,X10),(x11,X11),(x12,X12),(x13,X13),(x14,X14),(x15,X15),(x16,X16),(x17,X17)]) x15=some X15)∧∀X0 X1 X2 X3 X4 X5 X6 X7 X8 X9 X10 X11 X12 X13 X14 X15 X16 X17 x:Ob,(r5k st [(x0,X0),(x1,X1),(x2,X2),(x3,X3),(x4,X4),(x5,X5),(x6,X6),(x7,X7),(x8,X8),(x9,X9),(x10,X10),(x11,X11),(x12,X12),(x13,X13),(x14,X14),(x15,X15),(x16,X16),(x17,X17)]).set x15 (some x)=r5k st [(x0,X0),(x1,X1),(x2,X2),(x3,X3),(x4,X4),(x5,X5),(x6,X6),(x7,X7),(x8,X8),(x9,X9),(x10,X10),(x11,X11),(x12,X12),(x13,X13),(x14,X14),(x15,x),(x16,X16),(x17,X17)])
 ∧((∀(l:St) (X0 X1 X2 X3 X4 X5 X6 X7 X8 X9 X10 X11 X12 X13 X14 X15 X16 X17:Ob),look (r5k st [(x0,X0),(x1,X1),(x2,X2),(x3,X3),(x4,X4),(x5,X5),(x6,X6),(x7,X7),(x8,X8),(x9,X9),(x10,X10),(x11,X11),(x12,X12),(x13,X13),(x14,X14),(x15,X15),(x16,X16),(x17,X17)]++l) x16=some X16)∧(∀(l:St) (X0 X1 X2 X3 X4 X5 X6 X7 X8 X9 X10 X11 X12 X13 X14 X15 X16 X17 x:Ob),(r5k st [(x0,X0),(x1,X1),(x2,X2),(x3,X3),(x4,X4),(x5,X5),(x6,X6),(x7,X7),(x8,X8),(x9,X9),(x10,X10),(x11,X11),(x12,X12),(x13,X13),(x14,X14),(x15,X15),(x16,X16),(x17,X17)]++l).set x16 (some x)=r5k st [(x0,X0),(x1,X1),(x2,X2),(x3,X3),(x4,X4),(x5,X5),(x6,X6),(x7,X7),(x8,X8),(x9,X9),(x10,X10),(x11,X11),(x12,X12),(x13,X13),(x14,X14),(x15,X15),(x16,x),(x17,X17)]++l)∧(∀X0 X1 X2 X3 X4 X5 X6 X7 X8 X9 X10 X11 X12 X13 X14 X15 X16 X17:Ob,look (r5k st [(x0,X0),(x1,X1),(x2,X2),(x3,X3),(x4,X4),(x5,X5),(x6,X6),(x7,X7),(x8,X8),(x9,X9),(x10,X10),(x11,X11),(x12,X12),(x13,X13),(x14,X14),(x15,X15),(x16,X16),(x17,X17)]) x16=some X16)∧∀X0 X1 X2 X3 X4 X5 X6 X7 X8 X9 X10 X11 X12 X13 X14 X15 X16 X17 x:Ob,(r5k st [(x0,X0),(x1,X1),(x2,X2),(x3,X3),(x4,X4),(x5,X5),(x6,X6),(x7,X7),(x8,X8),(x9,X9),(x10,X10),(x11,X11),(x12,X12),(x13,X13),(x14,X14),(x15,X15),(x16,X16),(x17,X17)]).set x16 (some x)=r5k st [(x0,X0),(x1,X1),(x2,X2),(x3,X3),(x4,X4),(x5,X5),(x6,X6),(x7,X7),(x8,X8),(x9,X9),(x10,X10),(x11,X11),(x12,X12),(x13,X13),(x14,X14),(x15,X15),(x16,x),(x17,X17)])
 ∧((∀(l:St) (X0 X1 X2 X3 X4 X5 X6 X7 X8 X9 X10 X11 X12 X13 X14 X15 X16 X17:Ob),look (r5k st [(x0,X0),(x1,X1),(x2,X2),(x3,X3),(x4,X4),(x5,X5),(x6,X6),(x7,X7),(x8,X8),(x9,X9),(x10,X10),(x11,X11),(x12,X12),(x13,X13),(x14,X14),(x15,X15),(x16,X16),(x17,X17)]++l) x17=some X17)∧(∀(l:St) (X0 X1 X2 X3 X4 X5 X6 X7 X8 X9 X10 X11 X12 X13 X14 X15 X16 X17 x:Ob),(r5k st [(x0,X0),(x1,X1),(x2,X2),(x3,X3),(x4,X4),(x5,X5),(x6,X6),(x7,X7),(x8,X8),(x9,X9),(x10,X10),(x11,X11),(x12,X12),(x13,X13),(x14,X14),(x15,X15),(x16,X16),(x17,X17)]++l).set x17 (some x)=r5k st [(x0,X0),(x1,X1),(x2,X2),(x3,X3),(x4,X4),(x5,X5),(x6,X6),(x7,X7),(x8,X8),(x9,X9),(x10,X10),(x11,X11),(x12,X12),(x13,X13),(x14,X14),(x15,X15),(x16,X16),(x17,x)]++l)∧(∀X0 X1 X2 X3 X4 X5 X6 X7 X8 X9 X10 X11 X12 X13 X14 X15 X16 X17:Ob,look (r5k st [(x0,X0),(x1,X1),(x2,X2),(x3,X3),(x4,X4),(x5,X5),(x6,X6),(x7,X7),(x8,X8),(x9,X9),(x10,X10),(x11,X11),(x12,X12),(x13,X13),(x14,X14),(x15,X15),(x16,X16),(x17,X17)]) x17=some X17)∧∀X0 X1 X2 X3 X4 X5 X6 X7 X8 X9 X10 X11 X12 X13 X14 X15 X16 X17 x:Ob,(r5k st [(x0,X0),(x1,X1),(x2,X2),(x3,X3),(x4,X4),(x5,X5),(x6,X6),(x7,X7),(x8,X8),(x9,X9),(x10,X10),(x11,X11),(x12,X12),(x13,X13),(x14,X14),(x15,X15),(x16,X16),(x17,X17)]).set x17 (some x)=r5k st [(x0,X0),(x1,X1),(x2,X2),(x3,X3),(x4,X4),(x5,X5),(x6,X6),(x7,X7),(x8,X8),(x9,X9),(x10,X10),(x11,X11),(x12,X12),(x13,X13),(x14,X14),(x15,X15),(x16,X16),(x17,x)]):=
 ⟨⟨fun l X0 X1 X2 X3 X4 X5 X6 X7 X8 X9 X10 X11 X12 X13 X14 X15 X16 X17=>(w1J h0 _).trans (r5O (m:=[(x0,X0),(x1,X1),(x2,X2),(x3,X3),(x4,X4),(x5,X5),(x6,X6),(x7,X7),(x8,X8),(x9,X9),(x10,X10),(x11,X11),(x12,X12),(x13,X13),(x14,X14),(x15,X15),(x16,X16),(x17,X17)]) h 0 (show 0<18 by decide)),fun l X0 X1 X2 X3 X4 X5 X6 X7 X8 X9 X10 X11 X12 X13 X14 X15 X16 X17 x=>(w1K h0 _).trans (congrArg (fun m=>r5k st m++l) (r6q (m:=[(x0,X0),(x1,X1),(x2,X2),(x3,X3),(x4,X4),(x5,X5),(x6,X6),(x7,X7),(x8,X8),(x9,X9),(x10,X10),(x11,X11),(x12,X12),(x13,X13),(x14,X14),(x15,X15),(x16,X16),(x17,X17)]) h 0 (show 0<18 by decide))),fun X0 X1 X2 X3 X4 X5 X6 X7 X8 X9 X10 X11 X12 X13 X14 X15 X16 X17=>(u5C h0 _).trans (r5O (m:=[(x0,X0),(x1,X1),(x2,X2),(x3,X3),(x4,X4),(x5,X5),(x6,X6),(x7,X7),(x8,X8),(x9,X9),(x10,X10),(x11,X11),(x12,X12),(x13,X13),(x14,X14),(x15,X15),(x16,X16),(x17,X17)]) h 0 (show 0<18 by decide)),fun X0 X1 X2 X3 X4 X5 X6 X7 X8 X9 X10 X11 X12 X13 X14 X15 X16 X17 x=>(u5D h0 _).trans (congrArg (fun m=>r5k st m) (r6q (m:=[(x0,X0),(x1,X1),(x2,X2),(x3,X3),(x4,X4),(x5,X5),(x6,X6),(x7,X7),(x8,X8),(x9,X9),(x10,X10),(x11,X11),(x12,X12),(x13,X13),(x14,X14),(x15,X15),(x16,X16),(x17,X17)]) h 0 (show 0<18 by decide)))⟩,
 ⟨fun l X0 X1 X2 X3 X4 X5 X6 X7 X8 X9 X10 X11 X12 X13 X14 X15 X16 X17=>(w1J h1 _).trans (r5O (m:=[(x0,X0),(x1,X1),(x2,X2),(x3,X3),(x4,X4),(x5,X5),(x6,X6),(x7,X7),(x8,X8),(x9,X9),(x10,X10),(x11,X11),(x12,X12),(x13,X13),(x14,X14),(x15,X15),(x16,X16),(x17,X17)]) h 1 (show 1<18 by decide)),fun l X0 X1 X2 X3 X4 X5 X6 X7 X8 X9 X10 X11 X12 X13 X14 X15 X16 X17 x=>(w1K h1 _).trans (congrArg (fun m=>r5k st m++l) (r6q (m:=[(x0,X0),(x1,X1),(x2,X2),(x3,X3),(x4,X4),(x5,X5),(x6,X6),(x7,X7),(x8,X8),(x9,X9),(x10,X10),(x11,X11),(x12,X12),(x13,X13),(x14,X14),(x15,X15),(x16,X16),(x17,X17)]) h 1 (show 1<18 by decide))),fun X0 X1 X2 X3 X4 X5 X6 X7 X8 X9 X10 X11 X12 X13 X14 X15 X16 X17=>(u5C h1 _).trans (r5O (m:=[(x0,X0),(x1,X1),(x2,X2),(x3,X3),(x4,X4),(x5,X5),(x6,X6),(x7,X7),(x8,X8),(x9,X9),(x10,X10),(x11,X11),(x12,X12),(x13,X13),(x14,X14),(x15,X15),(x16,X16),(x17,X17)]) h 1 (show 1<18 by decide)),fun X0 X1 X2 X3 X4 X5 X6 X7 X8 X9 X10 X11 X12 X13 X14 X15 X16 X17 x=>(u5D h1 _).trans (congrArg (fun m=>r5k st m) (r6q (m:=[(x0,X0),(x1,X1),(x2,X2),(x3,X3),(x4,X4),(x5,X5),(x6,X6),(x7,X7),(x8,X8),(x9,X9),(x10,X10),(x11,X11),(x12,X12),(x13,X13),(x14,X14),(x15,X15),(x16,X16),(x17,X17)]) h 1 (show 1<18 by decide)))⟩,
 ⟨fun l X0 X1 X2 X3 X4 X5 X6 X7 X8 X9 X10 X11 X12 X13 X14 X15 X16 X17=>(w1J h2 _).trans (r5O (m:=[(x0,X0),(x1,X1),(x2,X2),(x3,X3),(x4,X4),(x5,X5),(x6,X6),(x7,X7),(x8,X8),(x9,X9),(x10,X10),(x11,X11),(x12,X12),(x13,X13),(x14,X14),(x15,X15),(x16,X16),(x17,X17)]) h 2 (show 2<18 by decide)),fun l X0 X1 X2 X3 X4 X5 X6 X7 X8 X9 X10 X11 X12 X13 X14 X15 X16 X17 x=>(w1K h2 _).trans (congrArg (fun m=>r5k st m++l) (r6q (m:=[(x0,X0),(x1,X1),(x2,X2),(x3,X3),(x4,X4),(x5,X5),(x6,X6),(x7,X7),(x8,X8),(x9,X9),(x10,X10),(x11,X11),(x12,X12),(x13,X13),(x14,X14),(x15,X15),(x16,X16),(x17,X17)]) h 2 (show 2<18 by decide))),fun X0 X1 X2 X3 X4 X5 X6 X7 X8 X9 X10 X11 X12 X13 X14 X15 X16 X17=>(u5C h2 _).trans (r5O (m:=[(x0,X0),(x1,X1),(x2,X2),(x3,X3),(x4,X4),(x5,X5),(x6,X6),(x7,X7),(x8,X8),(x9,X9),(x10,X10),(x11,X11),(x12,X12),(x13,X13),(x14,X14),(x15,X15),(x16,X16),(x17,X17)]) h 2 (show 2<18 by decide)),fun X0 X1 X2 X3 X4 X5 X6 X7 X8 X9 X10 X11 X12 X13 X14 X15 X16 X17 x=>(u5D h2 _).trans (congrArg (fun m=>r5k st m) (r6q (m:=[(x0,X0),(x1,X1),(x2,X2),(x3,X3),(x4,X4),(x5,X5),(x6,X6),(x7,X7),(x8,X8),(x9,X9),(x10,X10),(x11,X11),(x12,X12),(x13,X13),(x14,X14),(x15,X15),(x16,X16),(x17,X17)]) h 2 (show 2<18 by decide)))⟩,
 ⟨fun l X0 X1 X2 X3 X4 X5 X6 X7 X8 X9 X10 X11 X12 X13 X14 X15 X16 X17=>(w1J h3 _).trans (r5O (m:=[(x0,X0),(x1,X1),(x2,X2),(x3,X3),(x4,X4),(x5,X5),(x6,X6),(x7,X7),(x8,X8),(x9,X9),(x10,X10),(x11,X11),(x12,X12),(x13,X13),(x14,X14),(x15,X15),(x16,X16),(x17,X17)]) h 3 (show 3<18 by decide)),fun l X0 X1 X2 X3 X4 X5 X6 X7 X8 X9 X10 X11 X12 X13 X14 X15 X16 X17 x=>(w1K h3 _).trans (congrArg (fun m=>r5k st m++l) (r6q (m:=[(x0,X0),(x1,X1),(x2,X2),(x3,X3),(x4,X4),(x5,X5),(x6,X6),(x7,X7),(x8,X8),(x9,X9),(x10,X10),(x11,X11),(x12,X12),(x13,X13),(x14,X14),(x15,X15),(x16,X16),(x17,X17)]) h 3 (show 3<18 by decide))),fun X0 X1 X2 X3 X4 X5 X6 X7 X8 X9 X10 X11 X12 X13 X14 X15 X16 X17=>(u5C h3 _).trans (r5O (m:=[(x0,X0),(x1,X1),(x2,X2),(x3,X3),(x4,X4),(x5,X5),(x6,X6),(x7,X7),(x8,X8),(x9,X9),(x10,X10),(x11,X11),(x12,X12),(x13,X13),(x14,X14),(x15,X15),(x16,X16),(x17,X17)]) h 3 (show 3<18 by decide)),fun X0 X1 X2 X3 X4 X5 X6 X7 X8 X9 X10 X11 X12 X13 X14 X15 X16 X17 x=>(u5D h3 _).trans (congrArg (fun m=>r5k st m) (r6q (m:=[(x0,X0),(x1,X1),(x2,X2),(x3,X3),(x4,X4),(x5,X5),(x6,X6),(x7,X7),(x8,X8),(x9,X9),(x10,X10),(x11,X11),(x12,X12),(x13,X13),(x14,X14),(x15,X15),(x16,X16),(x17,X17)]) h 3 (show 3<18 by decide)))⟩,
 ⟨fun l X0 X1 X2 X3 X4 X5 X6 X7 X8 X9 X10 X11 X12 X13 X14 X15 X16 X17=>(w1J h4 _).trans (r5O (m:=[(x0,X0),(x1,X1),(x2,X2),(x3,X3),(x4,X4),(x5,X5),(x6,X6),(x7,X7),(x8,X8),(x9,X9),(x10,X10),(x11,X11),(x12,X12),(x13,X13),(x14,X14),(x15,X15),(x16,X16),(x17,X17)]) h 4 (show 4<18 by decide)),fun l X0 X1 X2 X3 X4 X5 X6 X7 X8 X9 X10 X11 X12 X13 X14 X15 X16 X17 x=>(w1K h4 _).trans (congrArg (fun m=>r5k st m++l) (r6q (m:=[(x0,X0),(x1,X1),(x2,X2),(x3,X3),(x4,X4),(x5,X5),(x6,X6),(x7,X7),(x8,X8),(x9,X9),(x10,X10),(x11,X11),(x12,X12),(x13,X13),(x14,X14),(x15,X15),(x16,X16),(x17,X17)]) h 4 (show 4<18 by decide))),fun X0 X1 X2 X3 X4 X5 X6 X7 X8 X9 X10 X11 X12 X13 X14 X15 X16 X17=>(u5C h4 _).trans (r5O (m:=[(x0,X0),(x1,X1),(x2,X2),(x3,X3),(x4,X4),(x5,X5),(x6,X6),(x7,X7),(x8,X8),(x9,X9),(x10,X10),(x11,X11),(x12,X12),(x13,X13),(x14,X14),(x15,X15),(x16,X16),(x17,X17)]) h 4 (show 4<18 by decide)),fun X0 X1 X2 X3 X4 X5 X6 X7 X8 X9 X10 X11 X12 X13 X14 X15 X16 X17 x=>(u5D h4 _).trans (congrArg (fun m=>r5k st m) (r6q (m:=[(x0,X0),(x1,X1),(x2,X2),(x3,X3),(x4,X4),(x5,X5),(x6,X6),(x7,X7),(x8,X8),(x9,X9),(x10,X10),(x11,X11),(x12,X12),(x13,X13),(x14,X14),(x15,X15),(x16,X16),(x17,X17)]) h 4 (show 4<18 by decide)))⟩,
 ⟨fun l X0 X1 X2 X3 X4 X5 X6 X7 X8 X9 X10 X11 X12 X13 X14 X15 X16 X17=>(w1J h5 _).trans (r5O (m:=[(x0,X0),(x1,X1),(x2,X2),(x3,X3),(x4,X4),(x5,X5),(x6,X6),(x7,X7),(x8,X8),(x9,X9),(x10,X10),(x11,X11),(x12,X12),(x13,X13),(x14,X14),(x15,X15),(x16,X16),(x17,X17)]) h 5 (show 5<18 by decide)),fun l X0 X1 X2 X3 X4 X5 X6 X7 X8 X9 X10 X11 X12 X13 X14 X15 X16 X17 x=>(w1K h5 _).trans (congrArg (fun m=>r5k st m++l) (r6q (m:=[(x0,X0),(x1,X1),(x2,X2),(x3,X3),(x4,X4),(x5,X5),(x6,X6),(x7,X7),(x8,X8),(x9,X9),(x10,X10),(x11,X11),(x12,X12),(x13,X13),(x14,X14),(x15,X15),(x16,X16),(x17,X17)]) h 5 (show 5<18 by decide))),fun X0 X1 X2 X3 X4 X5 X6 X7 X8 X9 X10 X11 X12 X13 X14 X15 X16 X17=>(u5C h5 _).trans (r5O (m:=[(x0,X0),(x1,X1),(x2,X2),(x3,X3),(x4,X4),(x5,X5),(x6,X6),(x7,X7),(x8,X8),(x9,X9),(x10,X10),(x11,X11),(x12,X12),(x13,X13),(x14,X14),(x15,X15),(x16,X16),(x17,X17)]) h 5 (show 5<18 by decide)),fun X0 X1 X2 X3 X4 X5 X6 X7 X8 X9 X10 X11 X12 X13 X14 X15 X16 X17 x=>(u5D h5 _).trans (congrArg (fun m=>r5k st m) (r6q (m:=[(x0,X0),(x1,X1),(x2,X2),(x3,X3),(x4,X4),(x5,X5),(x6,X6),(x7,X7),(x8,X8),(x9,X9),(x10,X10),(x11,X11),(x12,X12),(x13,X13),(x14,X14),(x15,X15),(x16,X16),(x17,X17)]) h 5 (show 5<18 by decide)))⟩,
 ⟨fun l X0 X1 X2 X3 X4 X5 X6 X7 X8 X9 X10 X11 X12 X13 X14 X15 X16 X17=>(w1J h6 _).trans (r5O (m:=[(x0,X0),(x1,X1),(x2,X2),(x3,X3),(x4,X4),(x5,X5),(x6,X6),(x7,X7),(x8,X8),(x9,X9),(x10,X10),(x11,X11),(x12,X12),(x13,X13),(x14,X14),(x15,X15),(x16,X16),(x17,X17)]) h 6 (show 6<18 by decide)),fun l X0 X1 X2 X3 X4 X5 X6 X7 X8 X9 X10 X11 X12 X13 X14 X15 X16 X17 x=>(w1K h6 _).trans (congrArg (fun m=>r5k st m++l) (r6q (m:=[(x0,X0),(x1,X1),(x2,X2),(x3,X3),(x4,X4),(x5,X5),(x6,X6),(x7,X7),(x8,X8),(x9,X9),(x10,X10),(x11,X11),(x12,X12),(x13,X13),(x14,X14),(x15,X15),(x16,X16),(x17,X17)]) h 6 (show 6<18 by decide))),fun X0 X1 X2 X3 X4 X5 X6 X7 X8 X9 X10 X11 X12 X13 X14 X15 X16 X17=>(u5C h6 _).trans (r5O (m:=[(x0,X0),(x1,X1),(x2,X2),(x3,X3),(x4,X4),(x5,X5),(x6,X6),(x7,X7),(x8,X8),(x9,X9),(x10,X10),(x11,X11),(x12,X12),(x13,X13),(x14,X14),(x15,X15),(x16,X16),(x17,X17)]) h 6 (show 6<18 by decide)),fun X0 X1 X2 X3 X4 X5 X6 X7 X8 X9 X10 X11 X12 X13 X14 X15 X16 X17 x=>(u5D h6 _).trans (congrArg (fun m=>r5k st m) (r6q (m:=[(x0,X0),(x1,X1),(x2,X2),(x3,X3),(x4,X4),(x5,X5),(x6,X6),(x7,X7),(x8,X8),(x9,X9),(x10,X10),(x11,X11),(x12,X12),(x13,X13),(x14,X14),(x15,X15),(x16,X16),(x17,X17)]) h 6 (show 6<18 by decide)))⟩,
 ⟨fun l X0 X1 X2 X3 X4 X5 X6 X7 X8 X9 X10 X11 X12 X13 X14 X15 X16 X17=>(w1J h7 _).trans (r5O (m:=[(x0,X0),(x1,X1),(x2,X2),(x3,X3),(x4,X4),(x5,X5),(x6,X6),(x7,X7),(x8,X8),(x9,X9),(x10,X10),(x11,X11),(x12,X12),(x13,X13),(x14,X14),(x15,X15),(x16,X16),(x17,X17)]) h 7 (show 7<18 by decide)),fun l X0 X1 X2 X3 X4 X5 X6 X7 X8 X9 X10 X11 X12 X13 X14 X15 X16 X17 x=>(w1K h7 _).trans (congrArg (fun m=>r5k st m++l) (r6q (m:=[(x0,X0),(x1,X1),(x2,X2),(x3,X3),(x4,X4),(x5,X5),(x6,X6),(x7,X7),(x8,X8),(x9,X9),(x10,X10),(x11,X11),(x12,X12),(x13,X13),(x14,X14),(x15,X15),(x16,X16),(x17,X17)]) h 7 (show 7<18 by decide))),fun X0 X1 X2 X3 X4 X5 X6 X7 X8 X9 X10 X11 X12 X13 X14 X15 X16 X17=>(u5C h7 _).trans (r5O (m:=[(x0,X0),(x1,X1),(x2,X2),(x3,X3),(x4,X4),(x5,X5),(x6,X6),(x7,X7),(x8,X8),(x9,X9),(x10,X10),(x11,X11),(x12,X12),(x13,X13),(x14,X14),(x15,X15),(x16,X16),(x17,X17)]) h 7 (show 7<18 by decide)),fun X0 X1 X2 X3 X4 X5 X6 X7 X8 X9 X10 X11 X12 X13 X14 X15 X16 X17 x=>(u5D h7 _).trans (congrArg (fun m=>r5k st m) (r6q (m:=[(x0,X0),(x1,X1),(x2,X2),(x3,X3),(x4,X4),(x5,X5),(x6,X6),(x7,X7),(x8,X8),(x9,X9),(x10,X10),(x11,X11),(x12,X12),(x13,X13),(x14,X14),(x15,X15),(x16,X16),(x17,X17)]) h 7 (show 7<18 by decide)))⟩,
 ⟨fun l X0 X1 X2 X3 X4 X5 X6 X7 X8 X9 X10 X11 X12 X13 X14 X15 X16 X17=>(w1J h8 _).trans (r5O (m:=[(x0,X0),(x1,X1),(x2,X2),(x3,X3),(x4,X4),(x5,X5),(x6,X6),(x7,X7),(x8,X8),(x9,X9),(x10,X10),(x11,X11),(x12,X12),(x13,X13),(x14,X14),(x15,X15),(x16,X16),(x17,X17)]) h 8 (show 8<18 by decide)),fun l X0 X1 X2 X3 X4 X5 X6 X7 X8 X9 X10 X11 X12 X13 X14 X15 X16 X17 x=>(w1K h8 _).trans (congrArg (fun m=>r5k st m++l) (r6q (m:=[(x0,X0),(x1,X1),(x2,X2),(x3,X3),(x4,X4),(x5,X5),(x6,X6),(x7,X7),(x8,X8),(x9,X9),(x10,X10),(x11,X11),(x12,X12),(x13,X13),(x14,X14),(x15,X15),(x16,X16),(x17,X17)]) h 8 (show 8<18 by decide))),fun X0 X1 X2 X3 X4 X5 X6 X7 X8 X9 X10 X11 X12 X13 X14 X15 X16 X17=>(u5C h8 _).trans (r5O (m:=[(x0,X0),(x1,X1),(x2,X2),(x3,X3),(x4,X4),(x5,X5),(x6,X6),(x7,X7),(x8,X8),(x9,X9),(x10,X10),(x11,X11),(x12,X12),(x13,X13),(x14,X14),(x15,X15),(x16,X16),(x17,X17)]) h 8 (show 8<18 by decide)),fun X0 X1 X2 X3 X4 X5 X6 X7 X8 X9 X10 X11 X12 X13 X14 X15 X16 X17 x=>(u5D h8 _).trans (congrArg (fun m=>r5k st m) (r6q (m:=[(x0,X0),(x1,X1),(x2,X2),(x3,X3),(x4,X4),(x5,X5),(x6,X6),(x7,X7),(x8,X8),(x9,X9),(x10,X10),(x11,X11),(x12,X12),(x13,X13),(x14,X14),(x15,X15),(x16,X16),(x17,X17)]) h 8 (show 8<18 by decide)))⟩,
 ⟨fun l X0 X1 X2 X3 X4 X5 X6 X7 X8 X9 X10 X11 X12 X13 X14 X15 X16 X17=>(w1J h9 _).trans (r5O (m:=[(x0,X0),(x1,X1),(x2,X2),(x3,X3),(x4,X4),(x5,X5),(x6,X6),(x7,X7),(x8,X8),(x9,X9),(x10,X10),(x11,X11),(x12,X12),(x13,X13),(x14,X14),(x15,X15),(x16,X16),(x17,X17)]) h 9 (show 9<18 by decide)),fun l X0 X1 X2 X3 X4 X5 X6 X7 X8 X9 X10 X11 X12 X13 X14 X15 X16 X17 x=>(w1K h9 _).trans (congrArg (fun m=>r5k st m++l) (r6q (m:=[(x0,X0),(x1,X1),(x2,X2),(x3,X3),(x4,X4),(x5,X5),(x6,X6),(x7,X7),(x8,X8),(x9,X9),(x10,X10),(x11,X11),(x12,X12),(x13,X13),(x14,X14),(x15,X15),(x16,X16),(x17,X17)]) h 9 (show 9<18 by decide))),fun X0 X1 X2 X3 X4 X5 X6 X7 X8 X9 X10 X11 X12 X13 X14 X15 X16 X17=>(u5C h9 _).trans (r5O (m:=[(x0,X0),(x1,X1),(x2,X2),(x3,X3),(x4,X4),(x5,X5),(x6,X6),(x7,X7),(x8,X8),(x9,X9),(x10,X10),(x11,X11),(x12,X12),(x13,X13),(x14,X14),(x15,X15),(x16,X16),(x17,X17)]) h 9 (show 9<18 by decide)),fun X0 X1 X2 X3 X4 X5 X6 X7 X8 X9 X10 X11 X12 X13 X14 X15 X16 X17 x=>(u5D h9 _).trans (congrArg (fun m=>r5k st m) (r6q (m:=[(x0,X0),(x1,X1),(x2,X2),(x3,X3),(x4,X4),(x5,X5),(x6,X6),(x7,X7),(x8,X8),(x9,X9),(x10,X10),(x11,X11),(x12,X12),(x13,X13),(x14,X14),(x15,X15),(x16,X16),(x17,X17)]) h 9 (show 9<18 by decide)))⟩,
 ⟨fun l X0 X1 X2 X3 X4 X5 X6 X7 X8 X9 X10 X11 X12 X13 X14 X15 X16 X17=>(w1J h10 _).trans (r5O (m:=[(x0,X0),(x1,X1),(x2,X2),(x3,X3),(x4,X4),(x5,X5),(x6,X6),(x7,X7),(x8,X8),(x9,X9),(x10,X10),(x11,X11),(x12,X12),(x13,X13),(x14,X14),(x15,X15),(x16,X16),(x17,X17)]) h 10 (show 10<18 by decide)),fun l X0 X1 X2 X3 X4 X5 X6 X7 X8 X9 X10 X11 X12 X13 X14 X15 X16 X17 x=>(w1K h10 _).trans (congrArg (fun m=>r5k st m++l) (r6q (m:=[(x0,X0),(x1,X1),(x2,X2),(x3,X3),(x4,X4),(x5,X5),(x6,X6),(x7,X7),(x8,X8),(x9,X9),(x10,X10),(x11,X11),(x12,X12),(x13,X13),(x14,X14),(x15,X15),(x16,X16),(x17,X17)]) h 10 (show 10<18 by decide))),fun X0 X1 X2 X3 X4 X5 X6 X7 X8 X9 X10 X11 X12 X13 X14 X15 X16 X17=>(u5C h10 _).trans (r5O (m:=[(x0,X0),(x1,X1),(x2,X2),(x3,X3),(x4,X4),(x5,X5),(x6,X6),(x7,X7),(x8,X8),(x9,X9),(x10,X10),(x11,X11),(x12,X12),(x13,X13),(x14,X14),(x15,X15),(x16,X16),(x17,X17)]) h 10 (show 10<18 by decide)),fun X0 X1 X2 X3 X4 X5 X6 X7 X8 X9 X10 X11 X12 X13 X14 X15 X16 X17 x=>(u5D h10 _).trans (congrArg (fun m=>r5k st m) (r6q (m:=[(x0,X0),(x1,X1),(x2,X2),(x3,X3),(x4,X4),(x5,X5),(x6,X6),(x7,X7),(x8,X8),(x9,X9),(x10,X10),(x11,X11),(x12,X12),(x13,X13),(x14,X14),(x15,X15),(x16,X16),(x17,X17)]) h 10 (show 10<18 by decide)))⟩,
 ⟨fun l X0 X1 X2 X3 X4 X5 X6 X7 X8 X9 X10 X11 X12 X13 X14 X15 X16 X17=>(w1J h11 _).trans (r5O (m:=[(x0,X0),(x1,X1),(x2,X2),(x3,X3),(x4,X4),(x5,X5),(x6,X6),(x7,X7),(x8,X8),(x9,X9),(x10,X10),(x11,X11),(x12,X12),(x13,X13),(x14,X14),(x15,X15),(x16,X16),(x17,X17)]) h 11 (show 11<18 by decide)),fun l X0 X1 X2 X3 X4 X5 X6 X7 X8 X9 X10 X11 X12 X13 X14 X15 X16 X17 x=>(w1K h11 _).trans (congrArg (fun m=>r5k st m++l) (r6q (m:=[(x0,X0),(x1,X1),(x2,X2),(x3,X3),(x4,X4),(x5,X5),(x6,X6),(x7,X7),(x8,X8),(x9,X9),(x10,X10),(x11,X11),(x12,X12),(x13,X13),(x14,X14),(x15,X15),(x16,X16),(x17,X17)]) h 11 (show 11<18 by decide))),fun X0 X1 X2 X3 X4 X5 X6 X7 X8 X9 X10 X11 X12 X13 X14 X15 X16 X17=>(u5C h11 _).trans (r5O (m:=[(x0,X0),(x1,X1),(x2,X2),(x3,X3),(x4,X4),(x5,X5),(x6,X6),(x7,X7),(x8,X8),(x9,X9),(x10,X10),(x11,X11),(x12,X12),(x13,X13),(x14,X14),(x15,X15),(x16,X16),(x17,X17)]) h 11 (show 11<18 by decide)),fun X0 X1 X2 X3 X4 X5 X6 X7 X8 X9 X10 X11 X12 X13 X14 X15 X16 X17 x=>(u5D h11 _).trans (congrArg (fun m=>r5k st m) (r6q (m:=[(x0,X0),(x1,X1),(x2,X2),(x3,X3),(x4,X4),(x5,X5),(x6,X6),(x7,X7),(x8,X8),(x9,X9),(x10,X10),(x11,X11),(x12,X12),(x13,X13),(x14,X14),(x15,X15),(x16,X16),(x17,X17)]) h 11 (show 11<18 by decide)))⟩,
 ⟨fun l X0 X1 X2 X3 X4 X5 X6 X7 X8 X9 X10 X11 X12 X13 X14 X15 X16 X17=>(w1J h12 _).trans (r5O (m:=[(x0,X0),(x1,X1),(x2,X2),(x3,X3),(x4,X4),(x5,X5),(x6,X6),(x7,X7),(x8,X8),(x9,X9),(x10,X10),(x11,X11),(x12,X12),(x13,X13),(x14,X14),(x15,X15),(x16,X16),(x17,X17)]) h 12 (show 12<18 by decide)),fun l X0 X1 X2 X3 X4 X5 X6 X7 X8 X9 X10 X11 X12 X13 X14 X15 X16 X17 x=>(w1K h12 _).trans (congrArg (fun m=>r5k st m++l) (r6q (m:=[(x0,X0),(x1,X1),(x2,X2),(x3,X3),(x4,X4),(x5,X5),(x6,X6),(x7,X7),(x8,X8),(x9,X9),(x10,X10),(x11,X11),(x12,X12),(x13,X13),(x14,X14),(x15,X15),(x16,X16),(x17,X17)]) h 12 (show 12<18 by decide))),fun X0 X1 X2 X3 X4 X5 X6 X7 X8 X9 X10 X11 X12 X13 X14 X15 X16 X17=>(u5C h12 _).trans (r5O (m:=[(x0,X0),(x1,X1),(x2,X2),(x3,X3),(x4,X4),(x5,X5),(x6,X6),(x7,X7),(x8,X8),(x9,X9),(x10,X10),(x11,X11),(x12,X12),(x13,X13),(x14,X14),(x15,X15),(x16,X16),(x17,X17)]) h 12 (show 12<18 by decide)),fun X0 X1 X2 X3 X4 X5 X6 X7 X8 X9 X10 X11 X12 X13 X14 X15 X16 X17 x=>(u5D h12 _).trans (congrArg (fun m=>r5k st m) (r6q (m:=[(x0,X0),(x1,X1),(x2,X2),(x3,X3),(x4,X4),(x5,X5),(x6,X6),(x7,X7),(x8,X8),(x9,X9),(x10,X10),(x11,X11),(x12,X12),(x13,X13),(x14,X14),(x15,X15),(x16,X16),(x17,X17)]) h 12 (show 12<18 by decide)))⟩,
 ⟨fun l X0 X1 X2 X3 X4 X5 X6 X7 X8 X9 X10 X11 X12 X13 X14 X15 X16 X17=>(w1J h13 _).trans (r5O (m:=[(x0,X0),(x1,X1),(x2,X2),(x3,X3),(x4,X4),(x5,X5),(x6,X6),(x7,X7),(x8,X8),(x9,X9),(x10,X10),(x11,X11),(x12,X12),(x13,X13),(x14,X14),(x15,X15),(x16,X16),(x17,X17)]) h 13 (show 13<18 by decide)),fun l X0 X1 X2 X3 X4 X5 X6 X7 X8 X9 X10 X11 X12 X13 X14 X15 X16 X17 x=>(w1K h13 _).trans (congrArg (fun m=>r5k st m++l) (r6q (m:=[(x0,X0),(x1,X1),(x2,X2),(x3,X3),(x4,X4),(x5,X5),(x6,X6),(x7,X7),(x8,X8),(x9,X9),(x10,X10),(x11,X11),(x12,X12),(x13,X13),(x14,X14),(x15,X15),(x16,X16),(x17,X17)]) h 13 (show 13<18 by decide))),fun X0 X1 X2 X3 X4 X5 X6 X7 X8 X9 X10 X11 X12 X13 X14 X15 X16 X17=>(u5C h13 _).trans (r5O (m:=[(x0,X0),(x1,X1),(x2,X2),(x3,X3),(x4,X4),(x5,X5),(x6,X6),(x7,X7),(x8,X8),(x9,X9),(x10,X10),(x11,X11),(x12,X12),(x13,X13),(x14,X14),(x15,X15),(x16,X16),(x17,X17)]) h 13 (show 13<18 by decide)),fun X0 X1 X2 X3 X4 X5 X6 X7 X8 X9 X10 X11 X12 X13 X14 X15 X16 X17 x=>(u5D h13 _).trans (congrArg (fun m=>r5k st m) (r6q (m:=[(x0,X0),(x1,X1),(x2,X2),(x3,X3),(x4,X4),(x5,X5),(x6,X6),(x7,X7),(x8,X8),(x9,X9),(x10,X10),(x11,X11),(x12,X12),(x13,X13),(x14,X14),(x15,X15),(x16,X16),(x17,X17)]) h 13 (show 13<18 by decide)))⟩,
 ⟨fun l X0 X1 X2 X3 X4 X5 X6 X7 X8 X9 X10 X11 X12 X13 X14 X15 X16 X17=>(w1J h14 _).trans (r5O (m:=[(x0,X0),(x1,X1),(x2,X2),(x3,X3),(x4,X4),(x5,X5),(x6,X6),(x7,X7),(x8,X8),(x9,X9),(x10,X10),(x11,X11),(x12,X12),(x13,X13),(x14,X14),(x15,X15),(x16,X16),(x17,X17)]) h 14 (show 14<18 by decide)),fun l X0 X1 X2 X3 X4 X5 X6 X7 X8 X9 X10 X11 X12 X13 X14 X15 X16 X17 x=>(w1K h14 _).trans (congrArg (fun m=>r5k st m++l) (r6q (m:=[(x0,X0),(x1,X1),(x2,X2),(x3,X3),(x4,X4),(x5,X5),(x6,X6),(x7,X7),(x8,X8),(x9,X9),(x10,X10),(x11,X11),(x12,X12),(x13,X13),(x14,X14),(x15,X15),(x16,X16),(x17,X17)]) h 14 (show 14<18 by decide))),fun X0 X1 X2 X3 X4 X5 X6 X7 X8 X9 X10 X11 X12 X13 X14 X15 X16 X17=>(u5C h14 _).trans (r5O (m:=[(x0,X0),(x1,X1),(x2,X2),(x3,X3),(x4,X4),(x5,X5),(x6,X6),(x7,X7),(x8,X8),(x9,X9),(x10,X10),(x11,X11),(x12,X12),(x13,X13),(x14,X14),(x15,X15),(x16,X16),(x17,X17)]) h 14 (show 14<18 by decide)),fun X0 X1 X2 X3 X4 X5 X6 X7 X8 X9 X10 X11 X12 X13 X14 X15 X16 X17 x=>(u5D h14 _).trans (congrArg (fun m=>r5k st m) (r6q (m:=[(x0,X0),(x1,X1),(x2,X2),(x3,X3),(x4,X4),(x5,X5),(x6,X6),(x7,X7),(x8,X8),(x9,X9),(x10,X10),(x11,X11),(x12,X12),(x13,X13),(x14,X14),(x15,X15),(x16,X16),(x17,X17)]) h 14 (show 14<18 by decide)))⟩,
 ⟨fun l X0 X1 X2 X3 X4 X5 X6 X7 X8 X9 X10 X11 X12 X13 X14 X15 X16 X17=>(w1J h15 _).trans (r5O (m:=[(x0,X0),(x1,X1),(x2,X2),(x3,X3),(x4,X4),(x5,X5),(x6,X6),(x7,X7),(x8,X8),(x9,X9),(x10,X10),(x11,X11),(x12,X12),(x13,X13),(x14,X14),(x15,X15),(x16,X16),(x17,X17)]) h 15 (show 15<18 by decide)),fun l X0 X1 X2 X3 X4 X5 X6 X7 X8 X9 X10 X11 X12 X13 X14 X15 X16 X17 x=>(w1K h15 _).trans (congrArg (fun m=>r5k st m++l) (r6q (m:=[(x0,X0),(x1,X1),(x2,X2),(x3,X3),(x4,X4),(x5,X5),(x6,X6),(x7,X7),(x8,X8),(x9,X9),(x10,X10),(x11,X11),(x12,X12),(x13,X13),(x14,X14),(x15,X15),(x16,X16),(x17,X17)]) h 15 (show 15<18 by decide))),fun X0 X1 X2 X3 X4 X5 X6 X7 X8 X9 X10 X11 X12 X13 X14 X15 X16 X17=>(u5C h15 _).trans (r5O (m:=[(x0,X0),(x1,X1),(x2,X2),(x3,X3),(x4,X4),(x5,X5),(x6,X6),(x7,X7),(x8,X8),(x9,X9),(x10,X10),(x11,X11),(x12,X12),(x13,X13),(x14,X14),(x15,X15),(x16,X16),(x17,X17)]) h 15 (show 15<18 by decide)),fun X0 X1 X2 X3 X4 X5 X6 X7 X8 X9 X10 X11 X12 X13 X14 X15 X16 X17 x=>(u5D h15 _).trans (congrArg (fun m=>r5k st m) (r6q (m:=[(x0,X0),(x1,X1),(x2,X2),(x3,X3),(x4,X4),(x5,X5),(x6,X6),(x7,X7),(x8,X8),(x9,X9),(x10,X10),(x11,X11),(x12,X12),(x13,X13),(x14,X14),(x15,X15),(x16,X16),(x17,X17)]) h 15 (show 15<18 by decide)))⟩,
 ⟨fun l X0 X1 X2 X3 X4 X5 X6 X7 X8 X9 X10 X11 X12 X13 X14 X15 X16 X17=>(w1J h16 _).trans (r5O (m:=[(x0,X0),(x1,X1),(x2,X2),(x3,X3),(x4,X4),(x5,X5),(x6,X6),(x7,X7),(x8,X8),(x9,X9),(x10,X10),(x11,X11),(x12,X12),(x13,X13),(x14,X14),(x15,X15),(x16,X16),(x17,X17)]) h 16 (show 16<18 by decide)),fun l X0 X1 X2 X3 X4 X5 X6 X7 X8 X9 X10 X11 X12 X13 X14 X15 X16 X17 x=>(w1K h16 _).trans (congrArg (fun m=>r5k st m++l) (r6q (m:=[(x0,X0),(x1,X1),(x2,X2),(x3,X3),(x4,X4),(x5,X5),(x6,X6),(x7,X7),(x8,X8),(x9,X9),(x10,X10),(x11,X11),(x12,X12),(x13,X13),(x14,X14),(x15,X15),(x16,X16),(x17,X17)]) h 16 (show 16<18 by decide))),fun X0 X1 X2 X3 X4 X5 X6 X7 X8 X9 X10 X11 X12 X13 X14 X15 X16 X17=>(u5C h16 _).trans (r5O (m:=[(x0,X0),(x1,X1),(x2,X2),(x3,X3),(x4,X4),(x5,X5),(x6,X6),(x7,X7),(x8,X8),(x9,X9),(x10,X10),(x11,X11),(x12,X12),(x13,X13),(x14,X14),(x15,X15),(x16,X16),(x17,X17)]) h 16 (show 16<18 by decide)),fun X0 X1 X2 X3 X4 X5 X6 X7 X8 X9 X10 X11 X12 X13 X14 X15 X16 X17 x=>(u5D h16 _).trans (congrArg (fun m=>r5k st m) (r6q (m:=[(x0,X0),(x1,X1),(x2,X2),(x3,X3),(x4,X4),(x5,X5),(x6,X6),(x7,X7),(x8,X8),(x9,X9),(x10,X10),(x11,X11),(x12,X12),(x13,X13),(x14,X14),(x15,X15),(x16,X16),(x17,X17)]) h 16 (show 16<18 by decide)))⟩,
 ⟨fun l X0 X1 X2 X3 X4 X5 X6 X7 X8 X9 X10 X11 X12 X13 X14 X15 X16 X17=>(w1J h17 _).trans (r5O (m:=[(x0,X0),(x1,X1),(x2,X2),(x3,X3),(x4,X4),(x5,X5),(x6,X6),(x7,X7),(x8,X8),(x9,X9),(x10,X10),(x11,X11),(x12,X12),(x13,X13),(x14,X14),(x15,X15),(x16,X16),(x17,X17)]) h 17 (show 17<18 by decide)),fun l X0 X1 X2 X3 X4 X5 X6 X7 X8 X9 X10 X11 X12 X13 X14 X15 X16 X17 x=>(w1K h17 _).trans (congrArg (fun m=>r5k st m++l) (r6q (m:=[(x0,X0),(x1,X1),(x2,X2),(x3,X3),(x4,X4),(x5,X5),(x6,X6),(x7,X7),(x8,X8),(x9,X9),(x10,X10),(x11,X11),(x12,X12),(x13,X13),(x14,X14),(x15,X15),(x16,X16),(x17,X17)]) h 17 (show 17<18 by decide))),fun X0 X1 X2 X3 X4 X5 X6 X7 X8 X9 X10 X11 X12 X13 X14 X15 X16 X17=>(u5C h17 _).trans (r5O (m:=[(x0,X0),(x1,X1),(x2,X2),(x3,X3),(x4,X4),(x5,X5),(x6,X6),(x7,X7),(x8,X8),(x9,X9),(x10,X10),(x11,X11),(x12,X12),(x13,X13),(x14,X14),(x15,X15),(x16,X16),(x17,X17)]) h 17 (show 17<18 by decide)),fun X0 X1 X2 X3 X4 X5 X6 X7 X8 X9 X10 X11 X12 X13 X14 X15 X16 X17 x=>(u5D h17 _).trans (congrArg (fun m=>r5k st m) (r6q (m:=[(x0,X0),(x1,X1),(x2,X2),(x3,X3),(x4,X4),(x5,X5),(x6,X6),(x7,X7),(x8,X8),(x9,X9),(x10,X10),(x11,X11),(x12,X12),(x13,X13),(x14,X14),(x15,X15),(x16,X16),(x17,X17)]) h 17 (show 17<18 by decide)))⟩⟩
theorem x7E{x0 x1 x2 x3 x4 x5 x6 x7 x8 x9 x10 x11 x12 x13 x14 x15 x16 x17:Nat}(h: [x0,x1,x2,x3,x4,x5,x6,x7,x8,x9,x10,x11,x12,x13,x14,x15,x16,x17].Nodup): [x8,x9,x10].Nodup:=by
 have a:=(ndg h 8 9 (by decide) (show 9<18 by decide)).1
 have b:=(ndg h 8 10 (by decide) (show 10<18 by decide)).1
 have c:=(ndg h 9 10 (by decide) (show 10<18 by decide)).1
 have a:(x8=x9)=False:=a
 have b:(x8=x10)=False:=b
 have c:(x9=x10)=False:=c
 simp[a,b,c]
theorem x0l{P:Program}{gl:Gl}{f:FuncId}{args:List D}{st s0:St}{d0:D}{R:D→St→Prop}(h:Spec P gl f args st (fun d st'=>d=d0∧st'=s0))(k:R d0 s0):Spec P gl f args st R:=h.mono (by rintro _ _ ⟨rfl,rfl⟩;exact k)
end Go.Am
namespace Go.Am
open Go Go.MapKept Go.ChangeMaps
theorem r5H{a:Act}{d t:Nat}{v:Value}(h:d<a.tmps.size):(a.put (some d) v).tmps.getD t undef=if t=d then v else a.tmps.getD t undef:=by
 simp only[Act.put,Array.getD_eq_getD_getElem?, Array.getElem?_setIfInBounds]
 by_cases e:d=t
 ·subst e;simp[h]
 ·have e':¬t=d:=fun x=>e x.symm
  simp[e,e']
theorem r5t{a:Act}{d:Nat}{v:Value}:(a.put (some d) v).tmps.size=a.tmps.size:=by simp[Act.put]
theorem put_defers{a:Act}{d:Nat}{v:Value}:(a.put (some d) v).defers=a.defers:=rfl
theorem u0D{P:Program}{ops:Array Oper}{Q:Exit→Act→World→Prop}{i:Nat}{rest:List Nat}{dst:Option Nat}{op:Op}{ty:Nat}{pos:String}{after:Array Edge}{a:Act}{w w':World}{v:Value}(ho:ops[i]? =some ⟨dst,op,ty,pos,after,none⟩)(hr:(execOp a.eval ⟨dst,op,ty,pos,after,none⟩).run P w= .ok (.value v) w')(hk:wpOps P ops Q rest (a.put dst v) w'):wpOps P ops Q (i::rest) a w:=by
 rw[wpOps_cons]
 simp only[wpOp,ho]
 have:Region.wanted ⟨dst,op,ty,pos,after,none⟩ (yielded ops a.tmps)=true:=rfl
 rw[this]
 simp only[if_true]
 left
 unfold Oper.wp
 rw[hr]
 exact hk
theorem x2H{P:Program}{ops:Array Oper}{Q:Exit→Act→World→Prop}{i:Nat}{rest:List Nat}{op:Op}{ty:Nat}{pos:String}{after:Array Edge}{a:Act}{w w':World}(ho:ops[i]? =some ⟨none,op,ty,pos,after,none⟩)(hr:(execOp a.eval ⟨none,op,ty,pos,after,none⟩).run P w= .ok .skip w')(hk:wpOps P ops Q rest a w'):wpOps P ops Q (i::rest) a w:=by
 rw[wpOps_cons]
 simp only[wpOp,ho]
 have:Region.wanted ⟨none,op,ty,pos,after,none⟩ (yielded ops a.tmps)=true:=rfl
 rw[this]
 simp only[if_true]
 left
 unfold Oper.wp
 rw[hr]
 exact hk
theorem w3c:∀(n:Nat) (l:List Nat),l.Nodup→(∀x∈l,x<n)→l.length≤n
 |0,l,_,h=>by
  cases l with
  |nil=>exact Nat.le_refl _
  |cons x l=>exact absurd (h x (List.mem_cons_self ..)) (Nat.not_lt_zero _)
 |n+1,l,hn,h=>by
  by_cases hm:n∈l
  ·have h1:=w3c n (l.erase n) (hn.erase n) fun x hx=>by
    obtain⟨h2,h3⟩:=(hn.mem_erase_iff).1 hx
    have:=h x h3
    omega
   rw[List.length_erase_of_mem hm]at h1
   omega
  ·have:=w3c n l hn fun x hx=>by
    have:=h x hx
    have:x≠n:=fun e=>hm (e▸hx)
    omega
   omega
structure w4w(a0:Act)(w:World)(N b tI tk tv bm bi:Nat)(ents:Array MapEntry)(clock:Nat)(a:Act)(w':World)(vis:List Nat):Prop where
 nd:vis.Nodup
 lt:∀i∈vis,i<ents.size
 size:w'.heap.size=w.heap.size+1
 it:w'.heap[w.heap.size]? =some (.mapIter (some bm) clock vis.toArray clock)
 inn:∃inn:Array MapEntry,w'.heap[bi]? =some (.map inn vis.length)∧inn.size=vis.length∧∀j (hj:j<vis.length),∃e e0:MapEntry,inn[j]? =some e∧ents[vis[j]]? =some e0∧e.key=e0.key∧e.val=e0.val∧e.born=j
 heap:∀blk,blk<w.heap.size→blk≠bi→w'.heap[blk]? =w.heap[blk]?
 os:w'.os=w.os
 output:w'.output=w.output
 tape:w'.tape=w.tape∧w.drawn≤w'.drawn
 tsz:a.tmps.size=N
 dfr:a.defers=[]
 inner:a.tmps.getD tI undef= .map (some bi)
 iter:a.tmps.getD (b+1) undef= .pointer (some ⟨w.heap.size,0,none⟩)
 rest:∀t,t<b→t≠tk→t≠tv→a.tmps.getD t undef=a0.tmps.getD t undef
theorem x2I{P:Program}{t kt et:TypeId}{w:World}{blk clock:Nat}{ents:Array MapEntry}{k:Bs}{v:Value}{ks:List (Bs×List D)}
 (hu:P.underlying t=some (.map kt et)) (hkt:P.underlying kt=some .string) (hh:w.heap[blk]? =some (.map ents clock)) (hsz:ents.size=ks.length)
 (hc:∀i (hi:i<ks.length),∃e,ents[i]? =some e∧e.key= .string (bs (ks[i]).1)) (hn:assoc k ks=none):
 (Instr.mapUpdate t (.map (some blk)) (.string (bs k)) v).run P w= .ok () (setBlock w blk (.map (ents.push { key:=.string (bs k),val:=v,born:=clock }) (clock+1))):=by
 have hck:=fun e=>run_checkKey (P:=P) (w:=w) (d:=.string) (k:=.string (bs k)) hkt trivial e 9999
 rcases u6F (key:=fun k=>.string (bs k)) w2D k ents.toList ks 0 (by simpa using hsz) (fun j hj=>by
  obtain⟨e,h1,h2⟩:=hc j hj
  exact⟨e,by simpa using h1,h2⟩)with⟨h1,h2,h3⟩|⟨j,cs0,e,h1,_⟩
 ·have hf:=run_findKey (P:=P) (w:=w) hkt h2
  simp[Instr.mapUpdate,run_underlying hu,MapKept.run_getObj_map hh,hck,hf,run_setObj_map _ hh,setBlock]
 ·rw[hn]at h1;cases h1
section
variable {P:Program} {N b tI tk tv bm bi:Nat} {ents:Array MapEntry} {clock:Nat} {a0 a:Act} {w w':World} {vis:List Nat} {t kt et:TypeId} {ks:List (Bs×List D)}
theorem w4w.left(hb:∀(i:Nat) (e:MapEntry),ents[i]? =some e→e.born=i){e:MapEntry}(h:e∈(leftOf ents vis.toArray).toList):∃i,i<ents.size∧ents[i]? =some e∧i∉vis:=by
 unfold leftOf at h
 simp only[Array.toList_filter,List.mem_filter,Array.mem_toList_iff,Bool.not_eq_true',Array.contains_toList]at h
 obtain⟨h1,h2⟩:=h
 obtain⟨i,hi,he⟩:=Array.getElem_of_mem h1
 have h3:ents[i]? =some e:=by rw[Array.getElem?_eq_getElem hi,he]
 refine⟨i,hi,h3,fun hv=>?_⟩
 have h4:=hb i e h3
 rw[h4]at h2
 simp[hv]at h2
theorem w4w.all(hb:∀(i:Nat) (e:MapEntry),ents[i]? =some e→e.born=i)(h:(leftOf ents vis.toArray).size=0)(i:Nat)(hi:i<ents.size):i∈vis:=by
 refine Classical.byContradiction fun hn=>?_
 have hm:ents[i]∈leftOf ents vis.toArray:=by
  unfold leftOf
  rw[Array.mem_filter]
  refine⟨Array.getElem_mem hi,?_⟩
  rw[hb i _ (Array.getElem?_eq_getElem hi)]
  simp[hn]
 have:=Array.size_pos_of_mem hm
 omega
theorem w4w.more(h:w4w a0 w N b tI tk tv bm bi ents clock a w' vis)(hu:P.underlying t=some (.map kt et))(hkt:P.underlying kt=some .string)(hne:bi≠bm)(hbm:bm<w.heap.size)(hbi:bi<w.heap.size)
 (hsz:ents.size=ks.length) (hk:∀i (hi:i<ks.length),∃e,ents[i]? =some e∧e.key= .string (bs (ks[i]).1)) (hnd:(ks.map (·.1)).Nodup) {i:Nat} (hi:i<ents.size) (hv:i∉vis) {e:MapEntry} (he:ents[i]? =some e)
 {w1:World} (hw1:w1=w'∨w1=w'.drew) {k:Bs} (hkk:k=(ks[i]'(hsz▸hi)).1):
 ∃w2,(Instr.mapUpdate t (.map (some bi)) e.key e.val).run P (setBlock w1 w.heap.size (.mapIter (some bm) clock (vis.toArray.push i) clock))= .ok () w2∧
  ∀a',a'.tmps.size=N→a'.defers=[]→a'.tmps.getD tI undef= .map (some bi)→a'.tmps.getD (b+1) undef= .pointer (some ⟨w.heap.size,0,none⟩)→(∀t,t<b→t≠tk→t≠tv→a'.tmps.getD t undef=a0.tmps.getD t undef)→
   w4w a0 w N b tI tk tv bm bi ents clock a' w2 (vis++[i]):=by
 obtain⟨inn,i1,i2,i3⟩:=h.inn
 have hkey:∀j (hj:j<ks.length) e,ents[j]? =some e→e.key= .string (bs (ks[j]).1):=fun j hj e he=>by
  obtain⟨e',a1,a2⟩:=hk j hj
  rw[he]at a1;cases a1;exact a2
 have x9h:w1.heap=w'.heap∧w1.os=w'.os∧w1.output=w'.output∧w1.tape=w'.tape∧w'.drawn≤w1.drawn:=by
  rcases hw1 with rfl|rfl
  ·exact⟨rfl,rfl,rfl,rfl,Nat.le_refl _⟩
  ·exact⟨rfl,rfl,rfl,rfl,by show w'.drawn≤w'.drawn+1;omega⟩
 obtain⟨q1,q2,q3,q4,q5⟩:=x9h
 have hbr:bi≠w.heap.size:=by omega
 generalize hW:setBlock w1 w.heap.size (.mapIter (some bm) clock (vis.toArray.push i) clock)=W
 have hWh:∀j,W.heap[j]? =if j=w.heap.size then some (.mapIter (some bm) clock (vis.toArray.push i) clock)else w'.heap[j]? :=fun j=>by
  subst hW
  simp only[setBlock,q1,Array.getElem?_setIfInBounds]
  by_cases ej:w.heap.size=j
  ·subst ej
   simp[h.size]
  ·have:¬j=w.heap.size:=fun x=>ej x.symm
   simp[ej,this]
 have hWs:W.heap.size=w'.heap.size:=by subst hW;simp[setBlock,q1]
 have hWi:W.heap[bi]? =some (.map inn vis.length):=by rw[hWh,if_neg hbr];exact i1
 have hin:∀j (hj:j<vis.length),vis[j]<ks.length:=fun j hj=>hsz▸h.lt _ (List.getElem_mem hj)
 let kv:List (Bs×List D):=vis.map fun j=>((ks.getD j ([],[])).1,[])
 have hkl:inn.size=kv.length:=by simp[kv,i2]
 have hkg:∀j (hj:j<kv.length) (hj':j<vis.length),kv[j].1=(ks[vis[j]]'(hin j hj')).1:=fun j hj hj'=>by
  simp only[kv,List.getElem_map,List.getD_eq_getElem?_getD,List.getElem?_eq_getElem (hin j hj')];rfl
 have hno:assoc k kv=none:=by
  cases ha:assoc k kv with
  |none=>rfl
  |some v=>
   exfalso
   have:∃j,j∈vis∧(ks.getD j ([],[])).1=k:=by
    have key:∀l:List Nat,assoc k (l.map fun j=>((ks.getD j ([],[])).1,([]:List D)))=some v→∃j,j∈l∧(ks.getD j ([],[])).1=k:=by
     intro l
     induction l with
     |nil=>intro h;cases h
     |cons x l ih=>
      intro h
      rw[List.map_cons]at h
      simp only[assoc]at h
      split at h
      ·rename_i e;exact⟨x,List.mem_cons_self ..,e.symm⟩
      ·obtain⟨j,h1,h2⟩:=ih h
       exact⟨j,List.mem_cons_of_mem _ h1,h2⟩
    exact key vis ha
   obtain⟨j,j1,j2⟩:=this
   have hj:=h.lt j j1
   have hij:j=i:=by
    have hj':j<ks.length:=hsz▸hj
    have hi':i<ks.length:=hsz▸hi
    have e2:(ks.map (·.1))[j]'(by simpa using hj')=(ks.map (·.1))[i]'(by simpa using hi'):=by
     simp only[List.getElem_map]
     rw[←hkk, ←j2,List.getD_eq_getElem?_getD,List.getElem?_eq_getElem hj'];rfl
    exact(List.getElem_inj hnd).1 e2
   exact hv (hij▸j1)
 have hrun:=x2I (P:=P) (w:=W) (k:=k) (v:=e.val) (ks:=kv) hu hkt hWi hkl (fun j hj=>by
  have hj':j<vis.length:=by simpa[kv]using hj
  obtain⟨e1,e0,a1,a2,a3,a4,a5⟩:=i3 j hj'
  refine⟨e1,a1,?_⟩
  rw[a3,hkey _ (hin j hj') e0 a2,hkg j hj hj']) hno
 have hek:e.key= .string (bs k):=by rw[hkk];exact hkey i (hsz▸hi) e he
 rw[hek]
 refine⟨_,hrun,fun a' g1 g2 g3 g4 g5=>?_⟩
 have hlen:(vis++[i]).length=vis.length+1:=by simp
 have y0f:∀j,(setBlock W bi (.map (inn.push { key:=.string (bs k),val:=e.val,born:=vis.length }) (vis.length+1))).heap[j]? =if j=bi then some (.map (inn.push { key:=.string (bs k),val:=e.val,born:=vis.length }) (vis.length+1))else W.heap[j]? :=fun j=>by
  simp only[setBlock,Array.getElem?_setIfInBounds]
  by_cases ej:bi=j
  ·subst ej
   have:bi<W.heap.size:=by rw[hWs,h.size];omega
   simp[this]
  ·have:¬j=bi:=fun x=>ej x.symm
   simp[ej,this]
 refine⟨?_,?_,?_,?_,⟨inn.push { key:=.string (bs k),val:=e.val,born:=vis.length },?_,?_,?_⟩,?_,?_,?_,?_,g1,g2,g3,g4,g5⟩
 ·rw[List.nodup_append]
  exact⟨h.nd,by simp,fun x hx y hy=>by rw[List.mem_singleton]at hy;subst hy;exact fun e=>hv (e▸hx)⟩
 ·intro j hj
  rcases List.mem_append.1 hj with hj|hj
  ·exact h.lt j hj
  ·rw[List.mem_singleton]at hj;subst hj;exact hi
 ·show(setBlock W bi _).heap.size=_
  simp only[setBlock,Array.size_setIfInBounds]
  rw[hWs,h.size]
 ·rw[y0f,if_neg (Ne.symm hbr),hWh,if_pos rfl]
  simp
 ·rw[y0f,if_pos rfl,hlen]
 ·rw[Array.size_push,i2,hlen]
 ·intro j hj
  rw[hlen]at hj
  by_cases hjl:j<vis.length
  ·obtain⟨e1,e0,a1,a2,a3,a4,a5⟩:=i3 j hjl
   refine⟨e1,e0,by rw[Array.getElem?_push,if_neg (by omega)];exact a1,?_,a3,a4,a5⟩
   rw[List.getElem_append_left hjl];exact a2
  ·have:j=vis.length:=by omega
   subst this
   refine⟨{ key:=.string (bs k),val:=e.val,born:=vis.length },e,by rw[Array.getElem?_push,if_pos i2.symm],?_,hek.symm,rfl,rfl⟩
   rw[List.getElem_append_right (Nat.le_refl _)]
   simpa using he
 ·intro blk hb hbn
  rw[y0f,if_neg hbn,hWh,if_neg (by omega)]
  exact h.heap blk hb hbn
 ·subst hW;exact q2.trans h.os
 ·subst hW;exact q3.trans h.output
 ·subst hW;exact⟨q4.trans h.tape.1,Nat.le_trans h.tape.2 q5⟩
end
section
variable {P:Program} {gl:Gl} {N n0:Nat} {keep:List Nat} {Q:AQ} {fr F:Fr} {st:St}
def u9M(b tI tE tk tv tyM id2 id3 i1 i2 i3 i4:Nat)(y:Nat→Nat)(p:Nat→String)(g:Nat→Array Edge):Code:=
 .seq (.region i1 #[⟨some b,.move (.tmp tE),y 0,p 0,g 0,none⟩,⟨some (b+1),.range tyM (.tmp b),y 1,p 1,g 1,none⟩] false)
  (.block id2 (.loop (.seq (.region i2 #[⟨some (b+2),.next (.tmp (b+1)) false,y 2,p 2,g 2,none⟩,⟨some (b+3),.extract (.tmp (b+2)) 0,y 3,p 3,g 3,none⟩] false)
   (.seq (.cond (.tmp (b+3)) .skip (.exit id2))
    (.block id3 (.seq (.region i3 #[⟨some (b+4),.entry (.tmp (b+1)),y 4,p 4,g 4,none⟩,⟨some (b+5),.extract (.tmp (b+4)) 0,y 5,p 5,g 5,none⟩,⟨some (b+6),.extract (.tmp (b+4)) 1,y 6,p 6,g 6,none⟩,⟨some tk,.assign (.tmp (b+5)),y 7,p 7,g 7,none⟩,⟨some tv,.assign (.tmp (b+6)),y 8,p 8,g 8,none⟩] false)
     (.region i4 #[⟨some (b+7),.move (.tmp tI),y 9,p 9,g 9,none⟩,⟨some (b+8),.move (.tmp tk),y 10,p 10,g 10,none⟩,⟨some (b+9),.move (.tmp tv),y 11,p 11,g 11,none⟩,⟨none,.mapUpdate tyM (.tmp (b+7)) (.tmp (b+8)) (.tmp (b+9)),y 12,p 12,g 12,none⟩] false)))))))
theorem w5X{b tI tE tk tv tyM kt et id2 id3 i1 i2 i3 i4 oi oe:Nat}{y:Nat→Nat}{p:Nat→String}{g:Nat→Array Edge}{ag:Bool}{es:List (Bs×List D)}
 (hu:P.underlying tyM=some (.map kt et)) (hkt:P.underlying kt=some .string) (hN:b+10≤N) (hI:tI<b) (hE:tE<b) (hk:tk<b) (hv:tv<b) (n1:tI≠tk) (n2:tI≠tv) (n3:tk≠tv) (hid:id2≠id3)
 (fI:fr.get tI= .mp oi) (fE:fr.get tE= .mp oe) (lI:look st oi=some (.mps ag [])) (lE:look st oe=some (.mps ag es)) (hne:oi≠oe)
 (hF:∀t,F.get t= .any∨(F.get t=fr.get t∧t<b∧t≠tk∧t≠tv))
 (hQ:Q .normal F (st.set oi (some (.mps ag es)))):
 AWp P gl N n0 keep (u9M b tI tE tk tv tyM id2 id3 i1 i2 i3 i4 y p g) Q fr st:=by
 intro w0 μ0 st0 hl0 a0 w ⟨μ,hc⟩
 have hs:=hc.sim
 have hoI:=r5w lI
 have hoE:=r5w lE
 obtain⟨bi,mI,vI⟩:=(w3U (by have:=hc.fr tI;rw[fI]at this;exact this)).1 _ _ hoI
 obtain⟨bm,mE,vE⟩:=(w3U (by have:=hc.fr tE;rw[fE]at this;exact this)).1 _ _ hoE
 have hneb:bi≠bm:=fun e=>hne (hs.inj oi oe _ _ bi 0 0 hoI hoE mI (e▸mE))
 obtain⟨y4b,y1n,y2m,ezI,emI,hhI,y2n,hcI,hxI⟩:=(hs.obj oi _ hoI:u6c (fun k=>.string (bs k)) ag w μ st (μ oi) []).loc
 obtain⟨y4c,ents,clock,ez,emE,hhE,y0g,hcE,hxE⟩:=(hs.obj oe _ hoE:u6c (fun k=>.string (bs k)) ag w μ st (μ oe) es).loc
 rw[mI]at emI;cases emI
 rw[mE]at emE;cases emE
 have y2o:ezI=[]:=hxI.perm.eq_nil
 subst y2o
 have hsI:y1n.size=0:=y2n
 have y2p:y2m=0:=by rw[hxI.clk,hsI]
 have hbi:bi<w.heap.size:=(Array.getElem?_eq_some_iff.1 hhI).1
 have hbm:bm<w.heap.size:=(Array.getElem?_eq_some_iff.1 hhE).1
 have hsz:=hc.size
 have y2q:(ez.map (·.1)).Nodup:=(hxE.perm.map _).nodup_iff.2 hxE.nd
 have hkz:∀i (hi:i<ez.length),∃e,ents[i]? =some e∧e.key= .string (bs (ez[i]).1):=fun i hi=>by
  obtain⟨e,h1,h2,_⟩:=hcE i hi
  exact⟨e,h1,h2⟩
 have ev:∀(a:Act) (t:Nat),a.eval (.tmp t)=a.tmps.getD t undef:=fun _ _=>rfl
 unfold u9M
 refine wp_seq (wp_region ?_)
 show wpOps P _ _ [0,1] a0 w
 refine u0D (v:=.map (some bm)) rfl (by simp only[execOp];rw[ev,vE];rfl) ?_
 refine u0D (v:=.pointer (some ⟨w.heap.size,0,none⟩)) (w':=w.alloc (.mapIter (some bm) clock #[] clock)) rfl ?_ ?_
 ·simp only[execOp]
  rw[ev,r5H (by rw[hsz];omega),if_pos rfl]
  have:=run_range_map (P:=P) w tyM kt et bm ents clock hu hhE
  simp[this,Result.andThen]
 show Exit.then _ _ .normal _ _
 refine wp_block (wp_loop (fun a w'=>∃vis,w4w a0 w N b tI tk tv bm bi ents clock a w' vis) (fun _ w'=>match w'.heap[w.heap.size]? with|some (.mapIter _ _ seen _)=>ents.size-seen.size| _=>0) ?_ ?_)
 ·
  refine⟨[],List.nodup_nil,fun i hi=>(by cases hi),?_,?_,⟨#[],?_,rfl,fun j hj=>absurd hj (Nat.not_lt_zero _)⟩,?_,rfl,rfl,⟨rfl,Nat.le_refl _⟩,?_,?_,?_,?_,?_⟩
  ·simp
  ·exact heap_alloc_new _ _
  ·rw[heap_alloc_old w _ hbi,hhI,y2p]
   have:y1n= #[]:=Array.eq_empty_of_size_eq_zero hsI
   rw[this];rfl
  ·intro blk h1 _;exact heap_alloc_old w _ h1
  ·rw[r5t,r5t,hsz]
  ·rw[put_defers,put_defers,hc.defers]
  ·rw[r5H (by rw[r5t,hsz];omega),if_neg (by omega),r5H (by rw[hsz];omega),if_neg (by omega),vI]
  ·rw[r5H (by rw[r5t,hsz];omega),if_pos rfl]
  ·intro t ht _ _
   rw[r5H (by rw[r5t,hsz];omega),if_neg (by omega),r5H (by rw[hsz];omega),if_neg (by omega)]
 ·rintro a w' ⟨vis,hi⟩
  have hmu:∀(m:Nat),(match w'.heap[w.heap.size]? with|some (.mapIter _ _ seen _)=>ents.size-seen.size| _=>m)=ents.size-vis.length:=fun m=>by rw[hi.it];simp
  have y1o:w'.heap[bm]? =some (.map ents clock):=by rw[hi.heap bm hbm (Ne.symm hneb)];exact hhE
  have hold:∀x∈ents.toList,x.born<clock:=fun x hx=>by
   obtain⟨j,hj,rfl⟩:=List.getElem_of_mem hx
   have hj':j<ents.size:=by simpa using hj
   have:=hxE.born j (ents[j]'hj') (Array.getElem?_eq_getElem hj')
   rw[hxE.clk]
   simp only[Array.getElem_toList]at*
   omega
  refine wp_seq (wp_region ?_)
  show wpOps P _ _ [0,1] a w'
  rcases run_next_at (P:=P) w' (y 2) w.heap.size bm clock clock vis.toArray ents clock hi.it y1o hold (Nat.le_refl _)with⟨h0,hrun⟩|⟨e,he,w1,hw1,hrun⟩
  ·
   refine u0D (v:=.tuple #[.bool false]) (w':=w') rfl ?_ ?_
   ·simp only[execOp]
    rw[ev,hi.iter]
    simp[hrun,Result.andThen]
   refine u0D (v:=.bool false) (w':=w') rfl ?_ ?_
   ·simp only[execOp]
    rw[ev,r5H (by rw[hi.tsz];omega),if_pos rfl]
    simp[Instr.extract,Result.andThen]
   show Exit.then _ _ .normal _ _
   refine wp_seq (wp_cond_split (t:=false) ?_ (fun h=>by cases h) fun _=>wp_exit ?_)
   ·rw[ev,r5H (by rw[r5t,hi.tsz];omega),if_pos rfl]
   show Exit.inBlock id2 _ (.exit id2) _ _
   simp only[Exit.inBlock,if_true]
   obtain⟨inn,j1,j2,j3⟩:=hi.inn
   have hall:=w4w.all (vis:=vis) (hxE.born) h0
   have hperm:vis.Perm (List.range ez.length):=by
    refine(List.perm_ext_iff_of_nodup hi.nd List.nodup_range).2 fun x=>?_
    rw[List.mem_range, ←y0g]
    exact⟨hi.lt x,hall x⟩
   let ev2:List (Bs×List D):=vis.map fun j=>ez.getD j ([],[])
   have hev:ev2.Perm ez:=by
    have h2:=hperm.map fun j=>ez.getD j (([],[]):Bs×List D)
    have h3:(List.range ez.length).map (fun j=>ez.getD j (([],[]):Bs×List D))=ez:=by
     refine List.ext_getElem (by simp) fun n m1 m2=>?_
     simp[List.getD_eq_getElem?_getD,List.getElem?_eq_getElem m2]
    rw[h3]at h2
    exact h2
   obtain⟨k1,k2⟩:=u1L (w':=w') (μ':=μ) (ob':=.mps ag es) hs hoI (fun _ _=>rfl) (fun blk hb hn=>hi.heap blk hb fun e=>hn 0 (e▸mI)) (by rw[hi.size];omega) hi.os hi.output hi.tape (fun blk base e=>.inl ⟨base,e⟩) ⟨rfl,rfl⟩ (fun s=>by
    refine(⟨⟨bi,inn,vis.length,ev2,mI,j1,by simp[ev2,j2],fun j hj=>?_,⟨hev.trans hxE.perm,hxE.nd,j2.symm,fun j e he=>?_⟩⟩⟩:u6c _ ag w' μ _ (μ oi) es)
    ·have hj':j<vis.length:=by simpa[ev2]using hj
     obtain⟨e1,e0,a1,a2,a3,a4,a5⟩:=j3 j hj'
     have hvz:vis[j]<ez.length:=by rw[←y0g];exact hi.lt _ (List.getElem_mem hj')
     obtain⟨e2,c1,c2,c3⟩:=hcE vis[j] hvz
     rw[a2]at c1;cases c1
     have hg:ev2[j]=ez[vis[j]]:=by
      simp only[ev2,List.getElem_map,List.getD_eq_getElem?_getD,List.getElem?_eq_getElem hvz];rfl
     refine⟨e1,a1,?_,?_⟩
     ·rw[a3,c2,hg]
     ·rw[a4,hg];exact c3.step s
    ·have hj':j<vis.length:=by
      rw[←j2]
      exact(Array.getElem?_eq_some_iff.1 he).1
     obtain⟨e1,e0,a1,a2,a3,a4,a5⟩:=j3 j hj'
     rw[he]at a1;cases a1;exact a5)
   refine⟨F,st.set oi (some (.mps ag es)),hQ,μ,k1,hc.glob.step k2,fun t=>?_,?_,?_,hc.step.trans k2⟩
   ·rcases hF t with e|⟨e,e2,e3,e4⟩
    ·rw[e];exact .any _
    ·rw[e,r5H (by rw[r5t,hi.tsz];omega),if_neg (by omega),r5H (by rw[hi.tsz];omega),if_neg (by omega),hi.rest t e2 e3 e4]
     exact(hc.fr t).step k2
   ·rw[r5t,r5t,hi.tsz]
   ·rw[put_defers,put_defers,hi.dfr]
  ·
   obtain⟨i,hi1,hi2,hi3⟩:=w4w.left (vis:=vis) hxE.born he
   have y1p:=hxE.born i e hi2
   rw[y1p]at hrun
   obtain⟨w2,hup,hnew⟩:=hi.more (P:=P) (t:=tyM) hu hkt hneb hbm hbi y0g hkz y2q hi1 hi3 hi2 hw1 rfl
   generalize hW:setBlock w1 w.heap.size (.mapIter (some bm) clock (vis.toArray.push i) clock)=W at hrun hup
   have x9h:w1.heap=w'.heap:=by rcases hw1 with rfl|rfl<;>rfl
   have hWr:W.heap[w.heap.size]? =some (.mapIter (some bm) clock (vis.toArray.push e.born) clock):=by
    subst hW
    rw[y1p]
    simp[setBlock,x9h,hi.size]
   have hWm:W.heap[bm]? =some (.map ents clock):=by
    subst hW
    simp only[setBlock,x9h,Array.getElem?_setIfInBounds]
    rw[if_neg (by omega)]
    exact y1o
   have hborn:(ents.toList.map (·.born)).Nodup:=by
    unfold List.Nodup
    rw[List.pairwise_iff_getElem]
    intro x z hx hz hxz
    have hx':x<ents.size:=by simpa using hx
    have hz':z<ents.size:=by simpa using hz
    simp only[List.getElem_map,Array.getElem_toList]
    rw[hxE.born x _ (Array.getElem?_eq_getElem hx'),hxE.born z _ (Array.getElem?_eq_getElem hz')]
    omega
   have hen:=run_entry_at (P:=P) W w.heap.size bm clock vis.toArray ents clock e hWr hWm (by
    have:=(Array.getElem?_eq_some_iff.1 hi2)
    obtain⟨q1,q2⟩:=this
    rw[←q2];simp) hborn
   refine u0D (v:=.tuple #[.bool true,e.key,e.val]) (w':=W) rfl ?_ ?_
   ·simp only[execOp]
    rw[ev,hi.iter]
    simp[hrun,Result.andThen]
   refine u0D (v:=.bool true) (w':=W) rfl ?_ ?_
   ·simp only[execOp]
    rw[ev,r5H (by rw[hi.tsz];omega),if_pos rfl]
    simp[Instr.extract,Result.andThen]
   show Exit.then _ _ .normal _ _
   refine wp_seq (wp_cond_split (t:=true) ?_ (fun _=>wp_skip ?_) fun h=>by cases h)
   ·rw[ev,r5H (by rw[r5t,hi.tsz];omega),if_pos rfl]
   show Exit.then _ _ .normal _ _
   refine wp_block (wp_seq (wp_region ?_))
   generalize hA:(a.put (some (b+2)) (.tuple #[.bool true,e.key,e.val])).put (some (b+3)) (.bool true)=A
   have sA:A.tmps.size=N:=by subst hA;rw[r5t,r5t,hi.tsz]
   have dA:A.defers=[]:=by subst hA;rw[put_defers,put_defers,hi.dfr]
   have gA:∀t,t<b∨t=b+1→A.tmps.getD t undef=a.tmps.getD t undef:=fun t ht=>by
    subst hA
    rw[r5H (by rw[r5t,hi.tsz];omega),if_neg (by omega),r5H (by rw[hi.tsz];omega),if_neg (by omega)]
   show wpOps P _ _ [0,1,2,3,4] A W
   refine u0D (v:=.tuple #[e.key,e.val]) (w':=W) rfl ?_ ?_
   ·simp only[execOp]
    rw[ev,gA _ (.inr rfl),hi.iter]
    simp[hen,Result.andThen]
   refine u0D (v:=e.key) (w':=W) rfl ?_ ?_
   ·simp only[execOp]
    rw[ev,r5H (by rw[sA];omega),if_pos rfl]
    simp[Instr.extract,Result.andThen]
   refine u0D (v:=e.val) (w':=W) rfl ?_ ?_
   ·simp only[execOp]
    rw[ev,r5H (by rw[r5t,sA];omega),if_neg (by omega),r5H (by rw[sA];omega),if_pos rfl]
    simp[Instr.extract,Result.andThen]
   generalize hB:((A.put (some (b+4)) (.tuple #[e.key,e.val])).put (some (b+5)) e.key).put (some (b+6)) e.val=B
   have sB:B.tmps.size=N:=by subst hB;rw[r5t,r5t,r5t,sA]
   have dB:B.defers=[]:=by subst hB;rw[put_defers,put_defers,put_defers,dA]
   have gB:∀t,t<b∨t=b+1→B.tmps.getD t undef=a.tmps.getD t undef:=fun t ht=>by
    rw[←gA t ht]
    subst hB
    rw[r5H (by rw[r5t,r5t,sA];omega),if_neg (by omega),r5H (by rw[r5t,sA];omega),if_neg (by omega),r5H (by rw[sA];omega),if_neg (by omega)]
   have g5:B.tmps.getD (b+5) undef=e.key:=by
    subst hB
    rw[r5H (by rw[r5t,r5t,sA];omega),if_neg (by omega),r5H (by rw[r5t,sA];omega),if_pos rfl]
   have g6:B.tmps.getD (b+6) undef=e.val:=by
    subst hB
    rw[r5H (by rw[r5t,r5t,sA];omega),if_pos rfl]
   refine u0D (v:=e.key) (w':=W) rfl ?_ ?_
   ·simp only[execOp];rw[ev,g5];rfl
   refine u0D (v:=e.val) (w':=W) rfl ?_ ?_
   ·simp only[execOp];rw[ev,r5H (by rw[sB];omega),if_neg (by omega),g6];rfl
   show Exit.then _ _ .normal _ _
   generalize hC:(B.put (some tk) e.key).put (some tv) e.val=C
   have sC:C.tmps.size=N:=by subst hC;rw[r5t,r5t,sB]
   have dC:C.defers=[]:=by subst hC;rw[put_defers,put_defers,dB]
   have gC:∀t,t<b∨t=b+1→t≠tk→t≠tv→C.tmps.getD t undef=a.tmps.getD t undef:=fun t ht h1 h2=>by
    rw[←gB t ht]
    subst hC
    rw[r5H (by rw[r5t,sB];omega),if_neg h2,r5H (by rw[sB];omega),if_neg h1]
   have gk:C.tmps.getD tk undef=e.key:=by
    subst hC
    rw[r5H (by rw[r5t,sB];omega),if_neg n3,r5H (by rw[sB];omega),if_pos rfl]
   have gv:C.tmps.getD tv undef=e.val:=by
    subst hC
    rw[r5H (by rw[r5t,sB];omega),if_pos rfl]
   refine wp_region ?_
   show wpOps P _ _ [0,1,2,3] C W
   refine u0D (v:=.map (some bi)) (w':=W) rfl ?_ ?_
   ·simp only[execOp];rw[ev,gC tI (.inl hI) n1 n2,hi.inner];rfl
   refine u0D (v:=e.key) (w':=W) rfl ?_ ?_
   ·simp only[execOp];rw[ev,r5H (by rw[sC];omega),if_neg (by omega),gk];rfl
   refine u0D (v:=e.val) (w':=W) rfl ?_ ?_
   ·simp only[execOp];rw[ev,r5H (by rw[r5t,sC];omega),if_neg (by omega),r5H (by rw[sC];omega),if_neg (by omega),gv];rfl
   generalize hD:((C.put (some (b+7)) (.map (some bi))).put (some (b+8)) e.key).put (some (b+9)) e.val=E
   have sE:E.tmps.size=N:=by subst hD;rw[r5t,r5t,r5t,sC]
   have dE:E.defers=[]:=by subst hD;rw[put_defers,put_defers,put_defers,dC]
   have gE:∀t,t<b+7→E.tmps.getD t undef=C.tmps.getD t undef:=fun t ht=>by
    subst hD
    rw[r5H (by rw[r5t,r5t,sC];omega),if_neg (by omega),r5H (by rw[r5t,sC];omega),if_neg (by omega),r5H (by rw[sC];omega),if_neg (by omega)]
   have g7:E.tmps.getD (b+7) undef= .map (some bi):=by
    subst hD
    rw[r5H (by rw[r5t,r5t,sC];omega),if_neg (by omega),r5H (by rw[r5t,sC];omega),if_neg (by omega),r5H (by rw[sC];omega),if_pos rfl]
   have g8:E.tmps.getD (b+8) undef=e.key:=by
    subst hD
    rw[r5H (by rw[r5t,r5t,sC];omega),if_neg (by omega),r5H (by rw[r5t,sC];omega),if_pos rfl]
   have g9:E.tmps.getD (b+9) undef=e.val:=by
    subst hD
    rw[r5H (by rw[r5t,r5t,sC];omega),if_pos rfl]
   refine x2H (w':=w2) rfl ?_ ?_
   ·simp only[execOp]
    rw[ev,ev,ev,g7,g8,g9]
    simp[hup,Result.andThen]
   have hn:=hnew E sE dE (by rw[gE tI (by omega),gC tI (.inl hI) n1 n2,hi.inner]) (by rw[gE (b+1) (by omega),gC (b+1) (.inr rfl) (by omega) (by omega),hi.iter]) (fun t ht h1 h2=>by rw[gE t (by omega),gC t (.inl ht) h1 h2,hi.rest t ht h1 h2])
   have fin:(match w2.heap[w.heap.size]? with|some (.mapIter _ _ seen _)=>ents.size-seen.size| _=>0)<(match w'.heap[w.heap.size]? with|some (.mapIter _ _ seen _)=>ents.size-seen.size| _=>0):=by
    rw[hmu,hn.it]
    simp only[List.size_toArray,List.length_append,List.length_singleton]
    have:vis.length<ents.size:=by
     have h1:=w3c ents.size (vis++[i]) hn.nd hn.lt
     simp at h1;omega
    omega
   exact And.intro ⟨_,hn⟩ fin
theorem w4x{b tI tE tk tv tyM kt et id2 id3 i1 i2 i3 i4:Nat}{y:Nat→Nat}{p:Nat→String}{g:Nat→Array Edge}
 (hu:P.underlying tyM=some (.map kt et)) (hN:b+10≤N) (fE:fr.get tE= .u4v)
 (hF:∀t,F.get t= .any∨(F.get t=fr.get t∧t<b)) (hQ:Q .normal F st):
 AWp P gl N n0 keep (u9M b tI tE tk tv tyM id2 id3 i1 i2 i3 i4 y p g) Q fr st:=by
 intro w0 μ0 st0 hl0 a0 w ⟨μ,hc⟩
 have hs:=hc.sim
 have hsz:=hc.size
 have vE:a0.tmps.getD tE undef= .map none:=by
  have:=hc.fr tE
  rw[fE]at this
  generalize a0.tmps.getD tE undef=u at this
  cases this with
  |tr h=>cases h;rfl
 have ev:∀(a:Act) (t:Nat),a.eval (.tmp t)=a.tmps.getD t undef:=fun _ _=>rfl
 unfold u9M
 refine wp_seq (wp_region ?_)
 show wpOps P _ _ [0,1] a0 w
 refine u0D (v:=.map none) rfl (by simp only[execOp];rw[ev,vE];rfl) ?_
 refine u0D (v:=.pointer (some ⟨w.heap.size,0,none⟩)) (w':=w.alloc (.mapIter none 0 #[] 0)) rfl ?_ ?_
 ·simp only[execOp]
  rw[ev,r5H (by rw[hsz];omega),if_pos rfl]
  have:=run_range_nilMap (P:=P) w tyM kt et hu
  simp[this,Result.andThen]
 show Exit.then _ _ .normal _ _
 refine wp_block (wp_loop_once ?_)
 refine wp_seq (wp_region ?_)
 generalize hA:(a0.put (some b) (.map none)).put (some (b+1)) (.pointer (some ⟨w.heap.size,0,none⟩))=A
 have sA:A.tmps.size=N:=by subst hA;rw[r5t,r5t,hsz]
 have dA:A.defers=[]:=by subst hA;rw[put_defers,put_defers,hc.defers]
 have gA:∀t,t<b→A.tmps.getD t undef=a0.tmps.getD t undef:=fun t ht=>by
  subst hA
  rw[r5H (by rw[r5t,hsz];omega),if_neg (by omega),r5H (by rw[hsz];omega),if_neg (by omega)]
 have g1:A.tmps.getD (b+1) undef= .pointer (some ⟨w.heap.size,0,none⟩):=by
  subst hA
  rw[r5H (by rw[r5t,hsz];omega),if_pos rfl]
 show wpOps P _ _ [0,1] A _
 refine u0D (v:=.tuple #[.bool false]) (w':=w.alloc (.mapIter none 0 #[] 0)) rfl ?_ ?_
 ·simp only[execOp]
  rw[ev,g1]
  have:=run_next_nilMap (P:=P) w (y 2) 0 0 #[]
  simp[this,Result.andThen]
 refine u0D (v:=.bool false) (w':=w.alloc (.mapIter none 0 #[] 0)) rfl ?_ ?_
 ·simp only[execOp]
  rw[ev,r5H (by rw[sA];omega),if_pos rfl]
  simp[Instr.extract,Result.andThen]
 show Exit.then _ _ .normal _ _
 refine wp_seq (wp_cond_split (t:=false) ?_ (fun h=>by cases h) fun _=>wp_exit ?_)
 ·rw[ev,r5H (by rw[r5t,sA];omega),if_pos rfl]
 show Exit.inBlock id2 _ (.exit id2) _ _
 simp only[Exit.inBlock,if_true]
 obtain⟨k1,k2⟩:=w2E (w':=w.alloc (.mapIter none 0 #[] 0)) hs (by simp) rfl rfl ⟨rfl,Nat.le_refl _⟩ (fun j hj=>u3K hj)
 refine⟨F,st,hQ,μ,k1,hc.glob.step k2,fun t=>?_,?_,?_,hc.step.trans k2⟩
 ·rcases hF t with e|⟨e,e2⟩
  ·rw[e];exact .any _
  ·rw[e,r5H (by rw[r5t,sA];omega),if_neg (by omega),r5H (by rw[sA];omega),if_neg (by omega),gA t e2]
   exact(hc.fr t).step k2
 ·rw[r5t,r5t,sA]
 ·rw[put_defers,put_defers,dA]
theorem frk{b tk tv:Nat}:∀ {F fr:Fr},Fr.leq F fr→F.all (fun p=>decide (p.1<b)&&(!decide (p.1=tk)&& !decide (p.1=tv)))=true→∀t,F.get t= .any∨(F.get t=fr.get t∧t<b∧t≠tk∧t≠tv)
 | [],_,_,_,t=>.inl rfl
 |(k,d)::F,fr,hl,hk,t=>by
  rw[List.all_cons,Bool.and_eq_true]at hk
  simp only[Fr.get]
  split
  ·rename_i e
   subst e
   have h:=hk.1
   simp only[Bool.and_eq_true,decide_eq_true_eq,Bool.not_eq_true',decide_eq_false_iff_not]at h
   exact .inr ⟨hl.1.symm,h.1,h.2.1,h.2.2⟩
  ·exact frk hl.2 hk.2 t
section
variable {b tI tE tk tv tyM kt et id2 id3 i1 i2 i3 i4 oi oe y0 y1 y2 y3 y4 y5 y6 y7 y8 y9 y10 y11 y12:Nat} {p0 p1 p2 p3 p4 p5 p6 p7 p8 p9 p10 p11 p12:String} {g0 g1 g2 g3 g4 g5 g6 g7 g8 g9 g10 g11 g12:Array Edge} {ag:Bool} {es e0:List (Bs×List D)}
theorem w4y(hu:P.underlying tyM=some (.map kt et))(hkt:P.underlying kt=some .string)(hN:b+10≤N∧tI<b∧tE<b∧tk<b∧tv<b∧tI≠tk∧tI≠tv∧tk≠tv∧id2≠id3)
 (fI:fr.get tI= .mp oi) (fE:fr.get tE= .mp oe) (lI:look st oi=some (.mps ag e0)) (h0:e0=[]) (lE:look st oe=some (.mps ag es)) (hne:oi≠oe)
 (hl:Fr.leq F fr) (hk:F.all (fun p=>decide (p.1<b)&&(!decide (p.1=tk)&& !decide (p.1=tv)))=true) (hQ:Q .normal F (st.set oi (some (.mps ag es)))):
 AWp P gl N n0 keep (.seq (.region i1 #[⟨some b,.move (.tmp tE),y0,p0,g0,none⟩,⟨some (b+1),.range tyM (.tmp b),y1,p1,g1,none⟩] false)
 (.block id2 (.loop (.seq (.region i2 #[⟨some (b+2),.next (.tmp (b+1)) false,y2,p2,g2,none⟩,⟨some (b+3),.extract (.tmp (b+2)) 0,y3,p3,g3,none⟩] false)
  (.seq (.cond (.tmp (b+3)) .skip (.exit id2))
   (.block id3 (.seq (.region i3 #[⟨some (b+4),.entry (.tmp (b+1)),y4,p4,g4,none⟩,⟨some (b+5),.extract (.tmp (b+4)) 0,y5,p5,g5,none⟩,⟨some (b+6),.extract (.tmp (b+4)) 1,y6,p6,g6,none⟩,⟨some tk,.assign (.tmp (b+5)),y7,p7,g7,none⟩,⟨some tv,.assign (.tmp (b+6)),y8,p8,g8,none⟩] false)
    (.region i4 #[⟨some (b+7),.move (.tmp tI),y9,p9,g9,none⟩,⟨some (b+8),.move (.tmp tk),y10,p10,g10,none⟩,⟨some (b+9),.move (.tmp tv),y11,p11,g11,none⟩,⟨none,.mapUpdate tyM (.tmp (b+7)) (.tmp (b+8)) (.tmp (b+9)),y12,p12,g12,none⟩] false)))))))) Q fr st:=by
 subst h0
 obtain⟨a1,a2,a3,a4,a5,a6,a7,a8,a9⟩:=hN
 exact w5X (y:=(fun i=>[y0,y1,y2,y3,y4,y5,y6,y7,y8,y9,y10,y11,y12].getD i 0)) (p:=(fun i=>[p0,p1,p2,p3,p4,p5,p6,p7,p8,p9,p10,p11,p12].getD i "")) (g:=(fun i=>[g0,g1,g2,g3,g4,g5,g6,g7,g8,g9,g10,g11,g12].getD i #[])) hu hkt a1 a2 a3 a4 a5 a6 a7 a8 a9 fI fE lI lE hne (frk hl hk) hQ
theorem w2j(hu:P.underlying tyM=some (.map kt et))(hN:b+10≤N)(fE:fr.get tE= .u4v)
 (hl:Fr.leq F fr) (hk:F.all (fun p=>decide (p.1<b)&&(!decide (p.1=tk)&& !decide (p.1=tv)))=true) (hQ:Q .normal F st):
 AWp P gl N n0 keep (.seq (.region i1 #[⟨some b,.move (.tmp tE),y0,p0,g0,none⟩,⟨some (b+1),.range tyM (.tmp b),y1,p1,g1,none⟩] false)
 (.block id2 (.loop (.seq (.region i2 #[⟨some (b+2),.next (.tmp (b+1)) false,y2,p2,g2,none⟩,⟨some (b+3),.extract (.tmp (b+2)) 0,y3,p3,g3,none⟩] false)
  (.seq (.cond (.tmp (b+3)) .skip (.exit id2))
   (.block id3 (.seq (.region i3 #[⟨some (b+4),.entry (.tmp (b+1)),y4,p4,g4,none⟩,⟨some (b+5),.extract (.tmp (b+4)) 0,y5,p5,g5,none⟩,⟨some (b+6),.extract (.tmp (b+4)) 1,y6,p6,g6,none⟩,⟨some tk,.assign (.tmp (b+5)),y7,p7,g7,none⟩,⟨some tv,.assign (.tmp (b+6)),y8,p8,g8,none⟩] false)
    (.region i4 #[⟨some (b+7),.move (.tmp tI),y9,p9,g9,none⟩,⟨some (b+8),.move (.tmp tk),y10,p10,g10,none⟩,⟨some (b+9),.move (.tmp tv),y11,p11,g11,none⟩,⟨none,.mapUpdate tyM (.tmp (b+7)) (.tmp (b+8)) (.tmp (b+9)),y12,p12,g12,none⟩] false)))))))) Q fr st:=
 w4x (tv:=tv) (tk:=tk) (tI:=tI) (y:=(fun i=>[y0,y1,y2,y3,y4,y5,y6,y7,y8,y9,y10,y11,y12].getD i 0)) (p:=(fun i=>[p0,p1,p2,p3,p4,p5,p6,p7,p8,p9,p10,p11,p12].getD i "")) (g:=(fun i=>[g0,g1,g2,g3,g4,g5,g6,g7,g8,g9,g10,g11,g12].getD i #[])) hu hN fE (fun t=>(frk hl hk t).imp id fun h=>⟨h.1,h.2.1⟩) hQ
end
theorem fnw{α:Type}{e r:α}{s l:St}{d:D}(l':St)(d':D){R:D→St→Prop}(hd:Up (s++l) (s++l') d d')(h:some e=some r)(hsc:u4w s.length s)(hu:UpL (s++l) (s++l') l l':=by(repeat (first|exact .nil _|refine .live _ _ _ _ (.same _) ?_|refine .dead _ _ _ ?_)))
 (hl:ScL (s++l').length l':=by simp[ScL,Ob.sc]) (hs:D.sc (s++l').length d':=by simp) (hr:e=r→R d' (s++l'):=by rintro rfl;exact⟨rfl,rfl⟩):fin s.length R d (s++l):=
 ⟨s++l',d',by simp,w2S hsc hu hl,hd,hs,hr (Option.some.inj h)⟩
end
end Go.Am
namespace Go.Am
open Go
section
variable {P:Program} {gl:Gl} {N n0:Nat} {keep:List Nat} {Q:AQ} {fr:Fr} {st:St} {c:Code} {id n:Nat}
theorem w8w{ρ σ:Type}{body:Nat→σ→Option (Ctl ρ σ σ)}{s0:σ}{kk:σ→Option ρ}{e:ρ}(I:Nat→σ→Fr→St→Prop)(J:σ→Fr→St→Prop)
 (hn:∀k s b,body k s=some b→∃s',b= .nxt s') (h:r5r (r5J body n s0) kk=some e) (h0:∃F T,BkS n0 F T fr st∧I 0 s0 F T)
 (hs:∀k s s' fr st,k<n→body k s=some (.nxt s')→I k s fr st→AWp P gl N n0 keep c (fun ex fr st=>ex= .normal∧∃F T,BkS n0 F T fr st∧I (k+1) s' F T) fr st)
 (he:∀s fr st,I n s fr st→AWp P gl N n0 keep c (fun ex fr st=>ex= .exit id∧∃F T,BkS n0 F T fr st∧J s F T) fr st)
 (hk:∀s F T fr st,kk s=some e→J s F T→BkS n0 F T fr st→Q .normal fr st):AWp P gl N n0 keep (.block id (.loop c)) Q fr st:=by
 refine x1Y ?_
 unfold r5J at h
 have key:∀m k s fr st,k+m=n→r5r (r9w body m k s) kk=some e→I k s fr st→AWp P gl N n0 keep (.loop c) (AQ.block id Q) fr st:=by
  intro m
  induction m with
  |zero=>
   intro k s fr st hk' h1 hi
   have:k=n:=by omega
   subst this
   refine u5x (u5y (he s fr st hi) fun ex fr st hq=>?_)
   obtain⟨rfl,F,T,hb,hj⟩:=hq
   show AQ.block id Q (.exit id) fr st
   simp only[AQ.block,if_true]
   exact hk s F T fr st h1 hj hb
  |succ m ih=>
   intro k s fr st hk' h1 hi
   simp only[r9w]at h1
   cases hb:body k s with
   |none=>rw[hb]at h1;cases h1
   |some b=>
    rw[hb]at h1
    obtain⟨s',rfl⟩:=hn k s b hb
    refine u5x (u5y (hs k s s' fr st (by omega) hb hi) fun ex fr st hq=>?_)
    obtain⟨rfl,F,T,hb,hi'⟩:=hq
    exact r6O hb (ih (k+1) s' F T (by omega) h1 hi')
 obtain⟨F,T,hb,hi⟩:=h0
 exact r6O hb (key n 0 s0 F T (by omega) h hi)
theorem x0m(a b:Nat):∀(k:Nat) {st:St},AWp P gl N n0 keep c Q fr (st++List.replicate k (some (.arr 0 a b [])))→AWp P gl N n0 keep c Q fr st
 |0,st,h=>by simpa using h
 |k+1,st,h=>r9q a b (x0m a b k (by rw[List.append_assoc,List.singleton_append, ←List.replicate_succ];exact h))
end
def w1M:List Bs→Bs→Nat
 | [],_=>0
 |a::l,x=>if x=a then 0 else w1M l x+1
theorem u8y:∀ {l:List Bs} {x:Bs},x∈l→w1M l x<l.length∧get l (w1M l x)=x
 |a::l,x,h=>by
  unfold w1M
  by_cases e:x=a
  ·rw[if_pos e]
   exact⟨by simp,e.symm⟩
  ·rw[if_neg e]
   obtain⟨h1,h2⟩:=u8y ((List.mem_cons.1 h).resolve_left e)
   exact⟨by simpa using h1,h2⟩
theorem w3d:∀ {l:List Bs} {k:Nat},l.Nodup→k<l.length→w1M l (get l k)=k
 |a::l,0,_,_=>by unfold w1M;rw[show get (a::l) 0=a from rfl,if_pos rfl]
 |a::l,k+1,h,hk=>by
  have h':=List.nodup_cons.1 h
  have hk':k<l.length:=by simpa using hk
  have e1:get (a::l) (k+1)=get l k:=rfl
  have hm:get l k∈l:=by
   unfold get
   rw[List.getD_eq_getElem?_getD,List.getElem?_eq_getElem hk']
   exact List.getElem_mem hk'
  unfold w1M
  rw[e1,if_neg (fun e:get l k=a=>h'.1 (e▸hm)),w3d h'.2 hk']
def ent(m:List (Bs×List Bs))(x:Bs):List Bs:=(assoc x m).getD []
theorem u7R{V:Type}(x y:Bs)(v:V):∀m:List (Bs×V),assoc y (r5j x v m)=if y=x then some v else assoc y m
 | []=>by simp only[r5j,assoc]
 |(a,u)::m=>by
  simp only[r5j]
  by_cases e:x=a
  ·rw[if_pos e]
   simp only[assoc]
   by_cases e2:y=x
   ·rw[if_pos e2,if_pos e2]
   ·rw[if_neg e2,if_neg e2,if_neg fun h=>e2 (h.trans e.symm)]
  ·rw[if_neg e]
   simp only[assoc]
   rw[u7R x y v m]
   by_cases e2:y=a
   ·rw[if_pos e2,if_pos e2,if_neg fun h=>e (h.symm.trans e2)]
   ·rw[if_neg e2,if_neg e2]
theorem x0n(x y:Bs)(l:List Bs)(m:List (Bs×List Bs)):ent (r5j x l m) y=if y=x then l else ent m y:=by
 unfold ent
 rw[u7R]
 split<;>rfl
theorem x0o{V:Type}{x:Bs}{v:V}:∀ {m:List (Bs×V)} {p:Bs×V},p∈r5j x v m→p=(x,v)∨p∈m
 | [],p,h=>.inl (by simpa[r5j]using h)
 |(a,u)::m,p,h=>by
  simp only[r5j]at h
  split at h
  ·rcases List.mem_cons.1 h with h|h
   ·exact .inl h
   ·exact .inr (List.mem_cons_of_mem _ h)
  ·rcases List.mem_cons.1 h with h|h
   ·exact .inr (h▸List.mem_cons_self ..)
   ·exact(x0o h).imp id (List.mem_cons_of_mem _)
theorem w6V{V:Type}{x:Bs}:∀ {m:List (Bs×V)},assoc x m=none→∀p∈m,p.1≠x
 |(a,u)::m,h,p,hp=>by
  simp only[assoc]at h
  split at h
  ·cases h
  ·rename_i hne
   rcases List.mem_cons.1 hp with rfl|hp
   ·exact fun e=>hne e.symm
   ·exact w6V h p hp
theorem w6W{V:Type}(x:Bs)(v:V):∀m:List (Bs×V),(r5j x v m).map (·.1)=if x∈m.map (·.1)then m.map (·.1)else m.map (·.1)++[x]
 | []=>by simp[r5j]
 |(a,u)::m=>by
  simp only[r5j]
  by_cases e:x=a
  ·rw[if_pos e];simp[e]
  ·rw[if_neg e,List.map_cons,w6W x v m]
   by_cases h:x∈m.map (·.1)
   ·rw[if_pos h,if_pos (by simp only[List.map_cons];exact List.mem_cons_of_mem _ h)];rfl
   ·rw[if_neg h,if_neg (by simp only[List.map_cons,List.mem_cons,not_or];exact⟨e,h⟩)];rfl
theorem x7G{V:Type}{x:Bs}{v:V}{m:List (Bs×V)}(h:(m.map (·.1)).Nodup):((r5j x v m).map (·.1)).Nodup:=by
 rw[w6W]
 split
 ·exact h
 ·rename_i hx
  rw[List.nodup_append]
  refine⟨h,by simp,fun a ha b hb e=>?_⟩
  rw[List.mem_singleton]at hb
  subst hb;subst e
  exact hx ha
theorem w6X{V:Type}:∀ {m:List (Bs×V)},(m.map (·.1)).Nodup→∀p∈m,assoc p.1 m=some p.2
 |(a,u)::m,h,p,hp=>by
  rw[List.map_cons,List.nodup_cons]at h
  simp only[assoc]
  rcases List.mem_cons.1 hp with rfl|hp
  ·rw[if_pos rfl]
  ·rw[if_neg (fun e:p.1=a=>h.1 (List.mem_map.2 ⟨p,hp,e⟩))]
   exact w6X h.2 p hp
def mref(B:Nat)(nm:List Bs)(g:Nat→Nat)(m:List (Bs×List Bs)):List (Bs×List D):=m.map fun p=>(p.1,[D.ref false (B+w1M nm p.1) (g (w1M nm p.1)) 0 p.2.length])
theorem u8z(B:Nat)(nm:List Bs)(g:Nat→Nat)(x:Bs):∀m,assoc x (mref B nm g m)=(assoc x m).map fun l=>[D.ref false (B+w1M nm x) (g (w1M nm x)) 0 l.length]
 | []=>rfl
 |(a,u)::m=>by
  simp only[mref,List.map_cons,assoc]at*
  by_cases e:x=a
  ·rw[if_pos e,if_pos e,e];rfl
  ·rw[if_neg e,if_neg e];exact u8z B nm g x m
theorem w6Y(B:Nat)(nm:List Bs)(g g':Nat→Nat)(x:Bs)(l:List Bs):∀m,(∀p∈m,g' (w1M nm p.1)=g (w1M nm p.1))→r5j x [D.ref false (B+w1M nm x) (g' (w1M nm x)) 0 l.length] (mref B nm g m)=mref B nm g' (r5j x l m)
 | [],_=>rfl
 |(a,u)::m,hg=>by
  have hr:∀q:List (Bs×List Bs),(∀p∈q,g' (w1M nm p.1)=g (w1M nm p.1))→mref B nm g q=mref B nm g' q:=fun q hq=>List.map_congr_left fun p hp=>by rw[hq p hp]
  have ih:=w6Y B nm g g' x l m fun p hp=>hg p (List.mem_cons_of_mem _ hp)
  have h0:=hg (a,u) (List.mem_cons_self ..)
  have hm:=hr m fun p hp=>hg p (List.mem_cons_of_mem _ hp)
  simp only[mref,List.map_cons,r5j]at*
  by_cases e:x=a
  ·rw[if_pos e,if_pos e,List.map_cons,hm]
  ·rw[if_neg e,if_neg e,List.map_cons,ih,h0]
structure Fam(S:St)(oM B:Nat)(nm:List Bs)(g:Nat→Nat)(z:Nat→List Bs)(m:List (Bs×List Bs)):Prop where
 mem:∀p∈m,p.1∈nm
 mp:look S oM=some (.mps false (mref B nm g m))
 ob:∀k,k<nm.length→look S (B+k)=some (.arr (g k) 1 16 (rows r4X (ent m (get nm k)++z k)))
 z0:∀k,k<nm.length→assoc (get nm k) m=none→z k=[]
 nd:(m.map (·.1)).Nodup
structure Chg(st S:St)(oM B n:Nat):Prop where
 len:S.length=st.length
 same:∀o,o≠oM→¬(B≤o∧o<B+n)→S[o]? =st[o]?
theorem Chg.refl(st:St)(oM B n:Nat):Chg st st oM B n:=⟨rfl,fun _ _ _=>rfl⟩
theorem Chg.trans{st S T:St}{oM B n:Nat}(h:Chg st S oM B n)(k:Chg S T oM B n):Chg st T oM B n:=⟨k.len.trans h.len,fun o h1 h2=>(k.same o h1 h2).trans (h.same o h1 h2)⟩
theorem Chg.look{st S:St}{oM B n o:Nat}(h:Chg st S oM B n)(h1:o≠oM)(h2:o<B):Am.look S o=Am.look st o:=by
 unfold Am.look
 rw[h.same o h1 (by omega)]
theorem Fam.sc{st S:St}{oM B:Nat}{nm:List Bs}{g:Nat→Nat}{z:Nat→List Bs}{m:List (Bs×List Bs)}(hF:Fam S oM B nm g z m)(hC:Chg st S oM B nm.length)(hsc:u4w st.length st):u4w S.length S:=fun o ob e=>by
 by_cases e1:o=oM
 ·subst e1
  have:=r5w hF.mp
  rw[e]at this
  cases this
  intro q hq
  obtain⟨p,hp,rfl⟩:=List.mem_map.1 hq
  have:=r5h (hF.ob _ (u8y (hF.mem p hp)).1)
  exact⟨this,trivial⟩
 ·by_cases e2:B≤o∧o<B+nm.length
  ·have:=r5w (hF.ob (o-B) (by omega))
   rw[show B+(o-B)=o by omega,e]at this
   cases this
   intro q hq
   exact Imm.sc (u4I _) _ q hq
  ·rw[hC.same o e1 e2]at e
   rw[hC.len]
   exact hsc o ob e
theorem Fam.put{S T:St}{oM B k:Nat}{nm:List Bs}{g:Nat→Nat}{z:Nat→List Bs}{m:List (Bs×List Bs)}{gk:Nat}{x:Bs}{l zk:List Bs}(hF:Fam S oM B nm g z m)(hnd:nm.Nodup)(hk:k<nm.length)(hx:get nm k=x)
 (hg:(assoc x m).isSome=true→gk=g k) (hM:look T oM=some (.mps false (r5j x [D.ref false (B+k) gk 0 l.length] (mref B nm g m)))) (ho:look T (B+k)=some (.arr gk 1 16 (rows r4X (l++zk)))) (hT:∀j,j<nm.length→j≠k→look T (B+j)=look S (B+j)):
 Fam T oM B nm (fun j=>if j=k then gk else g j) (fun j=>if j=k then zk else z j) (r5j x l m):=by
 have hix:w1M nm x=k:=by rw[←hx];exact w3d hnd hk
 have hxm:x∈nm:=by
  rw[←hx]
  unfold get
  rw[List.getD_eq_getElem?_getD,List.getElem?_eq_getElem hk]
  exact List.getElem_mem hk
 have hne:∀j,j<nm.length→j≠k→get nm j≠x:=fun j hj hjk e=>hjk (by rw[←w3d hnd hj,e,hix])
 refine⟨fun p hp=>?_,?_,fun j hj=>?_,fun j hj h0=>?_,?_⟩
 ·rcases x0o hp with rfl|hp
  ·exact hxm
  ·exact hF.mem p hp
 ·rw[hM, ←w6Y B nm g (fun j=>if j=k then gk else g j) x l m fun p hp=>?_,hix,if_pos rfl]
  by_cases e:w1M nm p.1=k
  ·rw[if_pos e,e]
   have ep:p.1=x:=by rw[←(u8y (hF.mem p hp)).2,e,hx]
   refine hg ?_
   cases hs:assoc x m with
   |some v=>rfl
   |none=>exact absurd ep (w6V hs p hp)
  ·rw[if_neg e]
 ·by_cases e:j=k
  ·subst e
   rw[if_pos rfl,if_pos rfl,ho,hx,x0n,if_pos rfl]
  ·rw[if_neg e,if_neg e,hT j hj e,hF.ob j hj,x0n,if_neg (hne j hj e)]
 ·by_cases e:j=k
  ·subst e
   rw[hx,u7R,if_pos rfl]at h0
   cases h0
  ·rw[if_neg e]
   rw[u7R,if_neg (hne j hj e)]at h0
   exact hF.z0 j hj h0
 ·exact x7G hF.nd
theorem x4M{A l S:St}{oM B n:Nat}(h:Chg (A++l) S oM B n)(ho:oM<A.length)(hB:B+n≤A.length):∃A',S=A'++l∧Chg A A' oM B n:=by
 have hlen:S.length=A.length+l.length:=by rw[h.len,List.length_append]
 refine⟨S.take A.length,?_,?_,fun o h1 h2=>?_⟩
 ·apply List.ext_getElem?
  intro i
  by_cases hi:i<A.length
  ·rw[List.getElem?_append_left (by rw[List.length_take];omega),List.getElem?_take_of_lt hi]
  ·rw[List.getElem?_append_right (by rw[List.length_take];omega),h.same i (by omega) (by omega),List.getElem?_append_right (by omega),List.length_take,Nat.min_eq_left (by omega)]
 ·rw[List.length_take];omega
 ·by_cases hi:o<A.length
  ·rw[List.getElem?_take_of_lt hi,h.same o h1 h2,List.getElem?_append_left hi]
  ·rw[List.getElem?_eq_none (by rw[List.length_take];omega),List.getElem?_eq_none (by omega)]
theorem u4d{A l:St}{o:Nat}(h:o<A.length):look (A++l) o=look A o:=by
 unfold look
 rw[List.getElem?_append_left h]
theorem Fam.left{A l:St}{oM B:Nat}{nm:List Bs}{g:Nat→Nat}{z:Nat→List Bs}{m:List (Bs×List Bs)}(h:Fam (A++l) oM B nm g z m)(ho:oM<A.length)(hB:B+nm.length≤A.length):Fam A oM B nm g z m:=
 ⟨h.mem,by rw[←u4d (l:=l) ho];exact h.mp,fun k hk=>by rw[←u4d (l:=l) (show B+k<A.length by omega)];exact h.ob k hk,h.z0,h.nd⟩
theorem Fam.app{A l:St}{oM B:Nat}{nm:List Bs}{g:Nat→Nat}{z:Nat→List Bs}{m:List (Bs×List Bs)}(h:Fam A oM B nm g z m):Fam (A++l) oM B nm g z m:=
 ⟨h.mem,by rw[u4d (r5h h.mp)];exact h.mp,fun k hk=>by rw[u4d (r5h (h.ob k hk))];exact h.ob k hk,h.z0,h.nd⟩
theorem Chg.app{A A' l:St}{oM B n:Nat}(h:Chg A A' oM B n):Chg (A++l) (A'++l) oM B n:=⟨by simp[h.len],fun o h1 h2=>by
 by_cases hi:o<A.length
 ·rw[List.getElem?_append_left hi,List.getElem?_append_left (by rw[h.len];exact hi),h.same o h1 h2]
 ·rw[List.getElem?_append_right (by rw[h.len];omega),List.getElem?_append_right (by omega),h.len]⟩
theorem Fam.ups{S T:St}{oM B:Nat}{nm:List Bs}{g:Nat→Nat}{z:Nat→List Bs}{m:List (Bs×List Bs)}(h:Fam S oM B nm g z m)(hT:∀k,k<nm.length→look T (B+k)=none):w8M S T (.mps false (mref B nm g m)) (.mps false (mrw (slc 1 16 r4X) m)):=by
 have key:∀q:List (Bs×List Bs),(∀p∈q,p.1∈nm∧assoc p.1 m=some p.2)→w9O S T (mref B nm g q) (mrw (slc 1 16 r4X) q):=fun q=>by
  induction q with
  |nil=>intro _;exact .nil
  |cons p q ih=>
   intro hq
   obtain⟨h1,h2⟩:=hq p (List.mem_cons_self ..)
   have hk:=(u8y h1).1
   have ho:=h.ob _ hk
   rw[(u8y h1).2]at ho
   unfold ent at ho
   rw[h2]at ho
   refine .cons _ _ _ _ _ ?_ (ih fun r hr=>hq r (List.mem_cons_of_mem _ hr))
   refine .ref _ _ _ _ _ 1 16 (rows r4X (p.2++z (w1M nm p.1))) _ (r5w ho) (hT _ hk) (by decide) (u4I _) ?_
   rw[List.drop_zero,w9R,List.take_left' rfl]
 exact .mps _ _ (key m fun p hp=>⟨h.mem p hp,w6X h.nd p hp⟩)
theorem nd6{a b c d e f:Nat}(h: [a,b,c,d,e,f].Nodup):(((a=b)=False)∧((b=a)=False))∧(((a=c)=False)∧((c=a)=False))∧(((a=d)=False)∧((d=a)=False))∧(((a=e)=False)∧((e=a)=False))∧(((a=f)=False)∧((f=a)=False))∧(((b=c)=False)∧((c=b)=False))∧(((b=d)=False)∧((d=b)=False))∧(((b=e)=False)∧((e=b)=False))∧(((b=f)=False)∧((f=b)=False))∧(((c=d)=False)∧((d=c)=False))∧(((c=e)=False)∧((e=c)=False))∧(((c=f)=False)∧((f=c)=False))∧(((d=e)=False)∧((e=d)=False))∧(((d=f)=False)∧((f=d)=False))∧((e=f)=False)∧((f=e)=False):=by
 simp at h
 exact⟨nd2 (by simp[h]),nd2 (by simp[h]),nd2 (by simp[h]),nd2 (by simp[h]),nd2 (by simp[h]),nd2 (by simp[h]),nd2 (by simp[h]),nd2 (by simp[h]),nd2 (by simp[h]),nd2 (by simp[h]),nd2 (by simp[h]),nd2 (by simp[h]),nd2 (by simp[h]),nd2 (by simp[h]),nd2 (by simp[h])⟩
end Go.Am
