/-
  transferMatchesSpec answers true at every input of bulk at most 1048576 that reads as data, and leaves its arguments as they were; the listed tables are tied to the program's text.
-/
import Derived.Test.YtchbmngmmdeenaaGreatDoorRows
import Derived.ChangeArms
import Derived.ChangeOld
import Derived.DataReads
import Derived.KernelRfl
import Derived.Lib.LaidTab
import Derived.OpenShut
import Derived.Test.YtchbmngmmdeenaaGreatDoorCards
import Derived.Test.YtchbmngmmdeenaaGreatDoorTie
import Derived.WalkKit
import Derived.ProofKit
import Derived.ReadAgain
import Derived.ChangeBears
import Derived.Deep.DeepHandedRow
import Derived.Test.YtchbmngmmdeenaaGreatDoorTMLaw2
import Derived.Test.YtchbmngmmdeenaaGreatDoorTMWalk4
open Go.DataW renaming trod->se,trod_struct->AI,Whole->HP,TrodAll->pu
open Go.Value renaming int->l6,okWide->GM,cells->ye
open Go.World renaming cells?_some->po,cell?->l7,holding->FF
open List renaming getD_eq_getElem?_getD->ac,mem_cons->ce,mem_map_of_mem->sf,getElem?_eq_getElem->b7,getElem_mem->bt,ofFn->ui,drop_zero->lj,mem_cons_self->az
open Nat renaming not_lt_zero->co,le_refl->ae,lt_or_ge->il,le_succ->mi,le_trans->js
open Option.some renaming inj->dj
namespace Go.Proofs.YtchbmngmmdeenaaGreatDoor
open Go Go.Am
variable {xv α:Type} {cs:List Value} {m o z:Nat} {w:World}
theorem d3k{a:Addr}(hs:a.spot=none)(x y:Nat):(a.add x).add y=⟨a.block,a.off+(x+y),none⟩:=by
 have⟨b,o,s⟩:=a;simp only at hs;subst hs;unfold Addr.add;by_cases A:x=0
 ·subst A;by_cases hy:y=0
  ·subst hy;simp
  ·simp[hy]
 ·by_cases hy:y=0
  ·subst hy;simp[A]
  ·simp[A,hy,Nat.add_assoc]
def EW:Nat->Prop:=own (fun _=>none) ([]:St)
theorem Sc{b:Nat}:¬EW b:=fun⟨_,_,_,h,_⟩=>by simp at h
def Rd(w:World)(cs:List Value)(ds:List D):Prop:=cs.length=ds.length/\∀j (h:j<ds.length),TR w EW (cs.getD j undef) (ds[j])
theorem i5V:Rd w [] []:=⟨rfl,fun _ h=>absurd h (co _)⟩
theorem Ks{v:Value}{d:D}(h:TR w EW v d):Rd w [v] [d]:=⟨rfl,fun j L=>by
 have:j=0:=by simpa using L
 subst this;exact h⟩
theorem qS{d1 d2:List D}(U:Rd w ((cs.drop o).take z) d1)(hz:d1.length=z)(X:Rd w (cs.drop (o+z)) d2):Rd w (cs.drop o) (d1++d2):=by
 have e:cs.drop o=(cs.drop o).take z++cs.drop (o+z):=by rw[<-List.drop_drop];exact(List.take_append_drop z (cs.drop o)).symm
 rw[e];generalize (cs.drop o).take z=a at U;generalize cs.drop (o+z)=b at X;have⟨l1,U⟩:=U;have⟨l2,X⟩:=X;refine⟨by simp[l1,l2],fun j L=>?_⟩;by_cases hja:j<d1.length
 ·rw[List.getElem_append_left hja];have:(a++b).getD j undef=a.getD j undef:=by rw[ac,ac,List.getElem?_append_left M]
  rw[this];exact U j hja
 ·rw[List.getElem_append_right M];have:(a++b).getD j undef=b.getD (j-d1.length) undef:=by rw[ac,ac,List.getElem?_append_right M,l1]
  rw[this];simp only[List.length_append]at L;exact X _ M
theorem Sd(h:cs.length=o):Rd w (cs.drop o) []:=by rw[List.drop_eq_nil_of_le M];exact i5V
section
variable {xv:Type} (enc:TypeId×Value->xv) (P:Program) (w:World)
def Opens(t:TypeId){α:Type}(E:α->List D)(xm:α->Prop)(n:Nat):Prop:=
 ∀m,m<=n->∀cs x,se enc P w 0 (fun _=>true) true m t cs=some x->Rows.uptoBulk x.1<=1048576->∃v:α,Rd w cs (E v)/\xm v
end
section
variable {xv:Type} {enc:TypeId×Value->xv} {P:Program} {w:World} {t:TypeId} {n:Nat}
theorem Opens.le{E:α->List D}{xm:α->Prop}(h:Opens enc P w t E xm n)(hm:m<=n):Opens enc P w t E xm m:=fun k S=>h k M
theorem Opens.zero{E:α->List D}{xm:α->Prop}:Opens enc P w t E xm 0:=fun m hm cs x h=>by
 obtain rfl:m=0:=by omega
 simp[se]at h
theorem Opens.mono{E:α->List D}{xm qq:α->Prop}(h:Opens enc P w t E xm n)(hX:∀v,xm v->qq v):Opens enc P w t E qq n:=fun m hm cs x A H=>by have⟨v,U,X⟩:=h m hm cs x A H;exact⟨v,U,hX v X⟩
theorem i5W{k:IntKind}(F:P.underlying t=some (.int k)):Opens enc P w t (fun z:Int=>[.int k z]) (fun _=>True) n:=fun m _ cs x h _=>by obtain⟨z,rfl,rfl,_⟩:=DataW.trod_int F h;exact⟨z,Ks (.int k z),trivial⟩
theorem EX(F:P.underlying t=some .string):Opens enc P w t (fun s:J=>[.str s]) (fun s=>s.length<=1048576) n:=fun m _ cs x h H=>by
 obtain⟨s,rfl,rfl,_⟩:=DataW.trod_string F h;simp only[Rows.uptoBulk]at H;have e:bs s.data.toList=s:=by simp[bs]
 refine⟨s.data.toList,Ks ?_,by omega⟩;have:=TR.str (w:=w) (own:=EW) s.data.toList;rwa[e]at this
theorem Kt{d:DataW xv}{l:List (DataW xv)}(h:d∈l):Rows.uptoBulk d<=Rows.uptoBulkAll l:=by
 induction l with
 |nil=>cases h
 |cons x r ih=>
  simp only[Rows.uptoBulkAll];cases ce.1 h with
  |inl e=>subst e;omega
  |inr e=>have:=ih e;omega
theorem i5X(d:DataW xv):1<=Rows.uptoBulk d:=by
 cases d with
 |lit l=>cases l<;>simp[Rows.uptoBulk]
 |nil=>simp[Rows.uptoBulk]
 |ptr d=>simp[Rows.uptoBulk]
 |slice elems spare=>simp[Rows.uptoBulk]
 |agg parts=>simp[Rows.uptoBulk]
 |iface t d=>simp[Rows.uptoBulk]
 |map entries=>simp[Rows.uptoBulk]
 |held h=>simp[Rows.uptoBulk]
theorem i5Y(l:List (DataW xv)):l.length<=Rows.uptoBulkAll l:=by
 induction l with
 |nil=>simp[Rows.uptoBulkAll]
 |cons x r ih=>simp only[Rows.uptoBulkAll,List.length_cons];have:=i5X x;omega
theorem BI{e:TypeId}{z b:Nat}{α:Type}{E:α->List D}{xm:α->Prop}(F:P.underlying t=some (.slice e))(hz:P.cellsOf e=z)(hz0:0<z)(hb1:1<=b)(gR:b<=100000000)(hE:∀v,(E v).length=z)
 (he:Opens enc P w e E xm n):Opens enc P w t (fun l:List α=>[.sl false z b (rows E l)]) (fun l=>l.length<=1048576/\∀y∈l,xm y) (n+1):=fun m hm cs x h H=>by
 rcases DataW.trod_slice F h with⟨rfl,rfl⟩|⟨a,len,cap,elems,rest,n',hn',rfl,rfl,_,hlc,_,hlen,hel,_,_⟩
 ·exact⟨[],Ks (.sl false z b [] none 0 0 (fun _ _=>undef) rfl (ae _) (fun h=>by cases h) B5 hb1 (fun _ h=>by cases h) (.inl rfl) (fun i j u=>absurd u (co _))),by simp,fun y hy=>by cases hy⟩
 ·rw[hz]at hel;have Jb:∀y∈elems,Rows.uptoBulk y.1<=1048576:=fun y hy=>by have U:=Kt (l:=elems.map (·.1)) (sf hy);simp only[Rows.uptoBulk]at H;omega
  have hlb:len<=1048576:=by have U:=i5Y (elems.map (·.1));simp only[Rows.uptoBulk]at H;rw[List.length_map,hlen]at U;omega
  have key:∀i:Fin len,∃v:α,(∃ci,w.cells? 0 (a.add (i.1*z)) z=some ci/\Rd w ci (E v))/\xm v:=fun i=>by have U:=hel i.1 i.2;rw[b7 M]at U;have⟨ci,EY,A⟩:=Option.bind_eq_some_iff.1 U;have⟨v,Q,hX⟩:=he n' M ci _ A (Jb _ (bt _));exact⟨v,⟨ci,EY,Q⟩,hX⟩
  let v:Fin len->α:=fun i=>Classical.choose (key i);have Q:∀i,(∃ci,w.cells? 0 (a.add (i.1*z)) z=some ci/\Rd w ci (E (v i)))/\xm (v i):=fun i=>Classical.choose_spec (key i);have hrl:(rows E (ui v)).length=len:=by simp[rows]
  have hrow:∀i (u:i<(rows E (ui v)).length),(rows E (ui v))[i]=E (v ⟨i,by omega⟩):=fun i u=>by simp[rows]
  refine⟨ui v,Ks (.sl false z b _ (some a) len cap (fun i j=>(w.cell? ⟨a.block,a.off+(i*z+j),none⟩).getD undef) (by rw[hrl]) hlc (fun h=>by cases h) ?_ hb1 (fun r hr=>?_) ?_ (fun i j u L=>?_)),by simp;exact hlb,fun y hy=>?_⟩
  ·rw[hrl];have:len*b<=1048576*100000000:=Nat.mul_le_mul hlb gR;simp only[top];omega
  ·simp only[rows,List.mem_map]at hr;obtain⟨C',_,rfl⟩:=hr;exact hE C'
  ·by_cases h0:len=0
   ·left;have:(rows E (ui v)).length=0:=by omega
    exact List.length_eq_zero_iff.1 this
   ·right;have⟨⟨c0,hc0,hr0⟩,_⟩:=Q ⟨0,by omega⟩;have⟨_,hcl,T4⟩:=po hc0;have mN:=T4 0 hz0;have ea:(a.add (0*z)).add 0=a:=by simp[Addr.add]
    rw[ea,b7 M]at mN;have hspot:a.spot=none:=by
     unfold l7 at mN;split at mN
     ·split at mN
      ·cases mN
      ·rename_i hs;simpa using hs
     ·cases mN
    have ha:a=⟨a.block,a.off,none⟩:=by cases a;simp only at hspot;rw[hspot]
    refine⟨a.block,a.off,congrArg some ha,World.cells?_block (a:=a) (by simpa[Addr.add]using hc0) hz0,Sc,fun i j u L=>?_⟩;have⟨⟨ci,EY,hri⟩,_⟩:=Q ⟨i,by omega⟩;have⟨_,hcl,T4⟩:=po EY;have U:=T4 j L;have e2:(a.add (i*z)).add j=⟨a.block,a.off+(i*z+j),none⟩:=d3k hspot _ _;rw[e2,b7 M]at U;rw[U];rfl
  ·have⟨⟨ci,EY,hri⟩,_⟩:=Q ⟨i,by omega⟩;have⟨_,hcl,T4⟩:=po EY;have e1:=hrow i u;have hjz:j<z:=by
    have:j<(E (v ⟨i,by omega⟩)).length:=by rw[<-e1];exact L
    rwa[hE]at this
   have U:=T4 j hjz;have hspot:a.spot=none:=by
    have⟨⟨c0,hc0,hr0⟩,_⟩:=Q ⟨0,by omega⟩;have⟨_,hcl0,i5Z⟩:=po hc0;have mN:=i5Z 0 hz0;have ea:(a.add (0*z)).add 0=a:=by simp[Addr.add]
    rw[ea,b7 M]at mN;unfold l7 at mN;split at mN
    ·split at mN
     ·cases mN
     ·rename_i hs;simpa using hs
    ·cases mN
   have e2:(a.add (i*z)).add j=⟨a.block,a.off+(i*z+j),none⟩:=d3k hspot _ _;rw[e2,b7 M]at U;have X:=hri.2 j (by rw[hE];exact hjz);rw[ac,b7 M]at X;simp only[U,Option.getD_some,e1];exact X
  ·rw[List.mem_ofFn]at hy;obtain⟨i,rfl⟩:=hy;exact(Q i).2
theorem Se{fs:Array Field}{x:DataW xv×List MemPlace}(F:P.underlying t=some (.struct fs))(h:se enc P w 0 (fun _=>true) true m t cs=some x):cs.length=P.cellsOf t:=by have⟨_,_,_,_,hl,_⟩:=AI F h;exact hl
theorem qT{fs:Array Field}{m:Nat}{cs:List Value}{x:DataW xv×List MemPlace}(F:P.underlying t=some (.struct fs))(h:se enc P w 0 (fun _=>true) true m t cs=some x)(hm:m<=n+1)
 (H:Rows.uptoBulk x.1<=1048576) (j:Nat) (f:Field) (L:fs[j]? =some f) {e:TypeId} {o z:Nat} (hf:f.type=e/\f.offset=o) (hz:P.cellsOf e=z) {α:Type} {E:α->List D} {xm:α->Prop} (he:Opens enc P w e E xm n):
 ∃v:α,Rd w ((cs.drop o).take z) (E v)/\xm v:=by
 obtain⟨xs,n',rfl,rfl,hl,hlen,hfl⟩:=AI F h
 have U:=hfl j f L
 have uo:j<fs.size:=by
  rcases il j fs.size with h|h
  ·exact h
  ·rw[Array.getElem?_eq_none h]at L;cases L
 rw[b7 M,hf.1,hf.2,hz]at U
 have Jb:=Kt (l:=xs.map (·.1)) (sf (bt (show j<xs.length by omega)))
 simp only[Rows.uptoBulk]at H
 exact he n' M _ _ U M
end
theorem d3o:Tryz.prog.cellsOf 49=11:=by kernel_rfl
theorem d3p:Tryz.prog.cellsOf 46=7:=by kernel_rfl
theorem Ku:Tryz.prog.cellsOf 26=4:=by kernel_rfl
theorem i6a:Tryz.prog.cellsOf 3=1:=by kernel_rfl
theorem EZ:Tryz.prog.cellsOf 9=1:=by kernel_rfl
theorem Kv:Tryz.prog.cellsOf 23=1:=by kernel_rfl
theorem i6b:Tryz.prog.cellsOf 24=1:=by kernel_rfl
theorem Sf(enc:TypeId×Value->xv)(w:World):∀n,Opens enc Tryz.prog w 26 O.cells (fun _=>True) n:=by
 intro n;induction n with
 |zero=>exact Opens.zero
 |succ n ih=>
  intro m hm cs x h H;have hl:=Se Tryz.underlying26 h;rw[Ku]at hl;have⟨v0,r0,x0⟩:=qT (n:=n) (e:=3) (o:=0) (z:=1) Tryz.underlying26 h hm H 0 _ rfl ⟨rfl,rfl⟩ i6a (i5W Tryz.underlying3);have⟨v1,r1,x1⟩:=qT (n:=n) (e:=9) (o:=1) (z:=1) Tryz.underlying26 h hm H 1 _ rfl ⟨rfl,rfl⟩ EZ (EX Tryz.underlying9);have⟨v2,r2,x2⟩:=qT (n:=n) (e:=23) (o:=2) (z:=1) Tryz.underlying26 h hm H 2 _ rfl ⟨rfl,rfl⟩ Kv ((BI (b:=16) Tryz.underlying23 EZ D5 D5 D5 (fun v=>by first|rfl|(cases v;rfl)) (EX Tryz.underlying9)).le (mi _));have⟨v3,r3,x3⟩:=qT (n:=n) (e:=24) (o:=3) (z:=1) Tryz.underlying26 h hm H 3 _ rfl ⟨rfl,rfl⟩ i6b ((BI (b:=72) Tryz.underlying24 Ku D5 D5 D5 (fun v=>by first|rfl|(cases v;rfl)) ih).le (mi _));have key:Rd w (cs.drop 0) _:=(qS r0 (by first|rfl|(cases v0;rfl)) (qS r1 (by first|rfl|(cases v1;rfl)) (qS r2 (by first|rfl|(cases v2;rfl)) (qS r3 (by first|rfl|(cases v3;rfl)) (Sd hl)))));refine⟨O.mk v0 v1 v2 v3,?_,?_⟩
  ·rw[lj]at key;first|exact key|(rw[O.cV];exact key)
  ·trivial
theorem i6c(enc:TypeId×Value->xv)(w:World):∀n,Opens enc Tryz.prog w 46 B1.cells (SB) n:=by
 intro n;induction n with
 |zero=>exact Opens.zero
 |succ n ih=>
  intro m hm cs x h H;have hl:=Se Tryz.underlying46 h;rw[d3p]at hl;have⟨v0,r0,x0⟩:=qT (n:=n) (e:=26) (o:=0) (z:=4) Tryz.underlying46 h hm H 0 _ rfl ⟨rfl,rfl⟩ Ku (Sf enc w n);have⟨v1,r1,x1⟩:=qT (n:=n) (e:=23) (o:=4) (z:=1) Tryz.underlying46 h hm H 1 _ rfl ⟨rfl,rfl⟩ Kv ((BI (b:=16) Tryz.underlying23 EZ D5 D5 D5 (fun v=>by first|rfl|(cases v;rfl)) (EX Tryz.underlying9)).le (mi _));have⟨v2,r2,x2⟩:=qT (n:=n) (e:=23) (o:=5) (z:=1) Tryz.underlying46 h hm H 2 _ rfl ⟨rfl,rfl⟩ Kv ((BI (b:=16) Tryz.underlying23 EZ D5 D5 D5 (fun v=>by first|rfl|(cases v;rfl)) (EX Tryz.underlying9)).le (mi _));have⟨v3,r3,x3⟩:=qT (n:=n) (e:=23) (o:=6) (z:=1) Tryz.underlying46 h hm H 3 _ rfl ⟨rfl,rfl⟩ Kv ((BI (b:=16) Tryz.underlying23 EZ D5 D5 D5 (fun v=>by first|rfl|(cases v;rfl)) (EX Tryz.underlying9)).le (mi _));have key:Rd w (cs.drop 0) _:=(qS r0 (by first|rfl|(cases v0;rfl)) (qS r1 (by first|rfl|(cases v1;rfl)) (qS r2 (by first|rfl|(cases v2;rfl)) (qS r3 (by first|rfl|(cases v3;rfl)) (Sd hl)))));refine⟨B1.mk v0 v1 v2 v3,?_,?_⟩
  ·rw[lj]at key;first|exact key|(rw[B1.cV];exact key)|(simp only[O.cV]at key;exact key)|(rw[B1.cV];simp only[O.cV]at key;exact key)
  ·exact i6d x1 x2 x3
theorem i6e(enc:TypeId×Value->xv)(w:World):∀n,Opens enc Tryz.prog w 49 C5.cells (fun v=>SB v.from_) n:=by
 intro n;induction n with
 |zero=>exact Opens.zero
 |succ n ih=>
  intro m hm cs x h H;have hl:=Se Tryz.underlying49 h;rw[d3o]at hl;have⟨v0,r0,x0⟩:=qT (n:=n) (e:=46) (o:=0) (z:=7) Tryz.underlying49 h hm H 0 _ rfl ⟨rfl,rfl⟩ d3p (i6c enc w n);have⟨v1,r1,x1⟩:=qT (n:=n) (e:=26) (o:=7) (z:=4) Tryz.underlying49 h hm H 1 _ rfl ⟨rfl,rfl⟩ Ku (Sf enc w n);have key:Rd w (cs.drop 0) _:=(qS r0 (by first|rfl|(cases v0;rfl)) (qS r1 (by first|rfl|(cases v1;rfl)) (Sd hl)));refine⟨C5.mk v0 v1,?_,?_⟩
  ·rw[lj]at key;first|exact key|(rw[C5.cV];exact key)|(simp only[B1.cV,O.cV]at key;exact key)|(rw[C5.cV];simp only[B1.cV,O.cV]at key;exact key)
  ·exact x0
theorem i6f:Tryz.prog.cellsOf 190=20:=by kernel_rfl
theorem i6g:Tryz.prog.cellsOf 113=1:=by kernel_rfl
section
variable {BB:World}
theorem d3q{P:Program}:∀ {laid:List (String×DataW Unit)} {ps:List MemPlace},DataW.LaidVars P BB laid ps->∀x∈laid,∃g t cs fuel p,P.globalNamed x.1=some g/\(P.globals[g]?).map (·.type)=some t/\BB.var? P x.1=some cs/\se (fun _=>()) P BB 0 (fun _=>true) false fuel t cs.toList=some (x.2,p)
 | [],_,_,_,A=>by cases A
 |(n,d)::r,ps,h,x,A=>by
  have⟨g,t,cs,fuel,p,q,U,X,h3,h4,h5,_⟩:=h;cases ce.1 A with
  |inl e=>subst e;exact⟨g,t,cs,fuel,p,U,X,h3,h4⟩
  |inr e=>exact d3q h5 x e
theorem i6h{laid:List (String×DataW Unit)}(h:laidMet Tryz.prog laid BB)(m0:("internal/strconv.uint64pow10",Rows.laid_internal_strconv_uint64pow10)∈laid):Glob gl BB (fun _=>none) []:=by
 have⟨ps,hL,_⟩:=h;have⟨g,t,vs,fuel,p,U,X,h3,h4⟩:=d3q hL _ m0;obtain rfl:0=g:=dj ((show Tryz.prog.globalNamed "internal/strconv.uint64pow10" =some 0 by kernel_rfl).symm.trans U)
 obtain rfl:190=t:=dj ((show(Tryz.prog.globals[0]?).map (·.type)=some 190 by kernel_rfl).symm.trans X);refine⟨fun g cs e=>(by cases e),fun g c e=>?_,fun g e=>by cases e⟩;have e:(if g=0 then some (Lib.pow10Tab.map fun z=>l6 .u64 z).toArray else none)=some c:=e
 split at e
 ·rename_i hg;subst hg;cases e;have e2:(Rows.laid_internal_strconv_uint64pow10:DataW Unit)=Lib.tabData .u64 Lib.pow10Tab:=by kernel_rfl
  rw[e2]at h4;have K:=Lib.cells_of_tab Tryz.underlying190 Tryz.underlying113 i6g i6f h4;unfold World.var? at h3;rw[U]at h3;simp only[Option.bind_some]at h3;split at h3
  ·rename_i cs ty fr he;cases h3;refine⟨?_,Sc,ty,fr,?_⟩
   ·rcases il 0 BB.heap.size with h|h
    ·exact h
    ·rw[Array.getElem?_eq_none h]at he;cases he
   ·rw[he, <-K]
  ·cases h3
 ·cases e
end
end Go.Proofs.YtchbmngmmdeenaaGreatDoor
namespace Go.Proofs.YtchbmngmmdeenaaGreatDoor
open Go Go.Am Go.ChangeShapes Go.WideShapes Go.RowKit
variable {xv:Type} {r:List (List Char)} {P:Program} {BB W':World}
theorem i6i{xv:Type}{enc:TypeId×Value->xv}{P:Program}{f:Func}{s:ChangeSpec}{apart fresh handsOn again:Bool}{BB W':World}{args:Array Value}{v:Value}{ds gs:List (DataW xv)}{before pa pv:List MemPlace}
 (hW:HP enc P f.params.toList s.vars apart BB args.toList ds gs before)
 (hres:∀(b:Nat)(sp:Nat->Bool)(hd:Bool),pu enc P W' b sp hd f.resultTypes.toList (v.resultList f.resultTypes.size) (s.fn xv (ds++gs)).results [])
 (hargs:∀sp:Nat->Bool,(∀p∈before,sp p.block=true)->pu enc P W' 0 sp true f.params.toList args.toList (s.fn xv (ds++gs)).args pa)
 (Kw:∀sp:Nat->Bool,(∀p∈before,sp p.block=true)->DataW.TrodVars enc P W' sp s.vars (s.fn xv (ds++gs)).vars pv)
 (hps:before=pa++pv) (S:BB.keptBut W' (· ∈before)) (hfz:∀a:Addr,a.block<BB.heap.size->W'.frozen? a=BB.frozen? a)
 (hok:∀(j:Nat)(t:TypeId)(r:Value),f.resultTypes[j]? =some t->(v.resultList f.resultTypes.size)[j]? =some r->GM P W' .any 0 t r):
 s.post enc P f apart fresh handsOn again BB args v W':=by
 have hlt:=hW.lt
 have hold:∀p∈before,(fun b=>decide (b<BB.heap.size)) p.block=true:=fun p hp=>by simpa using hlt p hp
 refine⟨ds,gs,before,[],pa,pv,hW,hres _ _ _,hargs _ hold,Kw _ hold,World.keptBut_mono (fun p hp=>⟨hp,?_⟩) S,fun _=>?_⟩
 ·rw[hps,List.mem_append]at hp;exact Or.inr hp
 ·have⟨_,_,_,_,_,hz,hn⟩:=hW;refine⟨hok,_,_,([]++pa)++pv,⟨[]++pa,pv,trodAll_append (hargs _ (fun _ _=>rfl)) (hres _ _ _),Kw _ (fun _ _=>rfl),rfl,?_,?_⟩,?_⟩
  ·intro b off hp;have hp:MemPlace.cell b off∈before:=by rw[hps];simpa using hp
   rw[hfz _ (hlt _ hp)];exact hz b off hp
  ·intro ha;have:=hn ha;rw[hps]at this;simpa using this
  ·intro p hp _;rw[hps];simpa using hp
theorem d3r{xv:Type}{enc:TypeId×Value->xv}{P:Program}{w w':World}{base:Nat}{spare:Nat->Bool}{held:Bool}:∀ {ts:List TypeId} {vs:List Value} {ds:List (DataW xv)} {ps:List MemPlace},
 pu enc P w base spare held ts vs ds ps->(∀p∈ps,w.sameAt w' p)->pu enc P w' base spare held ts vs ds ps
 | [],[],[],_,h,_=>h
 | _::_,_::_,_::_,_,⟨p,q,⟨n,U⟩,X,e⟩,hs=>⟨p,q,⟨n,DataW.trod_carry n _ _ _ U (fun x A=>hs x (by rw[e];exact List.mem_append_left _ A))⟩,d3r X (fun x A=>hs x (by rw[e];exact List.mem_append_right _ A)),e⟩
theorem i6j(h:∀b,b<BB.heap.size->W'.heap[b]? =BB.heap[b]?)(p:MemPlace)(hp:p.block<BB.heap.size):BB.sameAt W' p:=by
 cases p with
 |cell b off=>show W'.cell? ⟨b,off,none⟩=BB.cell? ⟨b,off,none⟩;unfold l7;simp only[h b hp]
 |map b=>exact h b hp
theorem i6k{may:MemPlace->Prop}(U:W'.os=BB.os)(X:W'.output=BB.output)(h:∀b,b<BB.heap.size->W'.heap[b]? =BB.heap[b]?):BB.keptBut W' may:=by
 refine⟨U,X,fun i u=>?_⟩;rw[h i u];cases BB.heap[i]? with
 |none=>rfl
 |some o=>
  cases o with
  |cells=>exact⟨rfl,rfl,rfl,fun _ _=>rfl⟩
  |map=>exact .inr ⟨rfl,rfl⟩
  | _=>rfl
theorem i6l:ownKnob Tryz.prog.godebug=none:=by kernel_rfl
theorem i6m:Kids Tryz.prog (· <Tryz.prog.types.size):=kids_rows (by kernel_rfl) (by kernel_rfl)
theorem i6n:∀t e,t<Tryz.prog.types.size->Tryz.prog.underlying t=some (.slice e)->0<Tryz.prog.cellsOf e:=slices_full_of _ (by kernel_rfl)
def Sg(vs:List Value):Obj->Obj
 | .cells _ t f=>.cells vs.toArray t f
 |o=>o
noncomputable def Sh(os:Os):World:=
 { FF Tryz.prog os ⟨#[], #[],[]⟩with heap:=((((FF Tryz.prog os ⟨#[], #[],[]⟩).heap).modify 0 (Sg (i5K.map (l6 .u64)))).modify 1 (Sg (i5L.map (l6 .u8)))).modify 2 (Sg (i5M.map (l6 .u8))) }
theorem i6o{c:Array Value}{cs:List D}(h:Rd BB (Value.agg c).cells.toList cs):VR BB (fun _=>none) [] (.agg c) (.agg cs):=by
 refine .agg c _ ?_ (fun i u=>.tr ?_)
 ·simpa[ye]using h.1
 ·have h5:TR BB EW (c.getD i undef) (cs[i]):=by simpa[ye,Array.getD_eq_getD_getElem?, ac]using h.2 i u
  exact h5
set_option maxRecDepth 100000 in
theorem i6p(xv:Type)(enc:TypeId×Value->xv)(BB:World)(base:Nat)(args:Array Value)(ds gs:List (DataW xv))(before:List MemPlace)
 (hval:∀(j:Nat) t v,Tryz.f3.params[j]? =some t->args[j]? =some v->GM Tryz.prog BB .any base t v)
 (hW:HP enc Tryz.prog Tryz.f3.params.toList Rows.transferMatchesSpecSpec.vars false BB args.toList ds gs before) (hL:laidMetH Tryz.prog Rows.transferMatchesSpecUptoRow.laid BB)
 (S:Rows.uptoSmall xv (ds++gs)=true):
 Calls Tryz.prog 3 args BB fun e W'=>∃v,e= .returned v/\Rows.transferMatchesSpecSpec.post enc Tryz.prog Tryz.f3 false true false false BB args v W':=by
 have hW':=hW
 obtain⟨p,q,hA0,hV,rfl,hfz,hnd⟩:=hW
 have hA:pu enc Tryz.prog BB 0 (fun _=>true) true Tryz.f3.params.toList args.toList ds p:=hA0
 rw[Tryz.params3]at hA hval
 obtain⟨v0,vs0,d0,ds0,p0,q0,hargs,rfl,rfl,h0,r0⟩:=trodAll_cons hA
 obtain⟨v1,vs1,d1,ds1,p1,q1,rfl,rfl,rfl,U,r1⟩:=trodAll_cons r0
 obtain⟨rfl,rfl,rfl⟩:=trodAll_nil r1
 obtain rfl:args= #[v0,v1]:=by cases args;simp_all
 obtain⟨rfl,rfl⟩:=trodVars_none hV
 have H:Rows.uptoBulkAll [d0,d1]<=1048576:=of_decide_eq_true S
 obtain⟨a0,l0,k0,rfl⟩:=okWide_slice Tryz.underlying22 (hval 0 22 v0 rfl rfl)
 obtain⟨c1,rfl,hc1⟩:=okWide_struct Tryz.underlying26 (hval 1 26 v1 rfl rfl)
 have⟨n0,h0⟩:=h0
 have⟨g0,rg0,x0⟩:=(show Opens enc Tryz.prog BB 22 _ _ n0 from((BI (b:=216) Tryz.underlying22 d3o D5 D5 D5 (fun v=>by first|rfl|(cases v;rfl)) (i6e enc BB n0)).le (mi _))) n0 (ae _) _ _ h0 (js (Kt (az ..)) H)
 have⟨n1,U⟩:=U
 have⟨g1,rg1,x1⟩:=Sf enc BB n1 n1 (ae _) _ _ U (js (Kt (List.mem_cons_of_mem _ (az ..))) H)
 have⟨r,hr,N,hN⟩:=d3s x0.2 g1
 have hm:=hN N (ae _)
 subst hr
 have hp:=i6s N g0 g1 true hm []
 have hcall:=hp.2 BB (fun _=>none) #[.slice a0 l0 k0,.agg c1] ⟨fun o ob h=>by simp at h,fun o o' ob ob' blk b b' h=>by simp at h⟩ (i6h (show laidMet Tryz.prog Rows.transferMatchesSpecUptoRow.laid BB from hL) (by simp[Rows.transferMatchesSpecUptoRow])) rfl (fun j L=>by
  have hj3:j<2:=L;match j,hj3 with
  |0,_=>exact .tr (rg0.2 0 B5)
  |1,_=>
   have h6:=i6o rg1
   first|exact h6|(rw[O.cV]at h6;exact h6))
 refine(hcall.calls (by unfold iZ;rw[Tryz.func3];kernel_rfl)).mono fun e W' ⟨v,d,st',μ',he,⟨hd,hst⟩,hs,step,Q⟩=>?_
 subst he;subst hd;subst hst
 have aJ:∀b,b<BB.heap.size->W'.heap[b]? =BB.heap[b]? :=fun b H=>step.M7 b H Sc
 obtain rfl:v= .bool true:=oO Q
 have hlt:=hW'.lt
 simp only[List.append_nil]at hW' hlt
 refine⟨_,rfl,i6i (pa:=p0++(p1++[])) (pv:=[]) hW' (fun _ _ _=>trodAll_cons_mk (shut_bool Tryz.underlying4 _) trodAll_mk0) (fun sp hsp=>?_) (fun _ _=>rfl) B5
  (i6k step.os step.output aJ) (fun x A=>?_) (ok_one (by kernel_rfl) rfl (okWide_bool_mk Tryz.underlying4 _))⟩
 ·have h3:=d3r (w':=W') hA0 (fun x A=>i6j aJ x (hA0.lt x A));exact DataW.TrodAll.respare i6m i6n (fun t F=>by
   rw[Tryz.params3]at F;have hts:Tryz.prog.types.size=213:=by kernel_rfl
   have:t=22\/t=26:=by simpa using F
   show t<Tryz.prog.types.size;rw[hts];rcases this with h|h<;>(rw[h];decide)) h3 (fun x A=>hsp x (by simpa using A))
 ·unfold World.frozen?;rw[aJ _ A]
def Kx:Array Value:= #[.slice none 0 0,.agg #[.int .i64 0,.string ⟨#[]⟩,.slice none 0 0,.slice none 0 0]]
set_option maxRecDepth 100000 in
theorem i6t(os:Os):laidMet Tryz.prog Rows.transferMatchesSpecUptoRow.laid ((Sh os).forCall (fun _ _=>0) ⟨#[],Kx,[]⟩).memory:=
 laidMet_of_run' 8 (by kernel_rfl) (by kernel_rfl)
theorem i6u(os:Os)(enc:TypeId×Value->xv):∃places,DataW.whole enc Tryz.prog ((Sh os).forCall (fun _ _=>0) ⟨#[],Kx,[]⟩).memory Tryz.f3.params.toList Rows.transferMatchesSpecSpec.vars false Kx.toList 8=some ([.nil,.agg [.lit (.int .i64 0),.lit (.string []),.nil,.nil]],[],places):=
 ⟨[],by kernel_rfl⟩
set_option maxRecDepth 100000 in
theorem i6v(os:Os)(started:os.Started)(xv:Type)(enc:TypeId×Value->xv)(B':Stop.Interp):
 ReturnsInHanded {} Tryz.checked os 3 .any ((Rows.OpenSpec.upto Rows.transferMatchesSpecSpec).preRow enc Tryz.prog Tryz.f3 Rows.transferMatchesSpecUptoRow.domain false Rows.transferMatchesSpecUptoRow.laid) (((Rows.OpenSpec.upto Rows.transferMatchesSpecSpec).at B').post enc Tryz.prog Tryz.f3 false true false false):=by
 have⟨places,A⟩:=i6u os enc
 refine returnsInHanded_of_row (C:=Tryz.checked) (s:=Rows.OpenSpec.upto Rows.transferMatchesSpecSpec) i6l started (by kernel_rfl) Tryz.func3
  (witness_row_at (enc:=enc) (C:=Tryz.checked) false (Sh os) Kx rfl (by kernel_rfl) (by kernel_rfl) (by kernel_rfl)
   (OpenSpec.preRow_of_cond 8 A (by kernel_rfl) (fun k S=>by cases S;kernel_rfl) (by kernel_rfl) (i6t os))) ?_
 intro BB base args ds gs before hval hW _ i6w _ hL _ _
 exact i6p xv enc BB base args ds gs before hval hW hL (i6w _ rfl)
set_option maxHeartbeats 20000000
set_option maxRecDepth 100000
theorem Si(w r:List Char)(h:w.all (· != Char.ofNat 32)=true):wordsSigns (w++Char.ofNat 32::r)=w::wordsSigns r:=by
 induction w with
 |nil=>simp[wordsSigns]
 |cons c w ih=>
  simp only[List.all_cons,Bool.and_eq_true,bne_iff_ne,ne_eq]at h;rw[List.cons_append,wordsSigns,ih h.2]
  ·exact fun e=>h.1 e
abbrev cs(l:List Nat):List Char:=l.map Char.ofNat
theorem hdw:∃r,wordsSigns Tryz.pinned.checked.prog.initOrder.toList=cs [104,97,114,110,101,115,115]::cs [56,57,51,55,53,102,101,102,55,57,49,52,48,54,97,50,98,54,53,99,100,50,102,48,99,52,53,50,50,57,56,51,101,100,99,99,102,49,50,102,54,48,99,49,101,49,102,102,50,56,57,56,55,98,52,101,50,52,55,52,97,53,56,100]::cs [99,117,116]::r:=by exact⟨_,(congrArg wordsSigns (String.toList_ofList:Tryz.pinned.checked.prog.initOrder.toList=_)).trans ((Si (cs [104,97,114,110,101,115,115]) _ rfl).trans (congrArg _ ((Si (cs [56,57,51,55,53,102,101,102,55,57,49,52,48,54,97,50,98,54,53,99,100,50,102,48,99,52,53,50,50,57,56,51,101,100,99,99,102,49,50,102,54,48,99,49,101,49,102,102,50,56,57,56,55,98,52,101,50,52,55,52,97,53,56,100]) _ rfl).trans (congrArg _ (Si (cs [99,117,116]) _ rfl)))))⟩
theorem bof{l x s r}(h:l=x::s::r)(A:((x== "harness".toList||x== "ownmain".toList)&&isSumSigns s)=true):behindMainWord l=r:=by
 subst h;show(if _ then _ else _)=_
 rw[if_pos A]
theorem mof{c:OpenClaim}(h:behindMainWord (wordsSigns P.initOrder.toList)=cs [99,117,116]::r)(K:c.make= .cut):(P.make==some c.make)=true:=by unfold Program.make;rw[h,K];kernel_rfl
theorem lof{c:OpenClaim}(h:behindMainWord (wordsSigns P.initOrder.toList)=cs [99,117,116]::r)(K:c.lifted=false):(c.lifted==P.liftsFinal)=true:=by unfold Program.liftsFinal Program.headLifts;rw[h,K];kernel_rfl
theorem eof(h:behindMainWord (wordsSigns P.initOrder.toList)=cs [99,117,116]::r)(U:P.laysLater=false)(X:P.bearsReflect=false)(h3:P.doorFits []=true):P.mayEnter=true:=by
 have hs:stripLifts liftWords (cs [99,117,116]::r)=([],cs [99,117,116]::r):=by kernel_rfl
 unfold Program.mayEnter;rw[h];simp only[hs,U,X,h3];rfl
theorem i6A{s:List Char}{t:String}(h:∃r,wordsSigns P.initOrder.toList=cs [104,97,114,110,101,115,115]::s::r)(hs:isSumSigns s=true)(F:t.toList=s):P.mainIs=some (true,t.toList):=by
 have⟨r,h⟩:=h;unfold Program.mainIs;rw[h,F];show(if _ then _ else _)=_
 rw[if_neg (by simp[hs])];kernel_rfl
theorem i6B:joinedFacts Tryz.pinned.checked.prog 3 Tryz.f3 (Rows.OpenSpec.upto Rows.transferMatchesSpecSpec).bare Rows.transferMatchesSpecUptoRow=true:=by
 have⟨r,hw⟩:=hdw;have H:=bof hw (by kernel_rfl);unfold joinedFacts;repeat' with_reducible refine Bool.and_eq_true_iff.mpr ⟨?_,?_⟩
 all_goals first
  |with_reducible exact eof H (by as_aux_lemma=>kernel_rfl) (by as_aux_lemma=>kernel_rfl) (by as_aux_lemma=>kernel_rfl)
  |with_reducible exact mof H (by as_aux_lemma=>kernel_rfl)
  |with_reducible exact lof H (by as_aux_lemma=>kernel_rfl)
  |as_aux_lemma=>kernel_rfl
theorem i6C:Rows.TransferMatchesSpecUptoSaid:=
 OpenClaim.holds_of_cond 3 Tryz.f3 rfl rfl rfl rfl rfl rfl rfl ⟨rfl,rfl,rfl,rfl,rfl⟩ rfl rfl rfl rfl rfl (by as_aux_lemma=>kernel_rfl) Tryz.func3
  i6B
  (of_decide_eq_true (by as_aux_lemma=>kernel_rfl)) (by unfold Func.isWrapper;first|(rw[if_pos (by decide+kernel)];kernel_rfl)|(rw[if_neg (by decide+kernel)];exact⟨rfl,rfl⟩))
  (fun os started xv enc _ B'=>by rw[OpenClaim.pre_eq_preRow];exact i6v os started xv enc B')
theorem i6D(f:FuncId)(fn:Func)(hf:Tryz.pinned.checked.prog.funcNamed "glosswright/glosswrightlaw8.TransferMatchesSpec" =some f)(hfn:Tryz.pinned.checked.prog.funcs[f]? =some fn):
 false=Tryz.pinned.checked.prog.looks []/\∀(j:Nat) t,fn.params[j]? =some t->Tryz.pinned.checked.prog.wantsStandIn t=false:=by
 obtain rfl:f=3:=dj ((show Tryz.prog.funcNamed "glosswright/glosswrightlaw8.TransferMatchesSpec" =some 3 by kernel_rfl).symm.trans hf) |>.symm
 obtain rfl:fn=Tryz.f3:=(dj (Tryz.func3.symm.trans hfn)).symm
 refine⟨by kernel_rfl,fun j t F=>?_⟩
 rw[Tryz.params3]at F
 have hm:t∈ [22,26]:=by simpa using Array.mem_of_getElem? F
 have hall:([22,26].all fun C'=> !Tryz.prog.wantsStandIn C')=true:=by kernel_rfl
 exact(show Tryz.prog.wantsStandIn t=false by simpa using List.all_eq_true.1 hall t hm)
theorem transferMatchesSpec_holds:Rows.TransferMatchesSpecUptoCardSaid:=
 Claim7.holds_tied_plain_at .later [] _ _ _ _ i6C (fun _ h=>by cases h) (by as_aux_lemma=>kernel_rfl) (fun _ h=>by cases h) transferMatchesSpecUpto_row_tie rfl ⟨rfl,rfl⟩ (i6A (hdw.elim fun _ h=>⟨_,h⟩) (by as_aux_lemma=>kernel_rfl) String.toList_ofList) rfl i6D (by as_aux_lemma=>kernel_rfl)
