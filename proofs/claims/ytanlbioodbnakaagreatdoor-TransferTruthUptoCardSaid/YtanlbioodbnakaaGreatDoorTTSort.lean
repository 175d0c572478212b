import Derived.Test.YtanlbioodbnakaaGreatDoorTTBase
import Derived.Test.YtanlbioodbnakaaGreatDoorTTCmp
set_option linter.unusedVariables false
set_option linter.unusedSimpArgs false
namespace Go.Proofs.YtanlbioodbnakaaGreatDoor
open Go Go.Am Go.Shelf Go.Sort
theorem Y8{P:Program}{f:FuncId}{B F:Func}(h:P.funcs[f]? =some F)(hn:(F.name== "runtime.NumGoroutine")=false)(e:F= { B with name:=F.name }):Go.Proofs.Bears P f B:=⟨F.name,hn,h.trans (congrArg some e)⟩
def Mv:Ren:=⟨fun x=>if x=6 then 42 else if x=14 then 67 else if x=15 then 68 else if x=20 then 91 else if x=21 then 92 else if x=22 then 93 else if x=23 then 94 else if x=24 then 95 else if x=25 then 96 else if x=26 then 97 else if x=27 then 98 else if x=28 then 99 else if x=29 then 100 else if x=46 then 126 else if x=47 then 127 else if x=48 then 128 else if x=49 then 129 else if x=50 then 130 else if x=57 then 138 else x,
 fun x=>if x=22 then 51 else if x=24 then 56 else if x=25 then 100 else if x=39 then 113 else if x=45 then 158 else if x=46 then 159 else if x=50 then 79 else if x=53 then 165 else if x=55 then 131 else if x=66 then 187 else if x=70 then 191 else if x=76 then 196 else if x=77 then 197 else x,fun x=>x⟩
theorem IK:Go.Proofs.SlLaysF0.n6 Tryz.prog Mv where
 mixed:=follows
 f6:=Y8 Tryz.func42 (by kernel_rfl) (by kernel_rfl)
 f14:=Y8 Tryz.func67 (by kernel_rfl) (by kernel_rfl)
 f15:=Tryz.func68.trans (by kernel_rfl)
 f20:=Y8 Tryz.func91 (by kernel_rfl) (by kernel_rfl)
 f21:=Y8 Tryz.func92 (by kernel_rfl) (by kernel_rfl)
 f22:=Y8 Tryz.func93 (by kernel_rfl) (by kernel_rfl)
 f23:=Y8 Tryz.func94 (by kernel_rfl) (by kernel_rfl)
 f24:=Y8 Tryz.func95 (by kernel_rfl) (by kernel_rfl)
 f25:=Y8 Tryz.func96 (by kernel_rfl) (by kernel_rfl)
 f26:=Y8 Tryz.func97 (by kernel_rfl) (by kernel_rfl)
 f27:=Y8 Tryz.func98 (by kernel_rfl) (by kernel_rfl)
 f28:=Tryz.func99.trans (by kernel_rfl)
 f29:=Tryz.func100.trans (by kernel_rfl)
 f46:=Y8 Tryz.func126 (by kernel_rfl) (by kernel_rfl)
 f47:=Tryz.func127.trans (by kernel_rfl)
 f48:=Tryz.func128.trans (by kernel_rfl)
 f49:=Y8 Tryz.func129 (by kernel_rfl) (by kernel_rfl)
 f50:=Y8 Tryz.func130 (by kernel_rfl) (by kernel_rfl)
 f57:=Y8 Tryz.func138 (by kernel_rfl) (by kernel_rfl)
 t0:=Tryz.underlying0
 a0:=Tryz.isAgg0
 z0:=Tryz.sizeOf0
 v0:=Tryz.zeroValue0
 t3:=Tryz.underlying3
 a3:=Tryz.isAgg3
 z3:=Tryz.sizeOf3
 v3:=Tryz.zeroValue3
 t4:=Tryz.underlying4
 a4:=Tryz.isAgg4
 z4:=Tryz.sizeOf4
 v4:=Tryz.zeroValue4
 t5:=Tryz.underlying5
 a5:=Tryz.isAgg5
 z5:=Tryz.sizeOf5
 v5:=Tryz.zeroValue5
 t9:=Tryz.underlying9
 a9:=Tryz.isAgg9
 z9:=Tryz.sizeOf9
 v9:=Tryz.zeroValue9
 t22:=Tryz.underlying51
 a22:=Tryz.isAgg51
 z22:=Tryz.sizeOf51
 v22:=Tryz.zeroValue51
 t25:=Tryz.underlying100
 a25:=Tryz.isAgg100
 z25:=Tryz.sizeOf100
 v25:=Tryz.zeroValue100
 t39:=Tryz.underlying113
 a39:=Tryz.isAgg113
 z39:=Tryz.sizeOf113
 v39:=Tryz.zeroValue113
 t45:=Tryz.underlying158
 a45:=Tryz.isAgg158
 z45:=Tryz.sizeOf158
 v45:=Tryz.zeroValue158
 t46:=Tryz.underlying159
 a46:=Tryz.isAgg159
 z46:=Tryz.sizeOf159
 v46:=Tryz.zeroValue159
 t50:=Tryz.underlying79
 a50:=Tryz.isAgg79
 z50:=Tryz.sizeOf79
 v50:=Tryz.zeroValue79
 t53:=Tryz.underlying165
 a53:=Tryz.isAgg165
 z53:=Tryz.sizeOf165
 v53:=Tryz.zeroValue165
 t55:=Tryz.underlying131
 a55:=Tryz.isAgg131
 z55:=Tryz.sizeOf131
 v55:=Tryz.zeroValue131
 t66:=Tryz.underlying187
 a66:=Tryz.isAgg187
 z66:=Tryz.sizeOf187
 v66:=Tryz.zeroValue187
 t70:=Tryz.underlying191
 a70:=Tryz.isAgg191
 z70:=Tryz.sizeOf191
 v70:=Tryz.zeroValue191
 t76:=Tryz.underlying196
 a76:=Tryz.isAgg196
 z76:=Tryz.sizeOf196
 v76:=Tryz.zeroValue196
 t77:=Tryz.underlying197
 a77:=Tryz.isAgg197
 z77:=Tryz.sizeOf197
 v77:=Tryz.zeroValue197
theorem Ls:∀w,(isAgg (Mv.t 24)).run Tryz.prog w= .ok true w:=Tryz.isAgg56
theorem IL:∀w,(Go.sizeOf (Mv.t 24)).run Tryz.prog w= .ok 2 w:=Tryz.sizeOf56
theorem GS{α β:Type}(f:α→β){c:α→α→Int}{d:β→β→Int}(h:∀x y,c x y=d (f x) (f y))(x:α):∀l,(ins c x l).map f=ins d (f x) (l.map f)
 | []=>rfl
 |y::l=>by
  rw[List.map_cons]
  unfold ins
  rw[h y x]
  split
  ·rw[List.map_cons,GS f h x l]
  ·rfl
theorem yI{α β:Type}(f:α→β){c:α→α→Int}{d:β→β→Int}(h:∀x y,c x y=d (f x) (f y)):∀l,(jT c l).map f=jT d (l.map f)
 | []=>rfl
 |x::l=>by
  rw[jT,List.map_cons,jT,GS f h,yI f h l]
section
variable {S:List u6}
abbrev SA(S:List u6):={x:u6 // x∈S}
def JI(a b:SA S):Int:=a.1.at_-b.1.at_
theorem Cp:SWO (ltOf (JI (S:=S))) where
 irrefl x:=decide_eq_false (by unfold JI;omega)
 trans x y z h k:=decide_eq_true (by
  have h:=of_decide_eq_true h
  have k:=of_decide_eq_true k
  unfold JI at *; omega)
 ntrans x y z h k:=decide_eq_false (by
  have h:=of_decide_eq_false h
  have k:=of_decide_eq_false k
  unfold JI at *; omega)
def Sc(x:SA S):List Value:=[.int .i64 x.1.at_,.int .i64 x.1.rule]
theorem IQ:zL (fun x:SA S=>u6.cells x.1) Sc 2 where
 ER:=fun _=>rfl
 NJ:=fun _=>rfl
 one:=fun x v hv=>by
  simp only[Sc,List.mem_cons,List.not_mem_nil,or_false]at hv
  rcases hv with rfl|rfl<;>rfl
 to:=fun w μ st x j h v hv=>by
  have h5:j<2:=h
  match j,h5 with
  |0,_=>exact bF hv
  |1,_=>exact bF hv
 fro:=fun w μ st x j h=>by
  have h5:j<2:=h
  match j,h5 with
  |0,_=>exact ay _ _ _ _ _
  |1,_=>exact ay _ _ _ _ _
end
theorem Dk{c s:Nat}(hs:s=Mv.f 6)(hc:iP Tryz.prog c=true){G:Gl}(e3:∀x y:u6,Pure Tryz.prog G c [.agg (u6.cells x),.agg (u6.cells y)] (.int .i64 (wr .i64 (x.at_-y.at_)))){st:St}{o g:Nat}{l:List u6}{full:Bool}(hlk:Am.look st o=some (Ob.arr g 2 16 (rows u6.cells l)))(hl:l.length<4611686018427387904∧PE l):
 Am.Spec Tryz.prog G s [.ref full o g 0 l.length,.fn c [] []] st (fun d st'=>d= .tup []∧st'=C0 st [(o,Ob.arr g 2 16 (rows u6.cells (jT PD l)))]):=by
 subst hs
 have e2:iP Tryz.prog (Mv.f 6)=true:=by kernel_rfl
 obtain⟨hl,h1,h2⟩:=hl
 let S:List u6:=if l=[]then [default]else l
 have hS1:∀x∈S,0≤x.at_∧x.at_≤1000000:=fun x hx=>by
  simp only[S]at hx
  split at hx
  ·rw[List.mem_singleton]at hx;subst hx;decide
  ·exact h1 x hx
 have hS2:∀x∈S,∀y∈S,x.at_=y.at_→x=y:=fun x hx y hy e=>by
  simp only[S]at hx hy
  split at hx
  ·rename_i hn
   rw[if_pos hn]at hy
   rw[List.mem_singleton]at hx hy;rw[hx,hy]
  ·rename_i hn
   rw[if_neg hn]at hy
   obtain⟨i,hi,rfl⟩:=List.getElem_of_mem hx
   obtain⟨j,hj,rfl⟩:=List.getElem_of_mem hy
   have e2:(l.map (·.at_))[i]'(by simpa using hi)=(l.map (·.at_))[j]'(by simpa using hj):=by simpa using e
   have:=(List.getElem_inj h2).1 e2
   subst this;rfl
 have hmem:∀x∈l,x∈S:=fun x hx=>by
  simp only[S]
  split
  ·rename_i hn;rw[hn]at hx;cases hx
  ·exact hx
 have hne:∃x,x∈S:=by
  simp only[S]
  split
  ·exact⟨default,by simp⟩
  ·rename_i hn
   cases l with
   |nil=>exact absurd rfl hn
   |cons a _=>exact⟨a,List.mem_cons_self ..⟩
 obtain⟨x0,hx0⟩:=hne
 letI:Inhabited (SA S):=⟨⟨x0,hx0⟩⟩
 let lS:List (SA S):=l.pmap (fun x h=>⟨x,h⟩) hmem
 have hmap:lS.map Subtype.val=l:=by
  simp only[lS,List.map_pmap]
  exact List.pmap_eq_self.2 fun _ _=>rfl
 have hlen:lS.length=l.length:=by simp[lS]
 have hrow:∀m:List (SA S),rows (fun x:SA S=>u6.cells x.1) m=rows u6.cells (m.map Subtype.val):=fun m=>by
  simp only[rows,List.map_map];rfl
 have key:=ES (P:=Tryz.prog) (G:=G) (full:=full) (ρ:=Mv) (k:=2) (b:=16) (cf:=JI (S:=S)) (l:=lS) (gen:=g) (o:=o) (st:=st) (g:=c) IK Ls IL IQ (by decide) Cp hc e2 (fun x y=>by
  have h:=e3 x.1 y.1
  have a:=hS1 x.1 x.2
  have b:=hS1 y.1 y.2
  rw[cr (by omega) (by omega)]at h
  exact h) (by rw[hrow,hmap];exact hlk) (by rw[hlen];exact hl)
 rw[hlen]at key
 refine key.mono fun d st' ⟨a,b⟩=>⟨a,?_⟩
 rw[b,Ie Cp (fun x y p q=>Subtype.ext (hS2 x.1 x.2 y.1 y.2 (by unfold JI at p q;omega))),hrow,show(jT JI lS).map Subtype.val=jT PD l from(yI (c:=JI) (d:=PD) Subtype.val (fun _ _=>rfl) lS).trans (by rw[hmap])]
end Go.Proofs.YtanlbioodbnakaaGreatDoor
