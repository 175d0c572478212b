import Derived.Test.YtfacbpehlibilaaGreatDoorTVBase
import Derived.Test.YtfacbpehlibilaaGreatDoorTVCmp
set_option linter.unusedVariables false
set_option linter.unusedSimpArgs false
namespace Go.Proofs.YtfacbpehlibilaaGreatDoor
open Go Go.Am Go.Shelf Go.Sort
theorem r9b{P:Program}{f:FuncId}{B F:Func}(h:P.funcs[f]? =some F)(hn:(F.name== "runtime.NumGoroutine")=false)(e:F= { B with name:=F.name }):Go.Proofs.Bears P f B:=⟨F.name,hn,h.trans (congrArg some e)⟩
def x6z:Ren:=⟨fun x=>if x=6 then 66 else if x=14 then 92 else if x=15 then 93 else if x=20 then 115 else if x=21 then 116 else if x=22 then 117 else if x=23 then 118 else if x=24 then 119 else if x=25 then 120 else if x=26 then 121 else if x=27 then 122 else if x=28 then 123 else if x=29 then 124 else if x=46 then 144 else if x=47 then 145 else if x=48 then 146 else if x=49 then 147 else if x=50 then 148 else if x=57 then 159 else x,
 fun x=>if x=22 then 34 else if x=24 then 43 else if x=25 then 106 else if x=39 then 137 else if x=45 then 164 else if x=46 then 165 else if x=50 then 169 else if x=53 then 172 else if x=55 then 138 else if x=66 then 188 else if x=70 then 146 else if x=76 then 200 else if x=77 then 201 else x,fun x=>x⟩
theorem x3o:Go.Proofs.SlLaysF0.n6 Tryz.prog x6z where
 mixed:=follows
 f6:=r9b Tryz.func66 (by kernel_rfl) (by kernel_rfl)
 f14:=r9b Tryz.func92 (by kernel_rfl) (by kernel_rfl)
 f15:=Tryz.func93.trans (by kernel_rfl)
 f20:=r9b Tryz.func115 (by kernel_rfl) (by kernel_rfl)
 f21:=r9b Tryz.func116 (by kernel_rfl) (by kernel_rfl)
 f22:=r9b Tryz.func117 (by kernel_rfl) (by kernel_rfl)
 f23:=r9b Tryz.func118 (by kernel_rfl) (by kernel_rfl)
 f24:=r9b Tryz.func119 (by kernel_rfl) (by kernel_rfl)
 f25:=r9b Tryz.func120 (by kernel_rfl) (by kernel_rfl)
 f26:=r9b Tryz.func121 (by kernel_rfl) (by kernel_rfl)
 f27:=r9b Tryz.func122 (by kernel_rfl) (by kernel_rfl)
 f28:=Tryz.func123.trans (by kernel_rfl)
 f29:=Tryz.func124.trans (by kernel_rfl)
 f46:=r9b Tryz.func144 (by kernel_rfl) (by kernel_rfl)
 f47:=Tryz.func145.trans (by kernel_rfl)
 f48:=Tryz.func146.trans (by kernel_rfl)
 f49:=r9b Tryz.func147 (by kernel_rfl) (by kernel_rfl)
 f50:=r9b Tryz.func148 (by kernel_rfl) (by kernel_rfl)
 f57:=r9b Tryz.func159 (by kernel_rfl) (by kernel_rfl)
 t0:=Tryz.underlying0
 a0:=Tryz.isAgg0
 z0:=Tryz.sizeOf0
 v0:=Tryz.zeroValue0
 t3:=Tryz.underlying3
 a3:=Tryz.isAgg3
 z3:=Tryz.sizeOf3
 v3:=Tryz.zeroValue3
 t4:=Tryz.underlying4
 a4:=Tryz.isAgg4
 z4:=Tryz.sizeOf4
 v4:=Tryz.zeroValue4
 t5:=Tryz.underlying5
 a5:=Tryz.isAgg5
 z5:=Tryz.sizeOf5
 v5:=Tryz.zeroValue5
 t9:=Tryz.underlying9
 a9:=Tryz.isAgg9
 z9:=Tryz.sizeOf9
 v9:=Tryz.zeroValue9
 t22:=Tryz.underlying34
 a22:=Tryz.isAgg34
 z22:=Tryz.sizeOf34
 v22:=Tryz.zeroValue34
 t25:=Tryz.underlying106
 a25:=Tryz.isAgg106
 z25:=Tryz.sizeOf106
 v25:=Tryz.zeroValue106
 t39:=Tryz.underlying137
 a39:=Tryz.isAgg137
 z39:=Tryz.sizeOf137
 v39:=Tryz.zeroValue137
 t45:=Tryz.underlying164
 a45:=Tryz.isAgg164
 z45:=Tryz.sizeOf164
 v45:=Tryz.zeroValue164
 t46:=Tryz.underlying165
 a46:=Tryz.isAgg165
 z46:=Tryz.sizeOf165
 v46:=Tryz.zeroValue165
 t50:=Tryz.underlying169
 a50:=Tryz.isAgg169
 z50:=Tryz.sizeOf169
 v50:=Tryz.zeroValue169
 t53:=Tryz.underlying172
 a53:=Tryz.isAgg172
 z53:=Tryz.sizeOf172
 v53:=Tryz.zeroValue172
 t55:=Tryz.underlying138
 a55:=Tryz.isAgg138
 z55:=Tryz.sizeOf138
 v55:=Tryz.zeroValue138
 t66:=Tryz.underlying188
 a66:=Tryz.isAgg188
 z66:=Tryz.sizeOf188
 v66:=Tryz.zeroValue188
 t70:=Tryz.underlying146
 a70:=Tryz.isAgg146
 z70:=Tryz.sizeOf146
 v70:=Tryz.zeroValue146
 t76:=Tryz.underlying200
 a76:=Tryz.isAgg200
 z76:=Tryz.sizeOf200
 v76:=Tryz.zeroValue200
 t77:=Tryz.underlying201
 a77:=Tryz.isAgg201
 z77:=Tryz.sizeOf201
 v77:=Tryz.zeroValue201
theorem x5y:∀w,(isAgg (x6z.t 24)).run Tryz.prog w= .ok true w:=Tryz.isAgg43
theorem x3p:∀w,(Go.sizeOf (x6z.t 24)).run Tryz.prog w= .ok 2 w:=Tryz.sizeOf43
theorem x1F{α β:Type}(f:α→β){c:α→α→Int}{d:β→β→Int}(h:∀x y,c x y=d (f x) (f y))(x:α):∀l,(ins c x l).map f=ins d (f x) (l.map f)
 | []=>rfl
 |y::l=>by
  rw[List.map_cons]
  unfold ins
  rw[h y x]
  split
  ·rw[List.map_cons,x1F f h x l]
  ·rfl
theorem w5h{α β:Type}(f:α→β){c:α→α→Int}{d:β→β→Int}(h:∀x y,c x y=d (f x) (f y)):∀l,(u6t c l).map f=u6t d (l.map f)
 | []=>rfl
 |x::l=>by
  rw[u6t,List.map_cons,u6t,x1F f h,w5h f h l]
section
variable {S:List r4W}
abbrev SA(S:List r4W):={x:r4W // x∈S}
def x3Y(a b:SA S):Int:=a.1.at_-b.1.at_
theorem w7Z:SWO (ltOf (x3Y (S:=S))) where
 irrefl x:=decide_eq_false (by unfold x3Y;omega)
 trans x y z h k:=decide_eq_true (by
  have h:=of_decide_eq_true h
  have k:=of_decide_eq_true k
  unfold x3Y at *; omega)
 ntrans x y z h k:=decide_eq_false (by
  have h:=of_decide_eq_false h
  have k:=of_decide_eq_false k
  unfold x3Y at *; omega)
def y1t(x:SA S):List Value:=[.int .i64 x.1.at_,.int .i64 x.1.rule]
theorem x3q:w5W (fun x:SA S=>r4W.cells x.1) y1t 2 where
 x0j:=fun _=>rfl
 x7D:=fun _=>rfl
 one:=fun x v hv=>by
  simp only[y1t,List.mem_cons,List.not_mem_nil,or_false]at hv
  rcases hv with rfl|rfl<;>rfl
 to:=fun w μ st x j h v hv=>by
  have h5:j<2:=h
  match j,h5 with
  |0,_=>exact u0F hv
  |1,_=>exact u0F hv
 fro:=fun w μ st x j h=>by
  have h5:j<2:=h
  match j,h5 with
  |0,_=>exact u0a _ _ _ _ _
  |1,_=>exact u0a _ _ _ _ _
end
theorem w8I{c s:Nat}(hs:s=x6z.f 6)(hc:u3o Tryz.prog c=true){G:Gl}(e3:∀x y:r4W,Pure Tryz.prog G c [.agg (r4W.cells x),.agg (r4W.cells y)] (.int .i64 (wr .i64 (x.at_-y.at_)))){st:St}{o g:Nat}{l:List r4W}{full:Bool}(hlk:Am.look st o=some (Ob.arr g 2 16 (rows r4W.cells l)))(hl:l.length<4611686018427387904∧y0l l):
 Am.Spec Tryz.prog G s [.ref full o g 0 l.length,.fn c [] []] st (fun d st'=>d= .tup []∧st'=r5k st [(o,Ob.arr g 2 16 (rows r4W.cells (u6t x9i l)))]):=by
 subst hs
 have e2:u3o Tryz.prog (x6z.f 6)=true:=by kernel_rfl
 obtain⟨hl,h1,h2⟩:=hl
 let S:List r4W:=if l=[]then [default]else l
 have hS1:∀x∈S,0≤x.at_∧x.at_≤1000000:=fun x hx=>by
  simp only[S]at hx
  split at hx
  ·rw[List.mem_singleton]at hx;subst hx;decide
  ·exact h1 x hx
 have hS2:∀x∈S,∀y∈S,x.at_=y.at_→x=y:=fun x hx y hy e=>by
  simp only[S]at hx hy
  split at hx
  ·rename_i hn
   rw[if_pos hn]at hy
   rw[List.mem_singleton]at hx hy;rw[hx,hy]
  ·rename_i hn
   rw[if_neg hn]at hy
   obtain⟨i,hi,rfl⟩:=List.getElem_of_mem hx
   obtain⟨j,hj,rfl⟩:=List.getElem_of_mem hy
   have e2:(l.map (·.at_))[i]'(by simpa using hi)=(l.map (·.at_))[j]'(by simpa using hj):=by simpa using e
   have:=(List.getElem_inj h2).1 e2
   subst this;rfl
 have hmem:∀x∈l,x∈S:=fun x hx=>by
  simp only[S]
  split
  ·rename_i hn;rw[hn]at hx;cases hx
  ·exact hx
 have hne:∃x,x∈S:=by
  simp only[S]
  split
  ·exact⟨default,by simp⟩
  ·rename_i hn
   cases l with
   |nil=>exact absurd rfl hn
   |cons a _=>exact⟨a,List.mem_cons_self ..⟩
 obtain⟨x0,hx0⟩:=hne
 letI:Inhabited (SA S):=⟨⟨x0,hx0⟩⟩
 let lS:List (SA S):=l.pmap (fun x h=>⟨x,h⟩) hmem
 have hmap:lS.map Subtype.val=l:=by
  simp only[lS,List.map_pmap]
  exact List.pmap_eq_self.2 fun _ _=>rfl
 have hlen:lS.length=l.length:=by simp[lS]
 have hrow:∀m:List (SA S),rows (fun x:SA S=>r4W.cells x.1) m=rows r4W.cells (m.map Subtype.val):=fun m=>by
  simp only[rows,List.map_map];rfl
 have key:=x0k (P:=Tryz.prog) (G:=G) (full:=full) (ρ:=x6z) (k:=2) (b:=16) (cf:=x3Y (S:=S)) (l:=lS) (gen:=g) (o:=o) (st:=st) (g:=c) x3o x5y x3p x3q (by decide) w7Z hc e2 (fun x y=>by
  have h:=e3 x.1 y.1
  have a:=hS1 x.1 x.2
  have b:=hS1 y.1 y.2
  rw[u0Y (by omega) (by omega)]at h
  exact h) (by rw[hrow,hmap];exact hlk) (by rw[hlen];exact hl)
 rw[hlen]at key
 refine key.mono fun d st' ⟨a,b⟩=>⟨a,?_⟩
 rw[b,x2F w7Z (fun x y p q=>Subtype.ext (hS2 x.1 x.2 y.1 y.2 (by unfold x3Y at p q;omega))),hrow,show(u6t x3Y lS).map Subtype.val=u6t x9i l from(w5h (c:=x3Y) (d:=x9i) Subtype.val (fun _ _=>rfl) lS).trans (by rw[hmap])]
end Go.Proofs.YtfacbpehlibilaaGreatDoor
