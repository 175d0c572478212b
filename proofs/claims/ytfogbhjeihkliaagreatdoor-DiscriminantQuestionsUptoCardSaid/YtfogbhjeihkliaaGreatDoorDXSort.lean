import Derived.Test.YtfogbhjeihkliaaGreatDoorDXMirrors
set_option linter.unusedVariables false
set_option linter.unusedSimpArgs false
namespace Go.Proofs.YtfogbhjeihkliaaGreatDoor
open Go Go.Am Go.Shelf
theorem gq{P:Program}{f:FuncId}{B F:Func}(h:P.funcs[f]? =some F)(hn:(F.name== "runtime.NumGoroutine")=false)(e:F= { B with name:=F.name }):Go.Proofs.Bears P f B:=⟨F.name,hn,h.trans (congrArg some e)⟩
def Pz:Ren:=⟨fun x=>if x=6 then 53 else if x=14 then 78 else if x=15 then 79 else if x=20 then 102 else if x=21 then 103 else if x=22 then 104 else if x=23 then 105 else if x=24 then 106 else if x=25 then 107 else if x=26 then 108 else if x=27 then 109 else if x=28 then 110 else if x=29 then 111 else if x=46 then 126 else if x=47 then 127 else if x=48 then 128 else if x=49 then 129 else if x=50 then 130 else if x=57 then 141 else x,
 fun x=>if x=22 then 35 else if x=24 then 43 else if x=25 then 110 else if x=39 then 144 else if x=45 then 162 else if x=46 then 163 else if x=50 then 121 else if x=53 then 169 else if x=55 then 158 else if x=66 then 183 else if x=70 then 118 else if x=76 then 204 else if x=77 then 205 else x,fun x=>x⟩
theorem Mj:Go.Proofs.SlLaysF0.n6 Tryz.prog Pz where
 mixed:=follows
 f6:=gq Tryz.func53 (by kernel_rfl) (by kernel_rfl)
 f14:=gq Tryz.func78 (by kernel_rfl) (by kernel_rfl)
 f15:=Tryz.func79.trans (by kernel_rfl)
 f20:=gq Tryz.func102 (by kernel_rfl) (by kernel_rfl)
 f21:=gq Tryz.func103 (by kernel_rfl) (by kernel_rfl)
 f22:=gq Tryz.func104 (by kernel_rfl) (by kernel_rfl)
 f23:=gq Tryz.func105 (by kernel_rfl) (by kernel_rfl)
 f24:=gq Tryz.func106 (by kernel_rfl) (by kernel_rfl)
 f25:=gq Tryz.func107 (by kernel_rfl) (by kernel_rfl)
 f26:=gq Tryz.func108 (by kernel_rfl) (by kernel_rfl)
 f27:=gq Tryz.func109 (by kernel_rfl) (by kernel_rfl)
 f28:=Tryz.func110.trans (by kernel_rfl)
 f29:=Tryz.func111.trans (by kernel_rfl)
 f46:=gq Tryz.func126 (by kernel_rfl) (by kernel_rfl)
 f47:=Tryz.func127.trans (by kernel_rfl)
 f48:=Tryz.func128.trans (by kernel_rfl)
 f49:=gq Tryz.func129 (by kernel_rfl) (by kernel_rfl)
 f50:=gq Tryz.func130 (by kernel_rfl) (by kernel_rfl)
 f57:=gq Tryz.func141 (by kernel_rfl) (by kernel_rfl)
 t0:=Tryz.underlying0
 a0:=Tryz.isAgg0
 z0:=Tryz.sizeOf0
 v0:=Tryz.zeroValue0
 t3:=Tryz.underlying3
 a3:=Tryz.isAgg3
 z3:=Tryz.sizeOf3
 v3:=Tryz.zeroValue3
 t4:=Tryz.underlying4
 a4:=Tryz.isAgg4
 z4:=Tryz.sizeOf4
 v4:=Tryz.zeroValue4
 t5:=Tryz.underlying5
 a5:=Tryz.isAgg5
 z5:=Tryz.sizeOf5
 v5:=Tryz.zeroValue5
 t9:=Tryz.underlying9
 a9:=Tryz.isAgg9
 z9:=Tryz.sizeOf9
 v9:=Tryz.zeroValue9
 t22:=Tryz.underlying35
 a22:=Tryz.isAgg35
 z22:=Tryz.sizeOf35
 v22:=Tryz.zeroValue35
 t25:=Tryz.underlying110
 a25:=Tryz.isAgg110
 z25:=Tryz.sizeOf110
 v25:=Tryz.zeroValue110
 t39:=Tryz.underlying144
 a39:=Tryz.isAgg144
 z39:=Tryz.sizeOf144
 v39:=Tryz.zeroValue144
 t45:=Tryz.underlying162
 a45:=Tryz.isAgg162
 z45:=Tryz.sizeOf162
 v45:=Tryz.zeroValue162
 t46:=Tryz.underlying163
 a46:=Tryz.isAgg163
 z46:=Tryz.sizeOf163
 v46:=Tryz.zeroValue163
 t50:=Tryz.underlying121
 a50:=Tryz.isAgg121
 z50:=Tryz.sizeOf121
 v50:=Tryz.zeroValue121
 t53:=Tryz.underlying169
 a53:=Tryz.isAgg169
 z53:=Tryz.sizeOf169
 v53:=Tryz.zeroValue169
 t55:=Tryz.underlying158
 a55:=Tryz.isAgg158
 z55:=Tryz.sizeOf158
 v55:=Tryz.zeroValue158
 t66:=Tryz.underlying183
 a66:=Tryz.isAgg183
 z66:=Tryz.sizeOf183
 v66:=Tryz.zeroValue183
 t70:=Tryz.underlying118
 a70:=Tryz.isAgg118
 z70:=Tryz.sizeOf118
 v70:=Tryz.zeroValue118
 t76:=Tryz.underlying204
 a76:=Tryz.isAgg204
 z76:=Tryz.sizeOf204
 v76:=Tryz.zeroValue204
 t77:=Tryz.underlying205
 a77:=Tryz.isAgg205
 z77:=Tryz.sizeOf205
 v77:=Tryz.zeroValue205
theorem OQ:∀w,(isAgg (Pz.t 24)).run Tryz.prog w= .ok true w:=Tryz.isAgg43
theorem Mk:∀w,(Go.sizeOf (Pz.t 24)).run Tryz.prog w= .ok 5 w:=Tryz.sizeOf43
def Wn:Ren:=⟨fun x=>if x=4 then 77 else x,
 fun x=>if x=22 then 35 else if x=25 then 43 else x,fun x=>x⟩
theorem LA:Go.Proofs.Lays8.n4 Tryz.prog Wn where
 mixed:=follows
 f4:=gq Tryz.func77 (by kernel_rfl) (by kernel_rfl)
 t0:=Tryz.underlying0
 a0:=Tryz.isAgg0
 z0:=Tryz.sizeOf0
 v0:=Tryz.zeroValue0
 t3:=Tryz.underlying3
 a3:=Tryz.isAgg3
 z3:=Tryz.sizeOf3
 v3:=Tryz.zeroValue3
 t4:=Tryz.underlying4
 a4:=Tryz.isAgg4
 z4:=Tryz.sizeOf4
 v4:=Tryz.zeroValue4
 t9:=Tryz.underlying9
 a9:=Tryz.isAgg9
 z9:=Tryz.sizeOf9
 v9:=Tryz.zeroValue9
 t20:=Tryz.underlying20
 a20:=Tryz.isAgg20
 z20:=Tryz.sizeOf20
 v20:=Tryz.zeroValue20
 t22:=Tryz.underlying35
 a22:=Tryz.isAgg35
 z22:=Tryz.sizeOf35
 v22:=Tryz.zeroValue35
theorem BX(a b:Int):T7 a b=some (Cb a b):=by
 unfold T7 Cb nZ
 by_cases h:a<b
 ·simp[h]
 ·by_cases h2:b<a<;>simp[h,h2]
theorem RO(v1 v2 v3 v4 v5:Int):qz [v1,v2,v3,v4,v5]=some (if v1≠0 then v1 else if v2≠0 then v2 else if v3≠0 then v3 else if v4≠0 then v4 else v5):=by
 unfold qz F2
 by_cases c1:v1=0<;>by_cases c2:v2=0<;>by_cases c3:v3=0<;>by_cases c4:v4=0<;>by_cases c5:v5=0<;>simp[cX,nW,nX,B5,Am.get,c1,c2,c3,c4,c5]
theorem AG(a b:w5):T4 a b=some (jr a b):=by
 unfold T4
 simp only[BX,Option.bind_some,RO]
 rfl
theorem AH{c s:Nat}(hs:s=Pz.f 6)(hc:kE Tryz.prog c=true){G:Gl}(e3:∀x y:w5,Pure Tryz.prog G c [.agg (w5.cells x),.agg (w5.cells y)] (.int .i64 (jr x y))){st:St}{o g:Nat}{l:List w5}(hlk:Am.look st o=some (Ob.arr g 5 40 (rows w5.cells l)))(hl:l.length<4611686018427387904):
 Am.Spec Tryz.prog G s [.ref false o g 0 l.length,.fn c [] []] st (fun d st'=>d= .tup []∧st'=aZ st [(o,Ob.arr g 5 40 (rows w5.cells (kq jr l)))]):=by
 subst hs
 have e2:kE Tryz.prog (Pz.f 6)=true:=by kernel_rfl
 exact Jj (full:=false) (ρ:=Pz) (k:=5) (b:=40) Mj OQ Mk LB (by decide) M8.swo hc e2 e3 hlk hl
end Go.Proofs.YtfogbhjeihkliaaGreatDoor
