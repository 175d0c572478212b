import Derived.Shelf.Strconv.Itoa3
import Derived.Test.YtdjnbjnlnjhllaaDoorFBBase
set_option linter.unusedVariables false
set_option linter.unusedSimpArgs false
namespace Go.Proofs.YtdjnbjnlnjhllaaDoor
open Go Go.Am Go.Shelf
def i5i:Ren:=⟨fun x=>if x=125 then 56 else if x=128 then 75 else if x=129 then 76 else if x=171 then 64 else if x=190 then 43 else if x=194 then 44 else if x=243 then 78 else if x=246 then 85 else if x=258 then 55 else if x=283 then 87 else if x=284 then 88 else if x=285 then 89 else if x=286 then 90 else if x=302 then 66 else if x=303 then 67 else if x=304 then 68 else if x=305 then 69 else if x=306 then 70 else if x=307 then 71 else if x=308 then 72 else if x=309 then 73 else if x=310 then 74 else if x=317 then 91 else if x=318 then 92 else if x=319 then 93 else if x=320 then 94 else if x=329 then 80 else if x=330 then 81 else if x=333 then 79 else if x=334 then 82 else if x=335 then 83 else if x=336 then 84 else if x=337 then 95 else if x=338 then 96 else if x=344 then 86 else x,
 fun x=>if x=31 then 22 else if x=37 then 131 else if x=46 then 93 else if x=51 then 116 else if x=53 then 118 else if x=131 then 113 else if x=171 then 129 else if x=173 then 132 else if x=182 then 108 else if x=183 then 109 else if x=212 then 135 else if x=213 then 136 else if x=218 then 120 else if x=222 then 124 else if x=228 then 127 else if x=229 then 72 else if x=232 then 138 else if x=233 then 139 else x,fun x=>if x=17 then 0 else if x=18 then 1 else if x=19 then 2 else x⟩
theorem i0Y:Go.Proofs.Lays.n190 Tryd.prog i5i where
 mixed:=follows
 f125:=Tryd.func56.trans (by kernel_rfl)
 f128:=Tryd.func75.trans (by kernel_rfl)
 f129:=Tryd.func76.trans (by kernel_rfl)
 f190:=Tryd.func43.trans (by kernel_rfl)
 f258:=Tryd.func55.trans (by kernel_rfl)
 f302:=Tryd.func66.trans (by kernel_rfl)
 f303:=Tryd.func67.trans (by kernel_rfl)
 f304:=Tryd.func68.trans (by kernel_rfl)
 f305:=Tryd.func69.trans (by kernel_rfl)
 f306:=Tryd.func70.trans (by kernel_rfl)
 f307:=Tryd.func71.trans (by kernel_rfl)
 f308:=Tryd.func72.trans (by kernel_rfl)
 f309:=Tryd.func73.trans (by kernel_rfl)
 f310:=Tryd.func74.trans (by kernel_rfl)
 f329:=Tryd.func80.trans (by kernel_rfl)
 f330:=Tryd.func81.trans (by kernel_rfl)
 f333:=Tryd.func79.trans (by kernel_rfl)
 f334:=Tryd.func82.trans (by kernel_rfl)
 f335:=Tryd.func83.trans (by kernel_rfl)
 f336:=Tryd.func84.trans (by kernel_rfl)
 f344:=Tryd.func86.trans (by kernel_rfl)
 t0:=Tryd.underlying0
 a0:=Tryd.isAgg0
 z0:=Tryd.sizeOf0
 v0:=Tryd.zeroValue0
 t3:=Tryd.underlying3
 a3:=Tryd.isAgg3
 z3:=Tryd.sizeOf3
 v3:=Tryd.zeroValue3
 t4:=Tryd.underlying4
 a4:=Tryd.isAgg4
 z4:=Tryd.sizeOf4
 v4:=Tryd.zeroValue4
 t5:=Tryd.underlying5
 a5:=Tryd.isAgg5
 z5:=Tryd.sizeOf5
 v5:=Tryd.zeroValue5
 t9:=Tryd.underlying9
 a9:=Tryd.isAgg9
 z9:=Tryd.sizeOf9
 v9:=Tryd.zeroValue9
 t31:=Tryd.underlying22
 a31:=Tryd.isAgg22
 z31:=Tryd.sizeOf22
 v31:=Tryd.zeroValue22
 t46:=Tryd.underlying93
 a46:=Tryd.isAgg93
 z46:=Tryd.sizeOf93
 v46:=Tryd.zeroValue93
 t51:=Tryd.underlying116
 a51:=Tryd.isAgg116
 z51:=Tryd.sizeOf116
 v51:=Tryd.zeroValue116
 t53:=Tryd.underlying118
 a53:=Tryd.isAgg118
 z53:=Tryd.sizeOf118
 v53:=Tryd.zeroValue118
 t131:=Tryd.underlying113
 a131:=Tryd.isAgg113
 z131:=Tryd.sizeOf113
 v131:=Tryd.zeroValue113
 t182:=Tryd.underlying108
 a182:=Tryd.isAgg108
 z182:=Tryd.sizeOf108
 v182:=Tryd.zeroValue108
 t183:=Tryd.underlying109
 a183:=Tryd.isAgg109
 z183:=Tryd.sizeOf109
 v183:=Tryd.zeroValue109
 t218:=Tryd.underlying120
 a218:=Tryd.isAgg120
 z218:=Tryd.sizeOf120
 v218:=Tryd.zeroValue120
 t222:=Tryd.underlying124
 a222:=Tryd.isAgg124
 z222:=Tryd.sizeOf124
 v222:=Tryd.zeroValue124
 t228:=Tryd.underlying127
 a228:=Tryd.isAgg127
 z228:=Tryd.sizeOf127
 v228:=Tryd.zeroValue127
 t229:=Tryd.underlying72
 a229:=Tryd.isAgg72
 z229:=Tryd.sizeOf72
 v229:=Tryd.zeroValue72
theorem i0Z:Go.Proofs.Lays.n194 Tryd.prog i5i where
 mixed:=follows
 f194:=Tryd.func44.trans (by kernel_rfl)
 t0:=Tryd.underlying0
 a0:=Tryd.isAgg0
 z0:=Tryd.sizeOf0
 v0:=Tryd.zeroValue0
 t3:=Tryd.underlying3
 a3:=Tryd.isAgg3
 z3:=Tryd.sizeOf3
 v3:=Tryd.zeroValue3
 t4:=Tryd.underlying4
 a4:=Tryd.isAgg4
 z4:=Tryd.sizeOf4
 v4:=Tryd.zeroValue4
 t9:=Tryd.underlying9
 a9:=Tryd.isAgg9
 z9:=Tryd.sizeOf9
 v9:=Tryd.zeroValue9
 t31:=Tryd.underlying22
 a31:=Tryd.isAgg22
 z31:=Tryd.sizeOf22
 v31:=Tryd.zeroValue22
theorem i1a:Go.Proofs.LaysM.n171 Tryd.prog i5i where
 mixed:=follows
 f129:=Tryd.func76.trans (by kernel_rfl)
 f171:=Tryd.func64.trans (by kernel_rfl)
 f243:=Tryd.func78.trans (by kernel_rfl)
 f246:=Tryd.func85.trans (by kernel_rfl)
 f283:=Tryd.func87.trans (by kernel_rfl)
 f284:=Tryd.func88.trans (by kernel_rfl)
 f285:=Tryd.func89.trans (by kernel_rfl)
 f286:=Tryd.func90.trans (by kernel_rfl)
 f317:=Tryd.func91.trans (by kernel_rfl)
 f318:=Tryd.func92.trans (by kernel_rfl)
 f319:=Tryd.func93.trans (by kernel_rfl)
 f320:=Tryd.func94.trans (by kernel_rfl)
 f337:=Tryd.func95.trans (by kernel_rfl)
 f338:=Tryd.func96.trans (by kernel_rfl)
 t0:=Tryd.underlying0
 a0:=Tryd.isAgg0
 z0:=Tryd.sizeOf0
 v0:=Tryd.zeroValue0
 t2:=Tryd.underlying2
 a2:=Tryd.isAgg2
 z2:=Tryd.sizeOf2
 v2:=Tryd.zeroValue2
 t3:=Tryd.underlying3
 a3:=Tryd.isAgg3
 z3:=Tryd.sizeOf3
 v3:=Tryd.zeroValue3
 t4:=Tryd.underlying4
 a4:=Tryd.isAgg4
 z4:=Tryd.sizeOf4
 v4:=Tryd.zeroValue4
 t5:=Tryd.underlying5
 a5:=Tryd.isAgg5
 z5:=Tryd.sizeOf5
 v5:=Tryd.zeroValue5
 t9:=Tryd.underlying9
 a9:=Tryd.isAgg9
 z9:=Tryd.sizeOf9
 v9:=Tryd.zeroValue9
 t20:=Tryd.underlying20
 a20:=Tryd.isAgg20
 z20:=Tryd.sizeOf20
 v20:=Tryd.zeroValue20
 t37:=Tryd.underlying131
 a37:=Tryd.isAgg131
 z37:=Tryd.sizeOf131
 v37:=Tryd.zeroValue131
 t46:=Tryd.underlying93
 a46:=Tryd.isAgg93
 z46:=Tryd.sizeOf93
 v46:=Tryd.zeroValue93
 t51:=Tryd.underlying116
 a51:=Tryd.isAgg116
 z51:=Tryd.sizeOf116
 v51:=Tryd.zeroValue116
 t53:=Tryd.underlying118
 a53:=Tryd.isAgg118
 z53:=Tryd.sizeOf118
 v53:=Tryd.zeroValue118
 t171:=Tryd.underlying129
 a171:=Tryd.isAgg129
 z171:=Tryd.sizeOf129
 v171:=Tryd.zeroValue129
 t173:=Tryd.underlying132
 a173:=Tryd.isAgg132
 z173:=Tryd.sizeOf132
 v173:=Tryd.zeroValue132
 t212:=Tryd.underlying135
 a212:=Tryd.isAgg135
 z212:=Tryd.sizeOf135
 v212:=Tryd.zeroValue135
 t213:=Tryd.underlying136
 a213:=Tryd.isAgg136
 z213:=Tryd.sizeOf136
 t232:=Tryd.underlying138
 a232:=Tryd.isAgg138
 z232:=Tryd.sizeOf138
 v232:=Tryd.zeroValue138
 t233:=Tryd.underlying139
 a233:=Tryd.isAgg139
 z233:=Tryd.sizeOf139
 v233:=Tryd.zeroValue139
 g17:=by kernel_rfl
 g18:=by kernel_rfl
 g19:=by kernel_rfl
 i0:=by kernel_rfl
 i2:=by kernel_rfl
 i3:=by kernel_rfl
 i4:=by kernel_rfl
 i5:=by kernel_rfl
 i9:=by kernel_rfl
 i20:=by kernel_rfl
 i37:=by kernel_rfl
 i46:=by kernel_rfl
 i51:=by kernel_rfl
 i53:=by kernel_rfl
 i171:=by kernel_rfl
 i173:=by kernel_rfl
 i212:=by kernel_rfl
 i232:=by kernel_rfl
 i233:=by kernel_rfl
 m17:=by kernel_rfl
 m18:=by kernel_rfl
 m19:=by kernel_rfl
def itoa(a0:Int):Option Bs:=chk (-9223372036854775808≤a0∧a0≤9223372036854775807) (some (Lib.itoa a0))
theorem i1b{w:World}{μ:Mu}{st:St}(hg:Glob gl w μ st):Lib.TabIs Tryd.prog w "internal/strconv.uint64pow10" .u64 Lib.pow10Tab:=by
 obtain⟨_,_,ty,fr,h⟩:=hg.all 0 _ rfl
 unfold Lib.TabIs World.var?
 rw[show Tryd.prog.globalNamed "internal/strconv.uint64pow10" =some 0 by kernel_rfl]
 show(match w.heap[0]? with|some (.cells cs _ _)=>some cs| _=>none)=_
 rw[h]
theorem i1c(a0:Int)(r:Bs)(h:itoa a0=some r):Pure Tryd.prog gl 64 [.int .i64 a0] (.str r):=by
 intro st
 obtain⟨⟨h0,h1⟩,h⟩:=i1t h
 cases h
 refine⟨trivial,fun w μ vs hs hg hn hv=>?_⟩
 have e0:=QO (hv 0 (by simp))
 obtain⟨v,rfl⟩:=d3j (show vs.size=1 by simpa using hn)
 obtain rfl:v= .int .i64 a0:=e0
 refine .inl ⟨by unfold Wc;rw[Tryd.func64];kernel_rfl,?_⟩
 refine(Any.strconv_Itoa i1a a0 h0 h1 w (i1b hg)).mono fun e w' ⟨h1,k,os,h2⟩=>?_
 subst h2
 have g:=d3D (w':=Sort.grow (w.drewN k) os) hs (by simp[Sort.grow,World.drewN]) rfl rfl ⟨rfl,by simp[Sort.grow,World.drewN]⟩ (fun j hj=>by
  show(w.heap++os)[j]? =_
  rw[Array.getElem?_append_left hj])
 refine⟨_,_,st,μ,h1,⟨rfl,rfl⟩,g.1,g.2,?_⟩
 exact Yv _ _ _ (Lib.itoa a0)
end Go.Proofs.YtdjnbjnlnjhllaaDoor
