import Derived.Shelf.Strconv.Itoa3
import Derived.Test.YtahjhbkhcaphgaaGreatDoorFTBase
set_option linter.unusedVariables false
set_option linter.unusedSimpArgs false
namespace Go.Proofs.YtahjhbkhcaphgaaGreatDoor
open Go Go.Am Go.Shelf
def Le:Ren:=⟨fun x=>if x=125 then 88 else if x=128 then 109 else if x=129 then 110 else if x=171 then 85 else if x=190 then 57 else if x=194 then 58 else if x=243 then 99 else if x=246 then 114 else if x=258 then 87 else if x=283 then 121 else if x=284 then 122 else if x=285 then 123 else if x=286 then 124 else if x=302 then 100 else if x=303 then 101 else if x=304 then 102 else if x=305 then 103 else if x=306 then 104 else if x=307 then 105 else if x=308 then 106 else if x=309 then 107 else if x=310 then 108 else if x=317 then 126 else if x=318 then 127 else if x=319 then 128 else if x=320 then 129 else if x=329 then 116 else if x=330 then 117 else if x=333 then 115 else if x=334 then 118 else if x=335 then 119 else if x=336 then 120 else if x=337 then 130 else if x=338 then 131 else if x=344 then 125 else x,
 fun x=>if x=31 then 22 else if x=37 then 81 else if x=46 then 137 else if x=51 then 156 else if x=53 then 158 else if x=131 then 153 else if x=171 then 172 else if x=173 then 174 else if x=182 then 148 else if x=183 then 149 else if x=212 then 180 else if x=213 then 181 else if x=218 then 162 else if x=222 then 166 else if x=228 then 176 else if x=229 then 177 else if x=232 then 183 else if x=233 then 184 else x,fun x=>if x=1 then 0 else if x=3 then 1 else if x=4 then 2 else if x=17 then 3 else if x=18 then 4 else if x=19 then 5 else x⟩
theorem Fz:Go.Proofs.Lays.n190 Tryz.prog Le where
 mixed:=follows
 f125:=Tryz.func88.trans (by kernel_rfl)
 f128:=Tryz.func109.trans (by kernel_rfl)
 f129:=Tryz.func110.trans (by kernel_rfl)
 f190:=Tryz.func57.trans (by kernel_rfl)
 f258:=Tryz.func87.trans (by kernel_rfl)
 f302:=Tryz.func100.trans (by kernel_rfl)
 f303:=Tryz.func101.trans (by kernel_rfl)
 f304:=Tryz.func102.trans (by kernel_rfl)
 f305:=Tryz.func103.trans (by kernel_rfl)
 f306:=Tryz.func104.trans (by kernel_rfl)
 f307:=Tryz.func105.trans (by kernel_rfl)
 f308:=Tryz.func106.trans (by kernel_rfl)
 f309:=Tryz.func107.trans (by kernel_rfl)
 f310:=Tryz.func108.trans (by kernel_rfl)
 f329:=Tryz.func116.trans (by kernel_rfl)
 f330:=Tryz.func117.trans (by kernel_rfl)
 f333:=Tryz.func115.trans (by kernel_rfl)
 f334:=Tryz.func118.trans (by kernel_rfl)
 f335:=Tryz.func119.trans (by kernel_rfl)
 f336:=Tryz.func120.trans (by kernel_rfl)
 f344:=Tryz.func125.trans (by kernel_rfl)
 t0:=Tryz.underlying0
 a0:=Tryz.isAgg0
 z0:=Tryz.sizeOf0
 v0:=Tryz.zeroValue0
 t3:=Tryz.underlying3
 a3:=Tryz.isAgg3
 z3:=Tryz.sizeOf3
 v3:=Tryz.zeroValue3
 t4:=Tryz.underlying4
 a4:=Tryz.isAgg4
 z4:=Tryz.sizeOf4
 v4:=Tryz.zeroValue4
 t5:=Tryz.underlying5
 a5:=Tryz.isAgg5
 z5:=Tryz.sizeOf5
 v5:=Tryz.zeroValue5
 t9:=Tryz.underlying9
 a9:=Tryz.isAgg9
 z9:=Tryz.sizeOf9
 v9:=Tryz.zeroValue9
 t31:=Tryz.underlying22
 a31:=Tryz.isAgg22
 z31:=Tryz.sizeOf22
 v31:=Tryz.zeroValue22
 t46:=Tryz.underlying137
 a46:=Tryz.isAgg137
 z46:=Tryz.sizeOf137
 v46:=Tryz.zeroValue137
 t51:=Tryz.underlying156
 a51:=Tryz.isAgg156
 z51:=Tryz.sizeOf156
 v51:=Tryz.zeroValue156
 t53:=Tryz.underlying158
 a53:=Tryz.isAgg158
 z53:=Tryz.sizeOf158
 v53:=Tryz.zeroValue158
 t131:=Tryz.underlying153
 a131:=Tryz.isAgg153
 z131:=Tryz.sizeOf153
 v131:=Tryz.zeroValue153
 t182:=Tryz.underlying148
 a182:=Tryz.isAgg148
 z182:=Tryz.sizeOf148
 v182:=Tryz.zeroValue148
 t183:=Tryz.underlying149
 a183:=Tryz.isAgg149
 z183:=Tryz.sizeOf149
 v183:=Tryz.zeroValue149
 t218:=Tryz.underlying162
 a218:=Tryz.isAgg162
 z218:=Tryz.sizeOf162
 v218:=Tryz.zeroValue162
 t222:=Tryz.underlying166
 a222:=Tryz.isAgg166
 z222:=Tryz.sizeOf166
 v222:=Tryz.zeroValue166
 t228:=Tryz.underlying176
 a228:=Tryz.isAgg176
 z228:=Tryz.sizeOf176
 v228:=Tryz.zeroValue176
 t229:=Tryz.underlying177
 a229:=Tryz.isAgg177
 z229:=Tryz.sizeOf177
 v229:=Tryz.zeroValue177
theorem FC:Go.Proofs.Lays.n194 Tryz.prog Le where
 mixed:=follows
 f194:=Tryz.func58.trans (by kernel_rfl)
 t0:=Tryz.underlying0
 a0:=Tryz.isAgg0
 z0:=Tryz.sizeOf0
 v0:=Tryz.zeroValue0
 t3:=Tryz.underlying3
 a3:=Tryz.isAgg3
 z3:=Tryz.sizeOf3
 v3:=Tryz.zeroValue3
 t4:=Tryz.underlying4
 a4:=Tryz.isAgg4
 z4:=Tryz.sizeOf4
 v4:=Tryz.zeroValue4
 t9:=Tryz.underlying9
 a9:=Tryz.isAgg9
 z9:=Tryz.sizeOf9
 v9:=Tryz.zeroValue9
 t31:=Tryz.underlying22
 a31:=Tryz.isAgg22
 z31:=Tryz.sizeOf22
 v31:=Tryz.zeroValue22
theorem FD:Go.Proofs.LaysM.n171 Tryz.prog Le where
 mixed:=follows
 f129:=Tryz.func110.trans (by kernel_rfl)
 f171:=Tryz.func85.trans (by kernel_rfl)
 f243:=Tryz.func99.trans (by kernel_rfl)
 f246:=Tryz.func114.trans (by kernel_rfl)
 f283:=Tryz.func121.trans (by kernel_rfl)
 f284:=Tryz.func122.trans (by kernel_rfl)
 f285:=Tryz.func123.trans (by kernel_rfl)
 f286:=Tryz.func124.trans (by kernel_rfl)
 f317:=Tryz.func126.trans (by kernel_rfl)
 f318:=Tryz.func127.trans (by kernel_rfl)
 f319:=Tryz.func128.trans (by kernel_rfl)
 f320:=Tryz.func129.trans (by kernel_rfl)
 f337:=Tryz.func130.trans (by kernel_rfl)
 f338:=Tryz.func131.trans (by kernel_rfl)
 t0:=Tryz.underlying0
 a0:=Tryz.isAgg0
 z0:=Tryz.sizeOf0
 v0:=Tryz.zeroValue0
 t2:=Tryz.underlying2
 a2:=Tryz.isAgg2
 z2:=Tryz.sizeOf2
 v2:=Tryz.zeroValue2
 t3:=Tryz.underlying3
 a3:=Tryz.isAgg3
 z3:=Tryz.sizeOf3
 v3:=Tryz.zeroValue3
 t4:=Tryz.underlying4
 a4:=Tryz.isAgg4
 z4:=Tryz.sizeOf4
 v4:=Tryz.zeroValue4
 t5:=Tryz.underlying5
 a5:=Tryz.isAgg5
 z5:=Tryz.sizeOf5
 v5:=Tryz.zeroValue5
 t9:=Tryz.underlying9
 a9:=Tryz.isAgg9
 z9:=Tryz.sizeOf9
 v9:=Tryz.zeroValue9
 t20:=Tryz.underlying20
 a20:=Tryz.isAgg20
 z20:=Tryz.sizeOf20
 v20:=Tryz.zeroValue20
 t37:=Tryz.underlying81
 a37:=Tryz.isAgg81
 z37:=Tryz.sizeOf81
 v37:=Tryz.zeroValue81
 t46:=Tryz.underlying137
 a46:=Tryz.isAgg137
 z46:=Tryz.sizeOf137
 v46:=Tryz.zeroValue137
 t51:=Tryz.underlying156
 a51:=Tryz.isAgg156
 z51:=Tryz.sizeOf156
 v51:=Tryz.zeroValue156
 t53:=Tryz.underlying158
 a53:=Tryz.isAgg158
 z53:=Tryz.sizeOf158
 v53:=Tryz.zeroValue158
 t171:=Tryz.underlying172
 a171:=Tryz.isAgg172
 z171:=Tryz.sizeOf172
 v171:=Tryz.zeroValue172
 t173:=Tryz.underlying174
 a173:=Tryz.isAgg174
 z173:=Tryz.sizeOf174
 v173:=Tryz.zeroValue174
 t212:=Tryz.underlying180
 a212:=Tryz.isAgg180
 z212:=Tryz.sizeOf180
 v212:=Tryz.zeroValue180
 t213:=Tryz.underlying181
 a213:=Tryz.isAgg181
 z213:=Tryz.sizeOf181
 t232:=Tryz.underlying183
 a232:=Tryz.isAgg183
 z232:=Tryz.sizeOf183
 v232:=Tryz.zeroValue183
 t233:=Tryz.underlying184
 a233:=Tryz.isAgg184
 z233:=Tryz.sizeOf184
 v233:=Tryz.zeroValue184
 g17:=by kernel_rfl
 g18:=by kernel_rfl
 g19:=by kernel_rfl
 i0:=by kernel_rfl
 i2:=by kernel_rfl
 i3:=by kernel_rfl
 i4:=by kernel_rfl
 i5:=by kernel_rfl
 i9:=by kernel_rfl
 i20:=by kernel_rfl
 i37:=by kernel_rfl
 i46:=by kernel_rfl
 i51:=by kernel_rfl
 i53:=by kernel_rfl
 i171:=by kernel_rfl
 i173:=by kernel_rfl
 i212:=by kernel_rfl
 i232:=by kernel_rfl
 i233:=by kernel_rfl
 m17:=by kernel_rfl
 m18:=by kernel_rfl
 m19:=by kernel_rfl
def itoa(a0:Int):Option Bs:=chk (-9223372036854775808≤a0∧a0≤9223372036854775807) (some (Lib.itoa a0))
theorem FE{w:World}{μ:Mu}{st:St}(hg:Glob gl w μ st):Lib.TabIs Tryz.prog w "internal/strconv.uint64pow10" .u64 Lib.pow10Tab:=by
 obtain⟨_,_,ty,fr,h⟩:=hg.all 3 _ rfl
 unfold Lib.TabIs World.var?
 rw[show Tryz.prog.globalNamed "internal/strconv.uint64pow10" =some 3 by kernel_rfl]
 show(match w.heap[3]? with|some (.cells cs _ _)=>some cs| _=>none)=_
 rw[h]
theorem FH(a0:Int)(r:Bs)(h:itoa a0=some r):Pure Tryz.prog gl 85 [.int .i64 a0] (.str r):=by
 intro st
 obtain⟨⟨h0,h1⟩,h⟩:=Br h
 cases h
 refine⟨trivial,fun w μ vs hs hg hn hv=>?_⟩
 have e0:=aN (hv 0 (by simp))
 obtain⟨v,rfl⟩:=qU (show vs.size=1 by simpa using hn)
 obtain rfl:v= .int .i64 a0:=e0
 refine .inl ⟨by unfold fB;rw[Tryz.func85];kernel_rfl,?_⟩
 refine(Any.strconv_Itoa FD a0 h0 h1 w (FE hg)).mono fun e w' ⟨h1,k,os,h2⟩=>?_
 subst h2
 have g:=jh (w':=Sort.grow (w.drewN k) os) hs (by simp[Sort.grow,World.drewN]) rfl rfl ⟨rfl,Dr.le (by simp[Sort.grow,World.drewN])⟩ (fun j hj=>by
  show(w.heap++os)[j]? =_
  rw[Array.getElem?_append_left hj])
 refine⟨_,_,st,μ,h1,⟨rfl,rfl⟩,g.1,g.2,?_⟩
 exact iF _ _ _ (Lib.itoa a0)
end Go.Proofs.YtahjhbkhcaphgaaGreatDoor
