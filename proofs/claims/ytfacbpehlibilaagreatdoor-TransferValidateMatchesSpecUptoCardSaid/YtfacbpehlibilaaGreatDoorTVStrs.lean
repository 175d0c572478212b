import Derived.Shelf.Strconv.Itoa3
import Derived.Test.YtfacbpehlibilaaGreatDoorTVBase
import Derived.Test.YtfacbpehlibilaaGreatDoorTVAm3
set_option linter.unusedVariables false
set_option linter.unusedSimpArgs false
namespace Go.Proofs.YtfacbpehlibilaaGreatDoor
open Go Go.Am Go.Shelf
def y0D:Ren:=⟨fun x=>if x=125 then 93 else if x=128 then 123 else if x=129 then 124 else if x=171 then 49 else if x=190 then 79 else if x=194 then 80 else if x=243 then 76 else if x=246 then 105 else if x=258 then 107 else if x=283 then 126 else if x=284 then 127 else if x=285 then 128 else if x=286 then 129 else if x=302 then 130 else if x=303 then 131 else if x=304 then 132 else if x=305 then 133 else if x=306 then 134 else if x=307 then 135 else if x=308 then 136 else if x=309 then 137 else if x=310 then 138 else if x=317 then 150 else if x=318 then 151 else if x=319 then 152 else if x=320 then 153 else if x=329 then 145 else if x=330 then 146 else if x=333 then 154 else if x=334 then 155 else if x=335 then 156 else if x=336 then 157 else if x=337 then 160 else if x=338 then 161 else if x=344 then 162 else x,
 fun x=>if x=31 then 28 else if x=37 then 55 else if x=46 then 137 else if x=51 then 172 else if x=53 then 138 else if x=131 then 169 else if x=171 then 175 else if x=173 then 177 else if x=182 then 164 else if x=183 then 165 else if x=212 then 195 else if x=213 then 196 else if x=218 then 188 else if x=222 then 146 else if x=228 then 200 else if x=229 then 201 else if x=232 then 204 else if x=233 then 205 else x,fun x=>if x=17 then 0 else if x=18 then 1 else if x=19 then 2 else x⟩
theorem x5z:Go.Proofs.Lays.n190 Tryz.prog y0D where
 mixed:=follows
 f125:=Tryz.func93.trans (by kernel_rfl)
 f128:=Tryz.func123.trans (by kernel_rfl)
 f129:=Tryz.func124.trans (by kernel_rfl)
 f190:=Tryz.func79.trans (by kernel_rfl)
 f258:=Tryz.func107.trans (by kernel_rfl)
 f302:=Tryz.func130.trans (by kernel_rfl)
 f303:=Tryz.func131.trans (by kernel_rfl)
 f304:=Tryz.func132.trans (by kernel_rfl)
 f305:=Tryz.func133.trans (by kernel_rfl)
 f306:=Tryz.func134.trans (by kernel_rfl)
 f307:=Tryz.func135.trans (by kernel_rfl)
 f308:=Tryz.func136.trans (by kernel_rfl)
 f309:=Tryz.func137.trans (by kernel_rfl)
 f310:=Tryz.func138.trans (by kernel_rfl)
 f329:=Tryz.func145.trans (by kernel_rfl)
 f330:=Tryz.func146.trans (by kernel_rfl)
 f333:=Tryz.func154.trans (by kernel_rfl)
 f334:=Tryz.func155.trans (by kernel_rfl)
 f335:=Tryz.func156.trans (by kernel_rfl)
 f336:=Tryz.func157.trans (by kernel_rfl)
 f344:=Tryz.func162.trans (by kernel_rfl)
 t0:=Tryz.underlying0
 a0:=Tryz.isAgg0
 z0:=Tryz.sizeOf0
 v0:=Tryz.zeroValue0
 t3:=Tryz.underlying3
 a3:=Tryz.isAgg3
 z3:=Tryz.sizeOf3
 v3:=Tryz.zeroValue3
 t4:=Tryz.underlying4
 a4:=Tryz.isAgg4
 z4:=Tryz.sizeOf4
 v4:=Tryz.zeroValue4
 t5:=Tryz.underlying5
 a5:=Tryz.isAgg5
 z5:=Tryz.sizeOf5
 v5:=Tryz.zeroValue5
 t9:=Tryz.underlying9
 a9:=Tryz.isAgg9
 z9:=Tryz.sizeOf9
 v9:=Tryz.zeroValue9
 t31:=Tryz.underlying28
 a31:=Tryz.isAgg28
 z31:=Tryz.sizeOf28
 v31:=Tryz.zeroValue28
 t46:=Tryz.underlying137
 a46:=Tryz.isAgg137
 z46:=Tryz.sizeOf137
 v46:=Tryz.zeroValue137
 t51:=Tryz.underlying172
 a51:=Tryz.isAgg172
 z51:=Tryz.sizeOf172
 v51:=Tryz.zeroValue172
 t53:=Tryz.underlying138
 a53:=Tryz.isAgg138
 z53:=Tryz.sizeOf138
 v53:=Tryz.zeroValue138
 t131:=Tryz.underlying169
 a131:=Tryz.isAgg169
 z131:=Tryz.sizeOf169
 v131:=Tryz.zeroValue169
 t182:=Tryz.underlying164
 a182:=Tryz.isAgg164
 z182:=Tryz.sizeOf164
 v182:=Tryz.zeroValue164
 t183:=Tryz.underlying165
 a183:=Tryz.isAgg165
 z183:=Tryz.sizeOf165
 v183:=Tryz.zeroValue165
 t218:=Tryz.underlying188
 a218:=Tryz.isAgg188
 z218:=Tryz.sizeOf188
 v218:=Tryz.zeroValue188
 t222:=Tryz.underlying146
 a222:=Tryz.isAgg146
 z222:=Tryz.sizeOf146
 v222:=Tryz.zeroValue146
 t228:=Tryz.underlying200
 a228:=Tryz.isAgg200
 z228:=Tryz.sizeOf200
 v228:=Tryz.zeroValue200
 t229:=Tryz.underlying201
 a229:=Tryz.isAgg201
 z229:=Tryz.sizeOf201
 v229:=Tryz.zeroValue201
theorem x5A:Go.Proofs.Lays.n194 Tryz.prog y0D where
 mixed:=follows
 f194:=Tryz.func80.trans (by kernel_rfl)
 t0:=Tryz.underlying0
 a0:=Tryz.isAgg0
 z0:=Tryz.sizeOf0
 v0:=Tryz.zeroValue0
 t3:=Tryz.underlying3
 a3:=Tryz.isAgg3
 z3:=Tryz.sizeOf3
 v3:=Tryz.zeroValue3
 t4:=Tryz.underlying4
 a4:=Tryz.isAgg4
 z4:=Tryz.sizeOf4
 v4:=Tryz.zeroValue4
 t9:=Tryz.underlying9
 a9:=Tryz.isAgg9
 z9:=Tryz.sizeOf9
 v9:=Tryz.zeroValue9
 t31:=Tryz.underlying28
 a31:=Tryz.isAgg28
 z31:=Tryz.sizeOf28
 v31:=Tryz.zeroValue28
theorem x5B:Go.Proofs.LaysM.n171 Tryz.prog y0D where
 mixed:=follows
 f129:=Tryz.func124.trans (by kernel_rfl)
 f171:=Tryz.func49.trans (by kernel_rfl)
 f243:=Tryz.func76.trans (by kernel_rfl)
 f246:=Tryz.func105.trans (by kernel_rfl)
 f283:=Tryz.func126.trans (by kernel_rfl)
 f284:=Tryz.func127.trans (by kernel_rfl)
 f285:=Tryz.func128.trans (by kernel_rfl)
 f286:=Tryz.func129.trans (by kernel_rfl)
 f317:=Tryz.func150.trans (by kernel_rfl)
 f318:=Tryz.func151.trans (by kernel_rfl)
 f319:=Tryz.func152.trans (by kernel_rfl)
 f320:=Tryz.func153.trans (by kernel_rfl)
 f337:=Tryz.func160.trans (by kernel_rfl)
 f338:=Tryz.func161.trans (by kernel_rfl)
 t0:=Tryz.underlying0
 a0:=Tryz.isAgg0
 z0:=Tryz.sizeOf0
 v0:=Tryz.zeroValue0
 t2:=Tryz.underlying2
 a2:=Tryz.isAgg2
 z2:=Tryz.sizeOf2
 v2:=Tryz.zeroValue2
 t3:=Tryz.underlying3
 a3:=Tryz.isAgg3
 z3:=Tryz.sizeOf3
 v3:=Tryz.zeroValue3
 t4:=Tryz.underlying4
 a4:=Tryz.isAgg4
 z4:=Tryz.sizeOf4
 v4:=Tryz.zeroValue4
 t5:=Tryz.underlying5
 a5:=Tryz.isAgg5
 z5:=Tryz.sizeOf5
 v5:=Tryz.zeroValue5
 t9:=Tryz.underlying9
 a9:=Tryz.isAgg9
 z9:=Tryz.sizeOf9
 v9:=Tryz.zeroValue9
 t20:=Tryz.underlying20
 a20:=Tryz.isAgg20
 z20:=Tryz.sizeOf20
 v20:=Tryz.zeroValue20
 t37:=Tryz.underlying55
 a37:=Tryz.isAgg55
 z37:=Tryz.sizeOf55
 v37:=Tryz.zeroValue55
 t46:=Tryz.underlying137
 a46:=Tryz.isAgg137
 z46:=Tryz.sizeOf137
 v46:=Tryz.zeroValue137
 t51:=Tryz.underlying172
 a51:=Tryz.isAgg172
 z51:=Tryz.sizeOf172
 v51:=Tryz.zeroValue172
 t53:=Tryz.underlying138
 a53:=Tryz.isAgg138
 z53:=Tryz.sizeOf138
 v53:=Tryz.zeroValue138
 t171:=Tryz.underlying175
 a171:=Tryz.isAgg175
 z171:=Tryz.sizeOf175
 v171:=Tryz.zeroValue175
 t173:=Tryz.underlying177
 a173:=Tryz.isAgg177
 z173:=Tryz.sizeOf177
 v173:=Tryz.zeroValue177
 t212:=Tryz.underlying195
 a212:=Tryz.isAgg195
 z212:=Tryz.sizeOf195
 v212:=Tryz.zeroValue195
 t213:=Tryz.underlying196
 a213:=Tryz.isAgg196
 z213:=Tryz.sizeOf196
 t232:=Tryz.underlying204
 a232:=Tryz.isAgg204
 z232:=Tryz.sizeOf204
 v232:=Tryz.zeroValue204
 t233:=Tryz.underlying205
 a233:=Tryz.isAgg205
 z233:=Tryz.sizeOf205
 v233:=Tryz.zeroValue205
 g17:=by kernel_rfl
 g18:=by kernel_rfl
 g19:=by kernel_rfl
 i0:=by kernel_rfl
 i2:=by kernel_rfl
 i3:=by kernel_rfl
 i4:=by kernel_rfl
 i5:=by kernel_rfl
 i9:=by kernel_rfl
 i20:=by kernel_rfl
 i37:=by kernel_rfl
 i46:=by kernel_rfl
 i51:=by kernel_rfl
 i53:=by kernel_rfl
 i171:=by kernel_rfl
 i173:=by kernel_rfl
 i212:=by kernel_rfl
 i232:=by kernel_rfl
 i233:=by kernel_rfl
 m17:=by kernel_rfl
 m18:=by kernel_rfl
 m19:=by kernel_rfl
def itoa(a0:Int):Option Bs:=chk (-9223372036854775808≤a0∧a0≤9223372036854775807) (some (Lib.itoa a0))
theorem x5C{w:World}{μ:Mu}{st:St}(hg:Glob gl w μ st):Lib.TabIs Tryz.prog w "internal/strconv.uint64pow10" .u64 Lib.pow10Tab:=by
 obtain⟨_,_,ty,fr,h⟩:=hg.all 0 _ rfl
 unfold Lib.TabIs World.var?
 rw[show Tryz.prog.globalNamed "internal/strconv.uint64pow10" =some 0 by kernel_rfl]
 show(match w.heap[0]? with|some (.cells cs _ _)=>some cs| _=>none)=_
 rw[h]
theorem w1k(a0:Int)(r:Bs)(h:itoa a0=some r):Pure Tryz.prog gl 49 [.int .i64 a0] (.str r):=by
 intro st
 obtain⟨⟨h0,h1⟩,h⟩:=x1I h
 cases h
 refine⟨trivial,fun w μ vs hs hg hn hv=>?_⟩
 have e0:=u0F (hv 0 (by simp))
 obtain⟨v,rfl⟩:=w2Z (show vs.size=1 by simpa using hn)
 obtain rfl:v= .int .i64 a0:=e0
 refine .inl ⟨by unfold u3o;rw[Tryz.func49];kernel_rfl,?_⟩
 refine(Any.strconv_Itoa x5B a0 h0 h1 w (x5C hg)).mono fun e w' ⟨h1,k,os,h2⟩=>?_
 subst h2
 have g:=w2E (w':=Sort.grow (w.drewN k) os) hs (by simp[Sort.grow,World.drewN]) rfl rfl ⟨rfl,by simp[Sort.grow,World.drewN]⟩ (fun j hj=>by
  show(w.heap++os)[j]? =_
  rw[Array.getElem?_append_left hj])
 refine⟨_,_,st,μ,h1,⟨rfl,rfl⟩,g.1,g.2,?_⟩
 exact u9S _ _ _ (Lib.itoa a0)
end Go.Proofs.YtfacbpehlibilaaGreatDoor
