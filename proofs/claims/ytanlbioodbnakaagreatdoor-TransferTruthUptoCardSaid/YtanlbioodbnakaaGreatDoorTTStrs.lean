import Derived.Shelf.Strconv.Itoa3
import Derived.Test.YtanlbioodbnakaaGreatDoorTTBase
import Derived.Test.YtanlbioodbnakaaGreatDoorTTAm3
set_option linter.unusedVariables false
set_option linter.unusedSimpArgs false
namespace Go.Proofs.YtanlbioodbnakaaGreatDoor
open Go Go.Am Go.Shelf
def Ri:Ren:=⟨fun x=>if x=125 then 68 else if x=128 then 99 else if x=129 then 100 else if x=171 then 19 else if x=190 then 54 else if x=194 then 55 else if x=243 then 29 else if x=246 then 47 else if x=258 then 75 else if x=283 then 70 else if x=284 then 71 else if x=285 then 72 else if x=286 then 73 else if x=302 then 107 else if x=303 then 108 else if x=304 then 109 else if x=305 then 110 else if x=306 then 111 else if x=307 then 112 else if x=308 then 113 else if x=309 then 114 else if x=310 then 115 else if x=317 then 103 else if x=318 then 104 else if x=319 then 105 else if x=320 then 106 else if x=329 then 127 else if x=330 then 128 else if x=333 then 133 else if x=334 then 134 else if x=335 then 135 else if x=336 then 45 else if x=337 then 131 else if x=338 then 132 else if x=344 then 139 else x,
 fun x=>if x=31 then 26 else if x=37 then 134 else if x=46 then 113 else if x=51 then 165 else if x=53 then 131 else if x=131 then 79 else if x=171 then 130 else if x=173 then 135 else if x=182 then 158 else if x=183 then 159 else if x=212 then 171 else if x=213 then 172 else if x=218 then 187 else if x=222 then 191 else if x=228 then 196 else if x=229 then 197 else if x=232 then 199 else if x=233 then 200 else x,fun x=>if x=17 then 0 else if x=18 then 1 else if x=19 then 2 else x⟩
theorem Lu:Go.Proofs.Lays.n190 Tryz.prog Ri where
 mixed:=follows
 f125:=Tryz.func68.trans (by kernel_rfl)
 f128:=Tryz.func99.trans (by kernel_rfl)
 f129:=Tryz.func100.trans (by kernel_rfl)
 f190:=Tryz.func54.trans (by kernel_rfl)
 f258:=Tryz.func75.trans (by kernel_rfl)
 f302:=Tryz.func107.trans (by kernel_rfl)
 f303:=Tryz.func108.trans (by kernel_rfl)
 f304:=Tryz.func109.trans (by kernel_rfl)
 f305:=Tryz.func110.trans (by kernel_rfl)
 f306:=Tryz.func111.trans (by kernel_rfl)
 f307:=Tryz.func112.trans (by kernel_rfl)
 f308:=Tryz.func113.trans (by kernel_rfl)
 f309:=Tryz.func114.trans (by kernel_rfl)
 f310:=Tryz.func115.trans (by kernel_rfl)
 f329:=Tryz.func127.trans (by kernel_rfl)
 f330:=Tryz.func128.trans (by kernel_rfl)
 f333:=Tryz.func133.trans (by kernel_rfl)
 f334:=Tryz.func134.trans (by kernel_rfl)
 f335:=Tryz.func135.trans (by kernel_rfl)
 f336:=Tryz.func45.trans (by kernel_rfl)
 f344:=Tryz.func139.trans (by kernel_rfl)
 t0:=Tryz.underlying0
 a0:=Tryz.isAgg0
 z0:=Tryz.sizeOf0
 v0:=Tryz.zeroValue0
 t3:=Tryz.underlying3
 a3:=Tryz.isAgg3
 z3:=Tryz.sizeOf3
 v3:=Tryz.zeroValue3
 t4:=Tryz.underlying4
 a4:=Tryz.isAgg4
 z4:=Tryz.sizeOf4
 v4:=Tryz.zeroValue4
 t5:=Tryz.underlying5
 a5:=Tryz.isAgg5
 z5:=Tryz.sizeOf5
 v5:=Tryz.zeroValue5
 t9:=Tryz.underlying9
 a9:=Tryz.isAgg9
 z9:=Tryz.sizeOf9
 v9:=Tryz.zeroValue9
 t31:=Tryz.underlying26
 a31:=Tryz.isAgg26
 z31:=Tryz.sizeOf26
 v31:=Tryz.zeroValue26
 t46:=Tryz.underlying113
 a46:=Tryz.isAgg113
 z46:=Tryz.sizeOf113
 v46:=Tryz.zeroValue113
 t51:=Tryz.underlying165
 a51:=Tryz.isAgg165
 z51:=Tryz.sizeOf165
 v51:=Tryz.zeroValue165
 t53:=Tryz.underlying131
 a53:=Tryz.isAgg131
 z53:=Tryz.sizeOf131
 v53:=Tryz.zeroValue131
 t131:=Tryz.underlying79
 a131:=Tryz.isAgg79
 z131:=Tryz.sizeOf79
 v131:=Tryz.zeroValue79
 t182:=Tryz.underlying158
 a182:=Tryz.isAgg158
 z182:=Tryz.sizeOf158
 v182:=Tryz.zeroValue158
 t183:=Tryz.underlying159
 a183:=Tryz.isAgg159
 z183:=Tryz.sizeOf159
 v183:=Tryz.zeroValue159
 t218:=Tryz.underlying187
 a218:=Tryz.isAgg187
 z218:=Tryz.sizeOf187
 v218:=Tryz.zeroValue187
 t222:=Tryz.underlying191
 a222:=Tryz.isAgg191
 z222:=Tryz.sizeOf191
 v222:=Tryz.zeroValue191
 t228:=Tryz.underlying196
 a228:=Tryz.isAgg196
 z228:=Tryz.sizeOf196
 v228:=Tryz.zeroValue196
 t229:=Tryz.underlying197
 a229:=Tryz.isAgg197
 z229:=Tryz.sizeOf197
 v229:=Tryz.zeroValue197
theorem Lv:Go.Proofs.Lays.n194 Tryz.prog Ri where
 mixed:=follows
 f194:=Tryz.func55.trans (by kernel_rfl)
 t0:=Tryz.underlying0
 a0:=Tryz.isAgg0
 z0:=Tryz.sizeOf0
 v0:=Tryz.zeroValue0
 t3:=Tryz.underlying3
 a3:=Tryz.isAgg3
 z3:=Tryz.sizeOf3
 v3:=Tryz.zeroValue3
 t4:=Tryz.underlying4
 a4:=Tryz.isAgg4
 z4:=Tryz.sizeOf4
 v4:=Tryz.zeroValue4
 t9:=Tryz.underlying9
 a9:=Tryz.isAgg9
 z9:=Tryz.sizeOf9
 v9:=Tryz.zeroValue9
 t31:=Tryz.underlying26
 a31:=Tryz.isAgg26
 z31:=Tryz.sizeOf26
 v31:=Tryz.zeroValue26
theorem Lw:Go.Proofs.LaysM.n171 Tryz.prog Ri where
 mixed:=follows
 f129:=Tryz.func100.trans (by kernel_rfl)
 f171:=Tryz.func19.trans (by kernel_rfl)
 f243:=Tryz.func29.trans (by kernel_rfl)
 f246:=Tryz.func47.trans (by kernel_rfl)
 f283:=Tryz.func70.trans (by kernel_rfl)
 f284:=Tryz.func71.trans (by kernel_rfl)
 f285:=Tryz.func72.trans (by kernel_rfl)
 f286:=Tryz.func73.trans (by kernel_rfl)
 f317:=Tryz.func103.trans (by kernel_rfl)
 f318:=Tryz.func104.trans (by kernel_rfl)
 f319:=Tryz.func105.trans (by kernel_rfl)
 f320:=Tryz.func106.trans (by kernel_rfl)
 f337:=Tryz.func131.trans (by kernel_rfl)
 f338:=Tryz.func132.trans (by kernel_rfl)
 t0:=Tryz.underlying0
 a0:=Tryz.isAgg0
 z0:=Tryz.sizeOf0
 v0:=Tryz.zeroValue0
 t2:=Tryz.underlying2
 a2:=Tryz.isAgg2
 z2:=Tryz.sizeOf2
 v2:=Tryz.zeroValue2
 t3:=Tryz.underlying3
 a3:=Tryz.isAgg3
 z3:=Tryz.sizeOf3
 v3:=Tryz.zeroValue3
 t4:=Tryz.underlying4
 a4:=Tryz.isAgg4
 z4:=Tryz.sizeOf4
 v4:=Tryz.zeroValue4
 t5:=Tryz.underlying5
 a5:=Tryz.isAgg5
 z5:=Tryz.sizeOf5
 v5:=Tryz.zeroValue5
 t9:=Tryz.underlying9
 a9:=Tryz.isAgg9
 z9:=Tryz.sizeOf9
 v9:=Tryz.zeroValue9
 t20:=Tryz.underlying20
 a20:=Tryz.isAgg20
 z20:=Tryz.sizeOf20
 v20:=Tryz.zeroValue20
 t37:=Tryz.underlying134
 a37:=Tryz.isAgg134
 z37:=Tryz.sizeOf134
 v37:=Tryz.zeroValue134
 t46:=Tryz.underlying113
 a46:=Tryz.isAgg113
 z46:=Tryz.sizeOf113
 v46:=Tryz.zeroValue113
 t51:=Tryz.underlying165
 a51:=Tryz.isAgg165
 z51:=Tryz.sizeOf165
 v51:=Tryz.zeroValue165
 t53:=Tryz.underlying131
 a53:=Tryz.isAgg131
 z53:=Tryz.sizeOf131
 v53:=Tryz.zeroValue131
 t171:=Tryz.underlying130
 a171:=Tryz.isAgg130
 z171:=Tryz.sizeOf130
 v171:=Tryz.zeroValue130
 t173:=Tryz.underlying135
 a173:=Tryz.isAgg135
 z173:=Tryz.sizeOf135
 v173:=Tryz.zeroValue135
 t212:=Tryz.underlying171
 a212:=Tryz.isAgg171
 z212:=Tryz.sizeOf171
 v212:=Tryz.zeroValue171
 t213:=Tryz.underlying172
 a213:=Tryz.isAgg172
 z213:=Tryz.sizeOf172
 t232:=Tryz.underlying199
 a232:=Tryz.isAgg199
 z232:=Tryz.sizeOf199
 v232:=Tryz.zeroValue199
 t233:=Tryz.underlying200
 a233:=Tryz.isAgg200
 z233:=Tryz.sizeOf200
 v233:=Tryz.zeroValue200
 g17:=by kernel_rfl
 g18:=by kernel_rfl
 g19:=by kernel_rfl
 i0:=by kernel_rfl
 i2:=by kernel_rfl
 i3:=by kernel_rfl
 i4:=by kernel_rfl
 i5:=by kernel_rfl
 i9:=by kernel_rfl
 i20:=by kernel_rfl
 i37:=by kernel_rfl
 i46:=by kernel_rfl
 i51:=by kernel_rfl
 i53:=by kernel_rfl
 i171:=by kernel_rfl
 i173:=by kernel_rfl
 i212:=by kernel_rfl
 i232:=by kernel_rfl
 i233:=by kernel_rfl
 m17:=by kernel_rfl
 m18:=by kernel_rfl
 m19:=by kernel_rfl
def itoa(a0:Int):Option Bs:=chk (-9223372036854775808≤a0∧a0≤9223372036854775807) (some (Lib.itoa a0))
theorem Lx{w:World}{μ:Mu}{st:St}(hg:Glob gl w μ st):Lib.TabIs Tryz.prog w "internal/strconv.uint64pow10" .u64 Lib.pow10Tab:=by
 obtain⟨_,_,ty,fr,h⟩:=hg.all 0 _ rfl
 unfold Lib.TabIs World.var?
 rw[show Tryz.prog.globalNamed "internal/strconv.uint64pow10" =some 0 by kernel_rfl]
 show(match w.heap[0]? with|some (.cells cs _ _)=>some cs| _=>none)=_
 rw[h]
theorem pS(a0:Int)(r:Bs)(h:itoa a0=some r):Pure Tryz.prog gl 19 [.int .i64 a0] (.str r):=by
 intro st
 obtain⟨⟨h0,h1⟩,h⟩:=Ji h
 cases h
 refine⟨trivial,fun w μ vs hs hg hn hv=>?_⟩
 have e0:=bF (hv 0 (by simp))
 obtain⟨v,rfl⟩:=zI (show vs.size=1 by simpa using hn)
 obtain rfl:v= .int .i64 a0:=e0
 refine .inl ⟨by unfold iP;rw[Tryz.func19];kernel_rfl,?_⟩
 refine(Any.strconv_Itoa Lw a0 h0 h1 w (Lx hg)).mono fun e w' ⟨h1,k,os,h2⟩=>?_
 subst h2
 have g:=vu (w':=Sort.grow (w.drewN k) os) hs (by simp[Sort.grow,World.drewN]) rfl rfl ⟨rfl,by simp[Sort.grow,World.drewN]⟩ (fun j hj=>by
  show(w.heap++os)[j]? =_
  rw[Array.getElem?_append_left hj])
 refine⟨_,_,st,μ,h1,⟨rfl,rfl⟩,g.1,g.2,?_⟩
 exact ru _ _ _ (Lib.itoa a0)
end Go.Proofs.YtanlbioodbnakaaGreatDoor
