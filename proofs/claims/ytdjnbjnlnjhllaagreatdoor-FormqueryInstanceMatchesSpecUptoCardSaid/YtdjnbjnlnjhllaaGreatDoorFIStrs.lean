import Derived.Shelf.Strconv.Itoa3
import Derived.Test.YtdjnbjnlnjhllaaGreatDoorFIBase
set_option linter.unusedVariables false
set_option linter.unusedSimpArgs false
namespace Go.Proofs.YtdjnbjnlnjhllaaGreatDoor
open Go Go.Am Go.Shelf
def z6r:Ren:=⟨fun x=>if x=125 then 81 else if x=128 then 94 else if x=129 then 95 else if x=171 then 77 else if x=190 then 67 else if x=194 then 68 else if x=243 then 83 else if x=246 then 96 else if x=258 then 80 else if x=283 then 103 else if x=284 then 104 else if x=285 then 105 else if x=286 then 106 else if x=302 then 85 else if x=303 then 86 else if x=304 then 87 else if x=305 then 88 else if x=306 then 89 else if x=307 then 90 else if x=308 then 91 else if x=309 then 92 else if x=310 then 93 else if x=317 then 108 else if x=318 then 109 else if x=319 then 110 else if x=320 then 111 else if x=329 then 98 else if x=330 then 99 else if x=333 then 97 else if x=334 then 100 else if x=335 then 101 else if x=336 then 102 else if x=337 then 112 else if x=338 then 113 else if x=344 then 107 else x,
 fun x=>if x=31 then 22 else if x=37 then 117 else if x=46 then 120 else if x=51 then 131 else if x=53 then 133 else if x=131 then 128 else if x=171 then 140 else if x=173 then 142 else if x=182 then 123 else if x=183 then 124 else if x=212 then 147 else if x=213 then 148 else if x=218 then 135 else if x=222 then 98 else if x=228 then 144 else if x=229 then 79 else if x=232 then 150 else if x=233 then 151 else x,fun x=>if x=17 then 0 else if x=18 then 1 else if x=19 then 2 else x⟩
theorem z1W:Go.Proofs.Lays.n190 Tryz.prog z6r where
 mixed:=follows
 f125:=Tryz.func81.trans (by kernel_rfl)
 f128:=Tryz.func94.trans (by kernel_rfl)
 f129:=Tryz.func95.trans (by kernel_rfl)
 f190:=Tryz.func67.trans (by kernel_rfl)
 f258:=Tryz.func80.trans (by kernel_rfl)
 f302:=Tryz.func85.trans (by kernel_rfl)
 f303:=Tryz.func86.trans (by kernel_rfl)
 f304:=Tryz.func87.trans (by kernel_rfl)
 f305:=Tryz.func88.trans (by kernel_rfl)
 f306:=Tryz.func89.trans (by kernel_rfl)
 f307:=Tryz.func90.trans (by kernel_rfl)
 f308:=Tryz.func91.trans (by kernel_rfl)
 f309:=Tryz.func92.trans (by kernel_rfl)
 f310:=Tryz.func93.trans (by kernel_rfl)
 f329:=Tryz.func98.trans (by kernel_rfl)
 f330:=Tryz.func99.trans (by kernel_rfl)
 f333:=Tryz.func97.trans (by kernel_rfl)
 f334:=Tryz.func100.trans (by kernel_rfl)
 f335:=Tryz.func101.trans (by kernel_rfl)
 f336:=Tryz.func102.trans (by kernel_rfl)
 f344:=Tryz.func107.trans (by kernel_rfl)
 t0:=Tryz.underlying0
 a0:=Tryz.isAgg0
 z0:=Tryz.sizeOf0
 v0:=Tryz.zeroValue0
 t3:=Tryz.underlying3
 a3:=Tryz.isAgg3
 z3:=Tryz.sizeOf3
 v3:=Tryz.zeroValue3
 t4:=Tryz.underlying4
 a4:=Tryz.isAgg4
 z4:=Tryz.sizeOf4
 v4:=Tryz.zeroValue4
 t5:=Tryz.underlying5
 a5:=Tryz.isAgg5
 z5:=Tryz.sizeOf5
 v5:=Tryz.zeroValue5
 t9:=Tryz.underlying9
 a9:=Tryz.isAgg9
 z9:=Tryz.sizeOf9
 v9:=Tryz.zeroValue9
 t31:=Tryz.underlying22
 a31:=Tryz.isAgg22
 z31:=Tryz.sizeOf22
 v31:=Tryz.zeroValue22
 t46:=Tryz.underlying120
 a46:=Tryz.isAgg120
 z46:=Tryz.sizeOf120
 v46:=Tryz.zeroValue120
 t51:=Tryz.underlying131
 a51:=Tryz.isAgg131
 z51:=Tryz.sizeOf131
 v51:=Tryz.zeroValue131
 t53:=Tryz.underlying133
 a53:=Tryz.isAgg133
 z53:=Tryz.sizeOf133
 v53:=Tryz.zeroValue133
 t131:=Tryz.underlying128
 a131:=Tryz.isAgg128
 z131:=Tryz.sizeOf128
 v131:=Tryz.zeroValue128
 t182:=Tryz.underlying123
 a182:=Tryz.isAgg123
 z182:=Tryz.sizeOf123
 v182:=Tryz.zeroValue123
 t183:=Tryz.underlying124
 a183:=Tryz.isAgg124
 z183:=Tryz.sizeOf124
 v183:=Tryz.zeroValue124
 t218:=Tryz.underlying135
 a218:=Tryz.isAgg135
 z218:=Tryz.sizeOf135
 v218:=Tryz.zeroValue135
 t222:=Tryz.underlying98
 a222:=Tryz.isAgg98
 z222:=Tryz.sizeOf98
 v222:=Tryz.zeroValue98
 t228:=Tryz.underlying144
 a228:=Tryz.isAgg144
 z228:=Tryz.sizeOf144
 v228:=Tryz.zeroValue144
 t229:=Tryz.underlying79
 a229:=Tryz.isAgg79
 z229:=Tryz.sizeOf79
 v229:=Tryz.zeroValue79
theorem z1X:Go.Proofs.Lays.n194 Tryz.prog z6r where
 mixed:=follows
 f194:=Tryz.func68.trans (by kernel_rfl)
 t0:=Tryz.underlying0
 a0:=Tryz.isAgg0
 z0:=Tryz.sizeOf0
 v0:=Tryz.zeroValue0
 t3:=Tryz.underlying3
 a3:=Tryz.isAgg3
 z3:=Tryz.sizeOf3
 v3:=Tryz.zeroValue3
 t4:=Tryz.underlying4
 a4:=Tryz.isAgg4
 z4:=Tryz.sizeOf4
 v4:=Tryz.zeroValue4
 t9:=Tryz.underlying9
 a9:=Tryz.isAgg9
 z9:=Tryz.sizeOf9
 v9:=Tryz.zeroValue9
 t31:=Tryz.underlying22
 a31:=Tryz.isAgg22
 z31:=Tryz.sizeOf22
 v31:=Tryz.zeroValue22
theorem z1Y:Go.Proofs.LaysM.n171 Tryz.prog z6r where
 mixed:=follows
 f129:=Tryz.func95.trans (by kernel_rfl)
 f171:=Tryz.func77.trans (by kernel_rfl)
 f243:=Tryz.func83.trans (by kernel_rfl)
 f246:=Tryz.func96.trans (by kernel_rfl)
 f283:=Tryz.func103.trans (by kernel_rfl)
 f284:=Tryz.func104.trans (by kernel_rfl)
 f285:=Tryz.func105.trans (by kernel_rfl)
 f286:=Tryz.func106.trans (by kernel_rfl)
 f317:=Tryz.func108.trans (by kernel_rfl)
 f318:=Tryz.func109.trans (by kernel_rfl)
 f319:=Tryz.func110.trans (by kernel_rfl)
 f320:=Tryz.func111.trans (by kernel_rfl)
 f337:=Tryz.func112.trans (by kernel_rfl)
 f338:=Tryz.func113.trans (by kernel_rfl)
 t0:=Tryz.underlying0
 a0:=Tryz.isAgg0
 z0:=Tryz.sizeOf0
 v0:=Tryz.zeroValue0
 t2:=Tryz.underlying2
 a2:=Tryz.isAgg2
 z2:=Tryz.sizeOf2
 v2:=Tryz.zeroValue2
 t3:=Tryz.underlying3
 a3:=Tryz.isAgg3
 z3:=Tryz.sizeOf3
 v3:=Tryz.zeroValue3
 t4:=Tryz.underlying4
 a4:=Tryz.isAgg4
 z4:=Tryz.sizeOf4
 v4:=Tryz.zeroValue4
 t5:=Tryz.underlying5
 a5:=Tryz.isAgg5
 z5:=Tryz.sizeOf5
 v5:=Tryz.zeroValue5
 t9:=Tryz.underlying9
 a9:=Tryz.isAgg9
 z9:=Tryz.sizeOf9
 v9:=Tryz.zeroValue9
 t20:=Tryz.underlying20
 a20:=Tryz.isAgg20
 z20:=Tryz.sizeOf20
 v20:=Tryz.zeroValue20
 t37:=Tryz.underlying117
 a37:=Tryz.isAgg117
 z37:=Tryz.sizeOf117
 v37:=Tryz.zeroValue117
 t46:=Tryz.underlying120
 a46:=Tryz.isAgg120
 z46:=Tryz.sizeOf120
 v46:=Tryz.zeroValue120
 t51:=Tryz.underlying131
 a51:=Tryz.isAgg131
 z51:=Tryz.sizeOf131
 v51:=Tryz.zeroValue131
 t53:=Tryz.underlying133
 a53:=Tryz.isAgg133
 z53:=Tryz.sizeOf133
 v53:=Tryz.zeroValue133
 t171:=Tryz.underlying140
 a171:=Tryz.isAgg140
 z171:=Tryz.sizeOf140
 v171:=Tryz.zeroValue140
 t173:=Tryz.underlying142
 a173:=Tryz.isAgg142
 z173:=Tryz.sizeOf142
 v173:=Tryz.zeroValue142
 t212:=Tryz.underlying147
 a212:=Tryz.isAgg147
 z212:=Tryz.sizeOf147
 v212:=Tryz.zeroValue147
 t213:=Tryz.underlying148
 a213:=Tryz.isAgg148
 z213:=Tryz.sizeOf148
 t232:=Tryz.underlying150
 a232:=Tryz.isAgg150
 z232:=Tryz.sizeOf150
 v232:=Tryz.zeroValue150
 t233:=Tryz.underlying151
 a233:=Tryz.isAgg151
 z233:=Tryz.sizeOf151
 v233:=Tryz.zeroValue151
 g17:=by kernel_rfl
 g18:=by kernel_rfl
 g19:=by kernel_rfl
 i0:=by kernel_rfl
 i2:=by kernel_rfl
 i3:=by kernel_rfl
 i4:=by kernel_rfl
 i5:=by kernel_rfl
 i9:=by kernel_rfl
 i20:=by kernel_rfl
 i37:=by kernel_rfl
 i46:=by kernel_rfl
 i51:=by kernel_rfl
 i53:=by kernel_rfl
 i171:=by kernel_rfl
 i173:=by kernel_rfl
 i212:=by kernel_rfl
 i232:=by kernel_rfl
 i233:=by kernel_rfl
 m17:=by kernel_rfl
 m18:=by kernel_rfl
 m19:=by kernel_rfl
def itoa(a0:Int):Option Bs:=chk (-9223372036854775808≤a0∧a0≤9223372036854775807) (some (Lib.itoa a0))
theorem z1Z{w:World}{μ:Mu}{st:St}(hg:Glob gl w μ st):Lib.TabIs Tryz.prog w "internal/strconv.uint64pow10" .u64 Lib.pow10Tab:=by
 obtain⟨_,_,ty,fr,h⟩:=hg.all 0 _ rfl
 unfold Lib.TabIs World.var?
 rw[show Tryz.prog.globalNamed "internal/strconv.uint64pow10" =some 0 by kernel_rfl]
 show(match w.heap[0]? with|some (.cells cs _ _)=>some cs| _=>none)=_
 rw[h]
theorem z2a(a0:Int)(r:Bs)(h:itoa a0=some r):Pure Tryz.prog gl 77 [.int .i64 a0] (.str r):=by
 intro st
 obtain⟨⟨h0,h1⟩,h⟩:=z2r h
 cases h
 refine⟨trivial,fun w μ vs hs hg hn hv=>?_⟩
 have e0:=x1j (hv 0 (by simp))
 obtain⟨v,rfl⟩:=y3B (show vs.size=1 by simpa using hn)
 obtain rfl:v= .int .i64 a0:=e0
 refine .inl ⟨by unfold x6o;rw[Tryz.func77];kernel_rfl,?_⟩
 refine(Any.strconv_Itoa z1Y a0 h0 h1 w (z1Z hg)).mono fun e w' ⟨h1,k,os,h2⟩=>?_
 subst h2
 have g:=y4g (w':=Sort.grow (w.drewN k) os) hs (by simp[Sort.grow,World.drewN]) rfl rfl ⟨rfl,by simp[Sort.grow,World.drewN]⟩ (fun j hj=>by
  show(w.heap++os)[j]? =_
  rw[Array.getElem?_append_left hj])
 refine⟨_,_,st,μ,h1,⟨rfl,rfl⟩,g.1,g.2,?_⟩
 exact x8N _ _ _ (Lib.itoa a0)
end Go.Proofs.YtdjnbjnlnjhllaaGreatDoor
