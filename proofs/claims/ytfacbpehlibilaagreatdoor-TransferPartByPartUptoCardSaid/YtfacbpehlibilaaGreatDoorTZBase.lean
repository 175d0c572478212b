import Derived.Lib.ItoaNum
import Derived.Test.YtfacbpehlibilaaGreatDoorTZData
import Derived.Test.YtfacbpehlibilaaGreatDoorTZTy
set_option linter.unusedVariables false
set_option linter.unusedSimpArgs false
namespace Go.Proofs.YtfacbpehlibilaaGreatDoor
open Go Go.Am
def gl:Gl where
 tab:=fun g=>none
 imm:=fun t=>Nat.beq t 28||Nat.beq t 55||Nat.beq t 68||Nat.beq t 93||Nat.beq t 112
 whole:=fun g=>if g=0 then some (Lib.pow10Tab.map fun z=>Value.int .u64 z).toArray else none
@[go_sem] theorem NR:gl.imm 22=false:=rfl
@[go_sem] theorem NS:gl.imm 28=true:=rfl
@[go_sem] theorem NT:gl.imm 29=false:=rfl
@[go_sem] theorem NU:gl.imm 34=false:=rfl
@[go_sem] theorem NV:gl.imm 55=true:=rfl
@[go_sem] theorem NW:gl.imm 68=true:=rfl
@[go_sem] theorem NX:gl.imm 71=false:=rfl
@[go_sem] theorem NY:gl.imm 93=true:=rfl
@[go_sem] theorem Mi:gl.imm 109=false:=rfl
@[go_sem] theorem Mj:gl.imm 111=false:=rfl
@[go_sem] theorem Mk:gl.imm 112=true:=rfl
@[go_sem] theorem Ml:gl.imm 132=false:=rfl
@[go_sem] theorem Mn:gl.imm 147=false:=rfl
def gl0:Gl where
 tab:=gl.tab
 imm:=fun _=>false
 whole:=gl.whole
@[go_sem] theorem QD(t:TypeId):gl0.imm t=false:=rfl
@[go_sem] theorem QE(t:Nat):gl0.tab t=gl.tab t:=rfl
theorem BP{P:Program}{f:FuncId}{args:List D}{st:St}{R:D→St→Prop}(h:Am.Spec P gl0 f args st R):Am.Spec P gl f args st R:=h
def gl2:Gl where
 tab:=gl.tab
 imm:=fun t=>Nat.beq t 55
 whole:=gl.whole
@[go_sem] theorem QF(t:Nat):gl2.tab t=gl.tab t:=rfl
theorem Ik{P:Program}{f:FuncId}{args:List D}{st:St}{R:D→St→Prop}(h:Am.Spec P gl2 f args st R):Am.Spec P gl f args st R:=h
theorem eI{P:Program}{f:FuncId}{args:List D}{r:D}(h:Pure P gl f args r):Pure P gl2 f args r:=h
@[go_sem] theorem Mp:gl2.imm 22=false:=rfl
@[go_sem] theorem Mq:gl2.imm 28=false:=rfl
@[go_sem] theorem Mr:gl2.imm 29=false:=rfl
@[go_sem] theorem Ms:gl2.imm 34=false:=rfl
@[go_sem] theorem Mt:gl2.imm 55=true:=rfl
@[go_sem] theorem Mv:gl2.imm 68=false:=rfl
@[go_sem] theorem Mw:gl2.imm 71=false:=rfl
@[go_sem] theorem Mx:gl2.imm 93=false:=rfl
@[go_sem] theorem Kw:gl2.imm 109=false:=rfl
@[go_sem] theorem Kx:gl2.imm 111=false:=rfl
@[go_sem] theorem Ky:gl2.imm 112=false:=rfl
@[go_sem] theorem Kz:gl2.imm 132=false:=rfl
@[go_sem] theorem KA:gl2.imm 147=false:=rfl
@[go_sem] theorem BQ{a b:Nat}{z:List D}{fs:List (Nat×Nat×Bool)}(o:Option w6):ep ⟨a,b,z,[.int .i64 0,.str [],.sl false 1 16 [],.sl false 4 72 [],.int .i64 0,.int .i64 0],some (.agg [.int .i64 0,.str [],.A9,.A9,.int .i64 0,.int .i64 0]),.struct fs⟩ (o.map w6.cells)= .agg (w6.cells (o.getD default)):=by cases o<;>rfl
@[go_sem] theorem Fv{a b:Nat}{z:List D}{fs:List (Nat×Nat×Bool)}(o:Option w5):ep ⟨a,b,z,[.str [],.str [],.int .i64 0,.str [],.sl false 1 16 [],.sl false 4 72 []],some (.agg [.str [],.str [],.int .i64 0,.str [],.A9,.A9]),.struct fs⟩ (o.map w5.cells)= .agg (w5.cells (o.getD default)):=by cases o<;>rfl
@[go_sem] theorem NZ{a b e:Nat}{z:List D}(o:Option (List Bs)):ep ⟨a,b,z,[.sl false 1 16 []],some .A9,.slice e⟩ (o.map (slc 1 16 w7))= .sl false 1 16 (rows w7 (o.getD default)):=by cases o<;>rfl
@[go_sem] theorem Oa{a b:Nat}{z dd:List D}:ep ⟨a,b,z,dd,some (.str []),.str⟩ none= .str []:=rfl
@[go_sem] theorem Oc{a b:Nat}{z dd:List D}:ep ⟨a,b,z,dd,some (.int .i64 0),.int .i64⟩ none= .int .i64 0:=rfl
@[go_sem] theorem Mz{a b:Nat}{z dd:List D}:ep ⟨a,b,z,dd,some (.bool false),.bool⟩ none= .bool false:=rfl
theorem follows:(Tryz.prog).follows .mixedOrders=true:=by kernel_rfl
end Go.Proofs.YtfacbpehlibilaaGreatDoor
