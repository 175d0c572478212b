import Derived.Lib.ItoaNum
import Derived.Test.YtfacbpehlibilaaGreatDoorTVData
import Derived.Test.YtfacbpehlibilaaGreatDoorTVTy
set_option linter.unusedVariables false
set_option linter.unusedSimpArgs false
namespace Go.Proofs.YtfacbpehlibilaaGreatDoor
open Go Go.Am
def gl:Gl where
 tab:=fun g=>none
 imm:=fun t=>Nat.beq t 28||Nat.beq t 55||Nat.beq t 68||Nat.beq t 93||Nat.beq t 112
 whole:=fun g=>if g=0 then some (Lib.pow10Tab.map fun z=>Value.int .u64 z).toArray else none
@[go_sem] theorem x7H:gl.imm 22=false:=rfl
@[go_sem] theorem x7I:gl.imm 28=true:=rfl
@[go_sem] theorem x7J:gl.imm 29=false:=rfl
@[go_sem] theorem x7K:gl.imm 34=false:=rfl
@[go_sem] theorem x7L:gl.imm 55=true:=rfl
@[go_sem] theorem x7M:gl.imm 68=true:=rfl
@[go_sem] theorem x7N:gl.imm 71=false:=rfl
@[go_sem] theorem x7O:gl.imm 93=true:=rfl
@[go_sem] theorem x6i:gl.imm 109=false:=rfl
@[go_sem] theorem x6j:gl.imm 111=false:=rfl
@[go_sem] theorem x6k:gl.imm 112=true:=rfl
@[go_sem] theorem x6l:gl.imm 132=false:=rfl
@[go_sem] theorem x6m:gl.imm 147=false:=rfl
def gl0:Gl where
 tab:=gl.tab
 imm:=fun _=>false
 whole:=gl.whole
@[go_sem] theorem y0h(t:TypeId):gl0.imm t=false:=rfl
@[go_sem] theorem y0i(t:Nat):gl0.tab t=gl.tab t:=rfl
theorem u6K{P:Program}{f:FuncId}{args:List D}{st:St}{R:D→St→Prop}(h:Am.Spec P gl0 f args st R):Am.Spec P gl f args st R:=h
theorem u9N{P:Program}{f:FuncId}{args:List D}{st:St}{R:D→St→Prop}(h:Am.Spec P gl f args st R):Am.Spec P gl0 f args st R:=h
theorem u2x{P:Program}{f:FuncId}{args:List D}{r:D}(h:Pure P gl f args r):Pure P gl0 f args r:=h
def gl2:Gl where
 tab:=gl.tab
 imm:=fun t=>Nat.beq t 55
 whole:=gl.whole
@[go_sem] theorem y0j(t:Nat):gl2.tab t=gl.tab t:=rfl
@[go_sem] theorem x6n:gl2.imm 22=false:=rfl
@[go_sem] theorem x6o:gl2.imm 28=false:=rfl
@[go_sem] theorem x6p:gl2.imm 29=false:=rfl
@[go_sem] theorem x6q:gl2.imm 34=false:=rfl
@[go_sem] theorem x6r:gl2.imm 55=true:=rfl
@[go_sem] theorem x6s:gl2.imm 68=false:=rfl
@[go_sem] theorem x6t:gl2.imm 71=false:=rfl
@[go_sem] theorem x6u:gl2.imm 93=false:=rfl
@[go_sem] theorem x4N:gl2.imm 109=false:=rfl
@[go_sem] theorem x4O:gl2.imm 111=false:=rfl
@[go_sem] theorem x4P:gl2.imm 112=false:=rfl
@[go_sem] theorem x4Q:gl2.imm 132=false:=rfl
@[go_sem] theorem x4R:gl2.imm 147=false:=rfl
@[go_sem] theorem w6Z{a b:Nat}{z:List D}{fs:List (Nat×Nat×Bool)}(o:Option r4Z):u1m ⟨a,b,z,[.int .i64 0,.str [],.sl false 1 16 [],.sl false 4 72 [],.int .i64 0,.int .i64 0],some (.agg [.int .i64 0,.str [],.r5g,.r5g,.int .i64 0,.int .i64 0]),.struct fs⟩ (o.map r4Z.cells)= .agg (r4Z.cells (o.getD default)):=by cases o<;>rfl
@[go_sem] theorem x0p{a b:Nat}{z:List D}{fs:List (Nat×Nat×Bool)}(o:Option r4Y):u1m ⟨a,b,z,[.str [],.str [],.int .i64 0,.str [],.sl false 1 16 [],.sl false 4 72 []],some (.agg [.str [],.str [],.int .i64 0,.str [],.r5g,.r5g]),.struct fs⟩ (o.map r4Y.cells)= .agg (r4Y.cells (o.getD default)):=by cases o<;>rfl
@[go_sem] theorem x7P{a b e:Nat}{z:List D}(o:Option (List Bs)):u1m ⟨a,b,z,[.sl false 1 16 []],some .r5g,.slice e⟩ (o.map (slc 1 16 r4X))= .sl false 1 16 (rows r4X (o.getD default)):=by cases o<;>rfl
@[go_sem] theorem x7Q{a b:Nat}{z dd:List D}:u1m ⟨a,b,z,dd,some (.str []),.str⟩ none= .str []:=rfl
@[go_sem] theorem x7R{a b:Nat}{z dd:List D}:u1m ⟨a,b,z,dd,some (.int .i64 0),.int .i64⟩ none= .int .i64 0:=rfl
@[go_sem] theorem x6v{a b:Nat}{z dd:List D}:u1m ⟨a,b,z,dd,some (.bool false),.bool⟩ none= .bool false:=rfl
theorem follows:(Tryz.prog).follows .mixedOrders=true:=by kernel_rfl
end Go.Proofs.YtfacbpehlibilaaGreatDoor
