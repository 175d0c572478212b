import Derived.Lib.ItoaNum
import Derived.Test.YtfacbpehlibilaaGreatDoorTAData
import Derived.Test.YtfacbpehlibilaaGreatDoorTATy
set_option linter.unusedVariables false
set_option linter.unusedSimpArgs false
namespace Go.Proofs.YtfacbpehlibilaaGreatDoor
open Go Go.Am
def gl:Gl where
 tab:=fun g=>none
 imm:=fun t=>Nat.beq t 28||Nat.beq t 55||Nat.beq t 68||Nat.beq t 93||Nat.beq t 112
 whole:=fun g=>if g=0 then some (Lib.pow10Tab.map fun z=>Value.int .u64 z).toArray else none
@[go_sem] theorem p7E:gl.imm 22=false:=rfl
@[go_sem] theorem p7F:gl.imm 28=true:=rfl
@[go_sem] theorem p7G:gl.imm 29=false:=rfl
@[go_sem] theorem p7H:gl.imm 34=false:=rfl
@[go_sem] theorem p7I:gl.imm 55=true:=rfl
@[go_sem] theorem p7J:gl.imm 68=true:=rfl
@[go_sem] theorem p7K:gl.imm 71=false:=rfl
@[go_sem] theorem p7L:gl.imm 93=true:=rfl
@[go_sem] theorem p6i:gl.imm 109=false:=rfl
@[go_sem] theorem p6j:gl.imm 111=false:=rfl
@[go_sem] theorem p6k:gl.imm 112=true:=rfl
@[go_sem] theorem p6l:gl.imm 132=false:=rfl
@[go_sem] theorem p6m:gl.imm 147=false:=rfl
def gl0:Gl where
 tab:=gl.tab
 imm:=fun _=>false
 whole:=gl.whole
@[go_sem] theorem p9Y(t:TypeId):gl0.imm t=false:=rfl
@[go_sem] theorem p9Z(t:Nat):gl0.tab t=gl.tab t:=rfl
theorem i6G{P:Program}{f:FuncId}{args:List D}{st:St}{R:D→St→Prop}(h:Am.Spec P gl0 f args st R):Am.Spec P gl f args st R:=h
def gl2:Gl where
 tab:=gl.tab
 imm:=fun t=>Nat.beq t 55
 whole:=gl.whole
@[go_sem] theorem r0a(t:Nat):gl2.tab t=gl.tab t:=rfl
@[go_sem] theorem p6n:gl2.imm 22=false:=rfl
@[go_sem] theorem p6o:gl2.imm 28=false:=rfl
@[go_sem] theorem p6p:gl2.imm 29=false:=rfl
@[go_sem] theorem p6q:gl2.imm 34=false:=rfl
@[go_sem] theorem p6r:gl2.imm 55=true:=rfl
@[go_sem] theorem p6s:gl2.imm 68=false:=rfl
@[go_sem] theorem p6t:gl2.imm 71=false:=rfl
@[go_sem] theorem p6u:gl2.imm 93=false:=rfl
@[go_sem] theorem p4K:gl2.imm 109=false:=rfl
@[go_sem] theorem p4L:gl2.imm 111=false:=rfl
@[go_sem] theorem p4M:gl2.imm 112=false:=rfl
@[go_sem] theorem p4N:gl2.imm 132=false:=rfl
@[go_sem] theorem p4O:gl2.imm 147=false:=rfl
@[go_sem] theorem i6H{a b:Nat}{z:List D}{fs:List (Nat×Nat×Bool)}(o:Option Wr):d1R ⟨a,b,z,[.int .i64 0,.str [],.sl false 1 16 [],.sl false 4 72 [],.int .i64 0,.int .i64 0],some (.agg [.int .i64 0,.str [],.WB,.WB,.int .i64 0,.int .i64 0]),.struct fs⟩ (o.map Wr.cells)= .agg (Wr.cells (o.getD default)):=by cases o<;>rfl
@[go_sem] theorem p0d{a b:Nat}{z:List D}{fs:List (Nat×Nat×Bool)}(o:Option Ws):d1R ⟨a,b,z,[.str [],.str [],.int .i64 0,.str [],.sl false 1 16 [],.sl false 4 72 []],some (.agg [.str [],.str [],.int .i64 0,.str [],.WB,.WB]),.struct fs⟩ (o.map Ws.cells)= .agg (Ws.cells (o.getD default)):=by cases o<;>rfl
@[go_sem] theorem p7M{a b e:Nat}{z:List D}(o:Option (List Bs)):d1R ⟨a,b,z,[.sl false 1 16 []],some .WB,.slice e⟩ (o.map (slc 1 16 Wt))= .sl false 1 16 (rows Wt (o.getD default)):=by cases o<;>rfl
@[go_sem] theorem p7N{a b:Nat}{z dd:List D}:d1R ⟨a,b,z,dd,some (.str []),.str⟩ none= .str []:=rfl
@[go_sem] theorem p7O{a b:Nat}{z dd:List D}:d1R ⟨a,b,z,dd,some (.int .i64 0),.int .i64⟩ none= .int .i64 0:=rfl
@[go_sem] theorem p6v{a b:Nat}{z dd:List D}:d1R ⟨a,b,z,dd,some (.bool false),.bool⟩ none= .bool false:=rfl
theorem follows:(Tryz.prog).follows .mixedOrders=true:=by kernel_rfl
end Go.Proofs.YtfacbpehlibilaaGreatDoor
