import Derived.Lib.ItoaNum
import Derived.Test.YtfacbpehlibilaaGreatDoorTBData
import Derived.Test.YtfacbpehlibilaaGreatDoorTBTy
set_option linter.unusedVariables false
set_option linter.unusedSimpArgs false
namespace Go.Proofs.YtfacbpehlibilaaGreatDoor
open Go Go.Am
def gl:Gl where
 tab:=fun g=>none
 imm:=fun t=>Nat.beq t 28||Nat.beq t 55||Nat.beq t 68||Nat.beq t 93||Nat.beq t 112
 whole:=fun g=>if g=0 then some (Lib.pow10Tab.map fun z=>Value.int .u64 z).toArray else none
@[go_sem] theorem i7s:gl.imm 22=false:=rfl
@[go_sem] theorem i7t:gl.imm 28=true:=rfl
@[go_sem] theorem i7u:gl.imm 29=false:=rfl
@[go_sem] theorem i7v:gl.imm 34=false:=rfl
@[go_sem] theorem i7w:gl.imm 55=true:=rfl
@[go_sem] theorem i7x:gl.imm 68=true:=rfl
@[go_sem] theorem i7y:gl.imm 71=false:=rfl
@[go_sem] theorem i7z:gl.imm 93=true:=rfl
@[go_sem] theorem i6g:gl.imm 109=false:=rfl
@[go_sem] theorem i6h:gl.imm 111=false:=rfl
@[go_sem] theorem i6i:gl.imm 112=true:=rfl
@[go_sem] theorem i6j:gl.imm 132=false:=rfl
@[go_sem] theorem i6k:gl.imm 147=false:=rfl
def gl0:Gl where
 tab:=gl.tab
 imm:=fun _=>false
 whole:=gl.whole
@[go_sem] theorem i9B(t:TypeId):gl0.imm t=false:=rfl
@[go_sem] theorem i9C(t:Nat):gl0.tab t=gl.tab t:=rfl
theorem d8o{P:Program}{f:FuncId}{args:List D}{st:St}{R:D→St→Prop}(h:Am.Spec P gl0 f args st R):Am.Spec P gl f args st R:=h
@[go_sem] theorem d8p{a b:Nat}{z:List D}{fs:List (Nat×Nat×Bool)}(o:Option OA):Vd ⟨a,b,z,[.int .i64 0,.str [],.sl false 1 16 [],.sl false 4 72 [],.int .i64 0,.int .i64 0],some (.agg [.int .i64 0,.str [],.OI,.OI,.int .i64 0,.int .i64 0]),.struct fs⟩ (o.map OA.cells)= .agg (OA.cells (o.getD default)):=by cases o<;>rfl
@[go_sem] theorem i1f{a b:Nat}{z:List D}{fs:List (Nat×Nat×Bool)}(o:Option OB):Vd ⟨a,b,z,[.str [],.str [],.int .i64 0,.str [],.sl false 1 16 [],.sl false 4 72 []],some (.agg [.str [],.str [],.int .i64 0,.str [],.OI,.OI]),.struct fs⟩ (o.map OB.cells)= .agg (OB.cells (o.getD default)):=by cases o<;>rfl
@[go_sem] theorem i7A{a b e:Nat}{z:List D}(o:Option (List Bs)):Vd ⟨a,b,z,[.sl false 1 16 []],some .OI,.slice e⟩ (o.map (slc 1 16 OC))= .sl false 1 16 (rows OC (o.getD default)):=by cases o<;>rfl
@[go_sem] theorem i7B{a b:Nat}{z dd:List D}:Vd ⟨a,b,z,dd,some (.str []),.str⟩ none= .str []:=rfl
@[go_sem] theorem i7C{a b:Nat}{z dd:List D}:Vd ⟨a,b,z,dd,some (.int .i64 0),.int .i64⟩ none= .int .i64 0:=rfl
@[go_sem] theorem i6l{a b:Nat}{z dd:List D}:Vd ⟨a,b,z,dd,some (.bool false),.bool⟩ none= .bool false:=rfl
theorem follows:(Tryz.prog).follows .mixedOrders=true:=by kernel_rfl
end Go.Proofs.YtfacbpehlibilaaGreatDoor
