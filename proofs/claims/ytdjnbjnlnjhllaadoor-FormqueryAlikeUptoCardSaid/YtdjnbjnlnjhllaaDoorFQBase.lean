import Derived.Lib.ItoaNum
import Derived.Test.YtdjnbjnlnjhllaaDoorFQData
import Derived.Test.YtdjnbjnlnjhllaaDoorFQTy
set_option linter.unusedVariables false
set_option linter.unusedSimpArgs false
namespace Go.Proofs.YtdjnbjnlnjhllaaDoor
open Go Go.Am
def gl:Gl where
 tab:=fun g=>none
 imm:=fun t=>Nat.beq t 22||Nat.beq t 61||Nat.beq t 86||Nat.beq t 119||Nat.beq t 131
 whole:=fun g=>if g=0 then some (Lib.pow10Tab.map fun z=>Value.int .u64 z).toArray else none
@[go_sem] theorem Fg:gl.imm 22=true:=rfl
@[go_sem] theorem Fh:gl.imm 23=false:=rfl
@[go_sem] theorem Fi:gl.imm 33=false:=rfl
@[go_sem] theorem Fj:gl.imm 36=false:=rfl
@[go_sem] theorem Fl:gl.imm 59=false:=rfl
@[go_sem] theorem Fm:gl.imm 61=true:=rfl
@[go_sem] theorem Fo:gl.imm 86=true:=rfl
@[go_sem] theorem Fp:gl.imm 96=false:=rfl
@[go_sem] theorem DK:gl.imm 101=false:=rfl
@[go_sem] theorem DL:gl.imm 119=true:=rfl
def gl0:Gl where
 tab:=gl.tab
 imm:=fun _=>false
 whole:=gl.whole
@[go_sem] theorem HJ(t:TypeId):gl0.imm t=false:=rfl
@[go_sem] theorem HK(t:Nat):gl0.tab t=gl.tab t:=rfl
theorem jI{P:Program}{f:FuncId}{args:List D}{st:St}{R:D→St→Prop}(h:Am.Spec P gl0 f args st R):Am.Spec P gl f args st R:=h
theorem pJ{P:Program}{f:FuncId}{args:List D}{st:St}{R:D→St→Prop}(h:Am.Spec P gl f args st R):Am.Spec P gl0 f args st R:=h
theorem lM{P:Program}{f:FuncId}{args:List D}{r:D}(h:Pure P gl f args r):Pure P gl0 f args r:=h
@[go_sem] theorem xR{a b:Nat}{z:List D}{fs:List (Nat×Nat×Bool)}(o:Option u7):fE ⟨a,b,z,[.str [],.str [],.int .i64 0,.str [],.sl false 1 16 [],.sl false 4 72 []],some (.agg [.str [],.str [],.int .i64 0,.str [],.y6,.y6]),.struct fs⟩ (o.map u7.cells)= .agg (u7.cells (o.getD default)):=by cases o<;>rfl
theorem follows:(Tryd.prog).follows .mixedOrders=true:=by kernel_rfl
end Go.Proofs.YtdjnbjnlnjhllaaDoor
