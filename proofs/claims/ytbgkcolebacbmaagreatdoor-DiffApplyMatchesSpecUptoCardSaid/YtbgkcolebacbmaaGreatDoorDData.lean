import GoSem.PinnedTables
import Derived.Test.YtbgkcolebacbmaaGreatDoorDAm3
set_option linter.unusedVariables false
set_option linter.unusedSimpArgs false
namespace Go.Proofs.YtbgkcolebacbmaaGreatDoor
open Go Go.Am
structure y3 where
 name:Bs
 of_:Int
 value:Int
instance:Inhabited y3:=⟨⟨default,default,default⟩⟩
def y3.cells(x:y3):List D:=[.str x.name,.int .i64 x.of_,.int .i64 x.value]
instance:eI y3.cells 3:=⟨fun _=>rfl,fun _=>rfl,fun _=>rfl⟩
theorem y3.D7(x:y3):y3.cells x=[.str x.name,.int .i64 x.of_,.int .i64 x.value]:=rfl
theorem y3.get_eq(l:List y3)(k:Nat):(rows y3.cells l).getD k [.str [],.int .i64 0,.int .i64 0]=y3.cells (get l k):=H8 (E:=y3.cells) l k
attribute [go_sem] y3.D7 y3.get_eq
structure w6 where
 name:Bs
 parents:(List Int)
instance:Inhabited w6:=⟨⟨default,default⟩⟩
def w6.cells(x:w6):List D:=[.str x.name,.sl false 1 8 (rows U5 x.parents)]
instance:eI w6.cells 2:=⟨fun _=>rfl,fun _=>rfl,fun _=>rfl⟩
theorem w6.D7(x:w6):w6.cells x=[.str x.name,.sl false 1 8 (rows U5 x.parents)]:=rfl
theorem w6.get_eq(l:List w6)(k:Nat):(rows w6.cells l).getD k [.str [],.sl false 1 8 []]=w6.cells (get l k):=H8 (E:=w6.cells) l k
attribute [go_sem] w6.D7 w6.get_eq
structure w5 where
 types:(List w6)
 B5:(List y3)
instance:Inhabited w5:=⟨⟨default,default⟩⟩
def w5.cells(x:w5):List D:=[.sl false 2 40 (rows w6.cells x.types),.sl false 3 32 (rows y3.cells x.B5)]
instance:eI w5.cells 2:=⟨fun _=>rfl,fun _=>rfl,fun _=>rfl⟩
theorem w5.D7(x:w5):w5.cells x=[.sl false 2 40 (rows w6.cells x.types),.sl false 3 32 (rows y3.cells x.B5)]:=rfl
theorem w5.get_eq(l:List w5)(k:Nat):(rows w5.cells l).getD k [.sl false 2 40 [],.sl false 3 32 []]=w5.cells (get l k):=H8 (E:=w5.cells) l k
attribute [go_sem] w5.D7 w5.get_eq
structure D4 where
 gG:Int
 to_:Int
instance:Inhabited D4:=⟨⟨default,default⟩⟩
def D4.cells(x:D4):List D:=[.int .i64 x.gG,.int .i64 x.to_]
instance:eI D4.cells 2:=⟨fun _=>rfl,fun _=>rfl,fun _=>rfl⟩
theorem D4.D7(x:D4):D4.cells x=[.int .i64 x.gG,.int .i64 x.to_]:=rfl
theorem D4.get_eq(l:List D4)(k:Nat):(rows D4.cells l).getD k [.int .i64 0,.int .i64 0]=D4.cells (get l k):=H8 (E:=D4.cells) l k
attribute [go_sem] D4.D7 D4.get_eq
structure w8 where
 type:Int
 links:(List D4)
instance:Inhabited w8:=⟨⟨default,default⟩⟩
def w8.cells(x:w8):List D:=[.int .i64 x.type,.sl false 2 16 (rows D4.cells x.links)]
instance:eI w8.cells 2:=⟨fun _=>rfl,fun _=>rfl,fun _=>rfl⟩
theorem w8.D7(x:w8):w8.cells x=[.int .i64 x.type,.sl false 2 16 (rows D4.cells x.links)]:=rfl
theorem w8.get_eq(l:List w8)(k:Nat):(rows w8.cells l).getD k [.int .i64 0,.sl false 2 16 []]=w8.cells (get l k):=H8 (E:=w8.cells) l k
attribute [go_sem] w8.D7 w8.get_eq
structure y4 where
 nodes:(List w8)
instance:Inhabited y4:=⟨⟨default⟩⟩
def y4.cells(x:y4):List D:=[.sl false 2 32 (rows w8.cells x.nodes)]
instance:eI y4.cells 1:=⟨fun _=>rfl,fun _=>rfl,fun _=>rfl⟩
theorem y4.D7(x:y4):y4.cells x=[.sl false 2 32 (rows w8.cells x.nodes)]:=rfl
theorem y4.get_eq(l:List y4)(k:Nat):(rows y4.cells l).getD k [.sl false 2 32 []]=y4.cells (get l k):=H8 (E:=y4.cells) l k
attribute [go_sem] y4.D7 y4.get_eq
inductive u0 where
 |mk (base:Bs) (args:(List u0))
def u0.base:u0→Bs
 | .mk x _=>x
@[simp,go_sem] theorem u0.vK(base:Bs)(args:(List u0)):(u0.mk base args).base=base:=rfl
def u0.args:u0→(List u0)
 | .mk _ x=>x
@[simp,go_sem] theorem u0.qG(base:Bs)(args:(List u0)):(u0.mk base args).args=args:=rfl
instance:Inhabited u0:=⟨.mk default default⟩
mutual
def u0.cells:u0→List D
 | .mk Qe KP=>[.str Qe,.sl false 2 40 (u0.yR KP)]
def u0.yR:List u0→List (List D)
 | []=>[]
 |x::l=>x.cells::u0.yR l
end
theorem u0.rM:∀l:List u0,u0.yR l=rows u0.cells l
 | []=>rfl
 |x::l=>by simp only[u0.yR,FN,u0.rM l]
instance:eI u0.cells 2:=⟨fun x=>by cases x;rfl,fun x=>by cases x;rfl,fun x=>by cases x;rfl⟩
theorem u0.D7(x:u0):u0.cells x=[.str x.base,.sl false 2 40 (rows u0.cells x.args)]:=by
 cases x
 simp only[u0.cells,u0.rM]
 rfl
theorem u0.get_eq(l:List u0)(k:Nat):(rows u0.cells l).getD k [.str [],.sl false 2 40 []]=u0.cells (get l k):=by
 rw[←H8 (E:=u0.cells) l k,u0.D7];rfl
attribute [go_sem] u0.D7 u0.get_eq
inductive w7 where
 |mk (kind:Int) (name:Bs) (index:Int) (type:u0) (args:(List w7))
def w7.kind:w7→Int
 | .mk x _ _ _ _=>x
@[simp,go_sem] theorem w7.KQ(kind:Int)(name:Bs)(index:Int)(type:u0)(args:(List w7)):(w7.mk kind name index type args).kind=kind:=rfl
def w7.name:w7→Bs
 | .mk _ x _ _ _=>x
@[simp,go_sem] theorem w7.KR(kind:Int)(name:Bs)(index:Int)(type:u0)(args:(List w7)):(w7.mk kind name index type args).name=name:=rfl
def w7.index:w7→Int
 | .mk _ _ x _ _=>x
@[simp,go_sem] theorem w7.IC(kind:Int)(name:Bs)(index:Int)(type:u0)(args:(List w7)):(w7.mk kind name index type args).index=index:=rfl
def w7.type:w7→u0
 | .mk _ _ _ x _=>x
@[simp,go_sem] theorem w7.KS(kind:Int)(name:Bs)(index:Int)(type:u0)(args:(List w7)):(w7.mk kind name index type args).type=type:=rfl
def w7.args:w7→(List w7)
 | .mk _ _ _ _ x=>x
@[simp,go_sem] theorem w7.qG(kind:Int)(name:Bs)(index:Int)(type:u0)(args:(List w7)):(w7.mk kind name index type args).args=args:=rfl
instance:Inhabited w7:=⟨.mk default default default default default⟩
mutual
def w7.cells:w7→List D
 | .mk Qf Qg NM NP KP=>[.int .i64 Qf,.str Qg,.int .i64 NM,.str NP.base,.sl false 2 40 (rows u0.cells NP.args),.sl false 6 96 (w7.yR KP)]
def w7.yR:List w7→List (List D)
 | []=>[]
 |x::l=>x.cells::w7.yR l
end
theorem w7.rM:∀l:List w7,w7.yR l=rows w7.cells l
 | []=>rfl
 |x::l=>by simp only[w7.yR,FN,w7.rM l]
instance:eI w7.cells 6:=⟨fun x=>by cases x;rfl,fun x=>by cases x;rfl,fun x=>by cases x;rfl⟩
theorem w7.D7(x:w7):w7.cells x=[.int .i64 x.kind,.str x.name,.int .i64 x.index,.str x.type.base,.sl false 2 40 (rows u0.cells x.type.args),.sl false 6 96 (rows w7.cells x.args)]:=by
 cases x
 simp only[w7.cells,w7.rM]
 rfl
theorem w7.get_eq(l:List w7)(k:Nat):(rows w7.cells l).getD k [.int .i64 0,.str [],.int .i64 0,.str [],.sl false 2 40 [],.sl false 6 96 []]=w7.cells (get l k):=by
 rw[←H8 (E:=w7.cells) l k,w7.D7];rfl
attribute [go_sem] w7.D7 w7.get_eq
structure w4 where
 name:Bs
 graph:y4
 kids:Int
 weight:Int
 meaning:w7
instance:Inhabited w4:=⟨⟨default,default,default,default,default⟩⟩
def w4.cells(x:w4):List D:=[.str x.name,.sl false 2 32 (rows w8.cells x.graph.nodes),.int .i64 x.kids,.int .i64 x.weight,.int .i64 x.meaning.kind,.str x.meaning.name,.int .i64 x.meaning.index,.str x.meaning.type.base,.sl false 2 40 (rows u0.cells x.meaning.type.args),.sl false 6 96 (rows w7.cells x.meaning.args)]
instance:eI w4.cells 10:=⟨fun _=>rfl,fun _=>rfl,fun _=>rfl⟩
theorem w4.D7(x:w4):w4.cells x=[.str x.name,.sl false 2 32 (rows w8.cells x.graph.nodes),.int .i64 x.kids,.int .i64 x.weight,.int .i64 x.meaning.kind,.str x.meaning.name,.int .i64 x.meaning.index,.str x.meaning.type.base,.sl false 2 40 (rows u0.cells x.meaning.type.args),.sl false 6 96 (rows w7.cells x.meaning.args)]:=rfl
theorem w4.get_eq(l:List w4)(k:Nat):(rows w4.cells l).getD k [.str [],.sl false 2 32 [],.int .i64 0,.int .i64 0,.int .i64 0,.str [],.int .i64 0,.str [],.sl false 2 40 [],.sl false 6 96 []]=w4.cells (get l k):=H8 (E:=w4.cells) l k
attribute [go_sem] w4.D7 w4.get_eq
structure x7 where
 word:Bs
 graph:y4
 weight:Int
 meaning:w7
instance:Inhabited x7:=⟨⟨default,default,default,default⟩⟩
def x7.cells(x:x7):List D:=[.str x.word,.sl false 2 32 (rows w8.cells x.graph.nodes),.int .i64 x.weight,.int .i64 x.meaning.kind,.str x.meaning.name,.int .i64 x.meaning.index,.str x.meaning.type.base,.sl false 2 40 (rows u0.cells x.meaning.type.args),.sl false 6 96 (rows w7.cells x.meaning.args)]
instance:eI x7.cells 9:=⟨fun _=>rfl,fun _=>rfl,fun _=>rfl⟩
theorem x7.D7(x:x7):x7.cells x=[.str x.word,.sl false 2 32 (rows w8.cells x.graph.nodes),.int .i64 x.weight,.int .i64 x.meaning.kind,.str x.meaning.name,.int .i64 x.meaning.index,.str x.meaning.type.base,.sl false 2 40 (rows u0.cells x.meaning.type.args),.sl false 6 96 (rows w7.cells x.meaning.args)]:=rfl
theorem x7.get_eq(l:List x7)(k:Nat):(rows x7.cells l).getD k [.str [],.sl false 2 32 [],.int .i64 0,.int .i64 0,.str [],.int .i64 0,.str [],.sl false 2 40 [],.sl false 6 96 []]=x7.cells (get l k):=H8 (E:=x7.cells) l k
attribute [go_sem] x7.D7 x7.get_eq
structure x6 where
 hierarchy:w5
 rules:(List w4)
 y9:(List x7)
 start:y4
instance:Inhabited x6:=⟨⟨default,default,default,default⟩⟩
def x6.cells(x:x6):List D:=[.sl false 2 40 (rows w6.cells x.hierarchy.types),.sl false 3 32 (rows y3.cells x.hierarchy.B5),.sl false 10 152 (rows w4.cells x.rules),.sl false 9 144 (rows x7.cells x.y9),.sl false 2 32 (rows w8.cells x.start.nodes)]
instance:eI x6.cells 5:=⟨fun _=>rfl,fun _=>rfl,fun _=>rfl⟩
theorem x6.D7(x:x6):x6.cells x=[.sl false 2 40 (rows w6.cells x.hierarchy.types),.sl false 3 32 (rows y3.cells x.hierarchy.B5),.sl false 10 152 (rows w4.cells x.rules),.sl false 9 144 (rows x7.cells x.y9),.sl false 2 32 (rows w8.cells x.start.nodes)]:=rfl
theorem x6.get_eq(l:List x6)(k:Nat):(rows x6.cells l).getD k [.sl false 2 40 [],.sl false 3 32 [],.sl false 10 152 [],.sl false 9 144 [],.sl false 2 32 []]=x6.cells (get l k):=H8 (E:=x6.cells) l k
attribute [go_sem] x6.D7 x6.get_eq
structure y7 where
 keep:Int
 drop:Int
 put:(List w4)
instance:Inhabited y7:=⟨⟨default,default,default⟩⟩
def y7.cells(x:y7):List D:=[.int .i64 x.keep,.int .i64 x.drop,.sl false 10 152 (rows w4.cells x.put)]
instance:eI y7.cells 3:=⟨fun _=>rfl,fun _=>rfl,fun _=>rfl⟩
theorem y7.D7(x:y7):y7.cells x=[.int .i64 x.keep,.int .i64 x.drop,.sl false 10 152 (rows w4.cells x.put)]:=rfl
theorem y7.get_eq(l:List y7)(k:Nat):(rows y7.cells l).getD k [.int .i64 0,.int .i64 0,.sl false 10 152 []]=y7.cells (get l k):=H8 (E:=y7.cells) l k
attribute [go_sem] y7.D7 y7.get_eq
structure A9 where
 keep:Int
 drop:Int
 put:(List x7)
instance:Inhabited A9:=⟨⟨default,default,default⟩⟩
def A9.cells(x:A9):List D:=[.int .i64 x.keep,.int .i64 x.drop,.sl false 9 144 (rows x7.cells x.put)]
instance:eI A9.cells 3:=⟨fun _=>rfl,fun _=>rfl,fun _=>rfl⟩
theorem A9.D7(x:A9):A9.cells x=[.int .i64 x.keep,.int .i64 x.drop,.sl false 9 144 (rows x7.cells x.put)]:=rfl
theorem A9.get_eq(l:List A9)(k:Nat):(rows A9.cells l).getD k [.int .i64 0,.int .i64 0,.sl false 9 144 []]=A9.cells (get l k):=H8 (E:=A9.cells) l k
attribute [go_sem] A9.D7 A9.get_eq
structure y8 where
 hierarchy:(List w5)
 start:(List y4)
 rules:(List y7)
 y9:(List A9)
instance:Inhabited y8:=⟨⟨default,default,default,default⟩⟩
def y8.cells(x:y8):List D:=[.sl false 2 48 (rows w5.cells x.hierarchy),.sl false 1 24 (rows y4.cells x.start),.sl false 3 40 (rows y7.cells x.rules),.sl false 3 40 (rows A9.cells x.y9)]
instance:eI y8.cells 4:=⟨fun _=>rfl,fun _=>rfl,fun _=>rfl⟩
theorem y8.D7(x:y8):y8.cells x=[.sl false 2 48 (rows w5.cells x.hierarchy),.sl false 1 24 (rows y4.cells x.start),.sl false 3 40 (rows y7.cells x.rules),.sl false 3 40 (rows A9.cells x.y9)]:=rfl
theorem y8.get_eq(l:List y8)(k:Nat):(rows y8.cells l).getD k [.sl false 2 48 [],.sl false 1 24 [],.sl false 3 40 [],.sl false 3 40 []]=y8.cells (get l k):=H8 (E:=y8.cells) l k
attribute [go_sem] y8.D7 y8.get_eq
structure w9 where
 code:Int
 index:Int
instance:Inhabited w9:=⟨⟨default,default⟩⟩
def w9.cells(x:w9):List D:=[.int .i64 x.code,.int .i64 x.index]
instance:eI w9.cells 2:=⟨fun _=>rfl,fun _=>rfl,fun _=>rfl⟩
theorem w9.D7(x:w9):w9.cells x=[.int .i64 x.code,.int .i64 x.index]:=rfl
theorem w9.get_eq(l:List w9)(k:Nat):(rows w9.cells l).getD k [.int .i64 0,.int .i64 0]=w9.cells (get l k):=H8 (E:=w9.cells) l k
attribute [go_sem] w9.D7 w9.get_eq
structure x5 where
 keep:Int
 drop:Int
 put:(List w4)
instance:Inhabited x5:=⟨⟨default,default,default⟩⟩
def x5.cells(x:x5):List D:=[.int .i64 x.keep,.int .i64 x.drop,.sl false 10 152 (rows w4.cells x.put)]
instance:eI x5.cells 3:=⟨fun _=>rfl,fun _=>rfl,fun _=>rfl⟩
theorem x5.D7(x:x5):x5.cells x=[.int .i64 x.keep,.int .i64 x.drop,.sl false 10 152 (rows w4.cells x.put)]:=rfl
theorem x5.get_eq(l:List x5)(k:Nat):(rows x5.cells l).getD k [.int .i64 0,.int .i64 0,.sl false 10 152 []]=x5.cells (get l k):=H8 (E:=x5.cells) l k
attribute [go_sem] x5.D7 x5.get_eq
structure x9 where
 keep:Int
 drop:Int
 put:(List x7)
instance:Inhabited x9:=⟨⟨default,default,default⟩⟩
def x9.cells(x:x9):List D:=[.int .i64 x.keep,.int .i64 x.drop,.sl false 9 144 (rows x7.cells x.put)]
instance:eI x9.cells 3:=⟨fun _=>rfl,fun _=>rfl,fun _=>rfl⟩
theorem x9.D7(x:x9):x9.cells x=[.int .i64 x.keep,.int .i64 x.drop,.sl false 9 144 (rows x7.cells x.put)]:=rfl
theorem x9.get_eq(l:List x9)(k:Nat):(rows x9.cells l).getD k [.int .i64 0,.int .i64 0,.sl false 9 144 []]=x9.cells (get l k):=H8 (E:=x9.cells) l k
attribute [go_sem] x9.D7 x9.get_eq
structure B7 where
 up:(List Int)
 down:(List Int)
instance:Inhabited B7:=⟨⟨default,default⟩⟩
def B7.cells(x:B7):List D:=[.sl false 1 8 (rows bP x.up),.sl false 1 8 (rows bP x.down)]
instance:eI B7.cells 2:=⟨fun _=>rfl,fun _=>rfl,fun _=>rfl⟩
theorem B7.D7(x:B7):B7.cells x=[.sl false 1 8 (rows bP x.up),.sl false 1 8 (rows bP x.down)]:=rfl
theorem B7.get_eq(l:List B7)(k:Nat):(rows B7.cells l).getD k [.sl false 1 8 [],.sl false 1 8 []]=B7.cells (get l k):=H8 (E:=B7.cells) l k
attribute [go_sem] B7.D7 B7.get_eq
structure y5 where
 t:w7
 depth:Int
 bound:Int
instance:Inhabited y5:=⟨⟨default,default,default⟩⟩
def y5.cells(x:y5):List D:=[.int .i64 x.t.kind,.str x.t.name,.int .i64 x.t.index,.str x.t.type.base,.sl false 2 40 (rows u0.cells x.t.type.args),.sl false 6 96 (rows w7.cells x.t.args),.int .i64 x.depth,.int .i64 x.bound]
instance:eI y5.cells 8:=⟨fun _=>rfl,fun _=>rfl,fun _=>rfl⟩
theorem y5.D7(x:y5):y5.cells x=[.int .i64 x.t.kind,.str x.t.name,.int .i64 x.t.index,.str x.t.type.base,.sl false 2 40 (rows u0.cells x.t.type.args),.sl false 6 96 (rows w7.cells x.t.args),.int .i64 x.depth,.int .i64 x.bound]:=rfl
theorem y5.get_eq(l:List y5)(k:Nat):(rows y5.cells l).getD k [.int .i64 0,.str [],.int .i64 0,.str [],.sl false 2 40 [],.sl false 6 96 [],.int .i64 0,.int .i64 0]=y5.cells (get l k):=H8 (E:=y5.cells) l k
attribute [go_sem] y5.D7 y5.get_eq
structure C4 where
 lo:Int
 hi:Int
instance:Inhabited C4:=⟨⟨default,default⟩⟩
def C4.cells(x:C4):List D:=[.int .u8 x.lo,.int .u8 x.hi]
instance:eI C4.cells 2:=⟨fun _=>rfl,fun _=>rfl,fun _=>rfl⟩
theorem C4.D7(x:C4):C4.cells x=[.int .u8 x.lo,.int .u8 x.hi]:=rfl
theorem C4.get_eq(l:List C4)(k:Nat):(rows C4.cells l).getD k [.int .u8 0,.int .u8 0]=C4.cells (get l k):=H8 (E:=C4.cells) l k
attribute [go_sem] C4.D7 C4.get_eq
structure A0 where
 s:u0
 depth:Int
instance:Inhabited A0:=⟨⟨default,default⟩⟩
def A0.cells(x:A0):List D:=[.str x.s.base,.sl false 2 40 (rows u0.cells x.s.args),.int .i64 x.depth]
instance:eI A0.cells 3:=⟨fun _=>rfl,fun _=>rfl,fun _=>rfl⟩
theorem A0.D7(x:A0):A0.cells x=[.str x.s.base,.sl false 2 40 (rows u0.cells x.s.args),.int .i64 x.depth]:=rfl
theorem A0.get_eq(l:List A0)(k:Nat):(rows A0.cells l).getD k [.str [],.sl false 2 40 [],.int .i64 0]=A0.cells (get l k):=H8 (E:=A0.cells) l k
attribute [go_sem] A0.D7 A0.get_eq
structure C2 where
 kind:Int
 name:Bs
 typ:u0
 index:Int
 kids:(List Int)
 up:Int
instance:Inhabited C2:=⟨⟨default,default,default,default,default,default⟩⟩
def C2.cells(x:C2):List D:=[.int .i64 x.kind,.str x.name,.str x.typ.base,.sl false 2 40 (rows u0.cells x.typ.args),.int .i64 x.index,.sl false 1 8 (rows U5 x.kids),.int .i64 x.up]
instance:eI C2.cells 7:=⟨fun _=>rfl,fun _=>rfl,fun _=>rfl⟩
theorem C2.D7(x:C2):C2.cells x=[.int .i64 x.kind,.str x.name,.str x.typ.base,.sl false 2 40 (rows u0.cells x.typ.args),.int .i64 x.index,.sl false 1 8 (rows U5 x.kids),.int .i64 x.up]:=rfl
theorem C2.get_eq(l:List C2)(k:Nat):(rows C2.cells l).getD k [.int .i64 0,.str [],.str [],.sl false 2 40 [],.int .i64 0,.sl false 1 8 [],.int .i64 0]=C2.cells (get l k):=H8 (E:=C2.cells) l k
attribute [go_sem] C2.D7 C2.get_eq
def Hv:(List Int):=[0,1,56,2,57,49,28,3,61,58,42,50,38,29,17,4,62,47,59,36,45,43,51,22,53,39,33,30,24,18,12,5,63,55,48,27,60,41,37,16,46,35,44,21,52,32,23,11,54,26,40,15,34,20,31,10,25,14,19,9,13,8,7,6]
set_option maxRecDepth 100000 in
theorem IE:Hv.length=64:=by rfl
def mS:(List Int):=(Go.Pinned.utf8FirstZ.map fun(n:Nat)=>(n:Int))
set_option maxRecDepth 100000 in
theorem IG:mS.length=256:=by rfl
def qF:(List C4):=[C4.mk 128 191,C4.mk 160 191,C4.mk 128 159,C4.mk 144 191,C4.mk 128 143,C4.mk 0 0,C4.mk 0 0,C4.mk 0 0,C4.mk 0 0,C4.mk 0 0,C4.mk 0 0,C4.mk 0 0,C4.mk 0 0,C4.mk 0 0,C4.mk 0 0,C4.mk 0 0]
set_option maxRecDepth 100000 in
theorem Dj:qF.length=16:=by rfl
end Go.Proofs.YtbgkcolebacbmaaGreatDoor
