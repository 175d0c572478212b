import GoSem.PinnedTables
import Derived.Test.YtonfgoanbllceaaGreatDoorAAm3
set_option linter.unusedVariables false
set_option linter.unusedSimpArgs false
namespace Go.Proofs.YtonfgoanbllceaaGreatDoor
open Go Go.Am
structure y3 where
 name:Bs
 of_:Int
 value:Int
instance:Inhabited y3:=⟨⟨default,default,default⟩⟩
def y3.cells(x:y3):List D:=[.str x.name,.int .i64 x.of_,.int .i64 x.value]
instance:dN y3.cells 3:=⟨fun _=>rfl,fun _=>rfl,fun _=>rfl⟩
theorem y3.D8(x:y3):y3.cells x=[.str x.name,.int .i64 x.of_,.int .i64 x.value]:=rfl
theorem y3.get_eq(l:List y3)(k:Nat):(rows y3.cells l).getD k [.str [],.int .i64 0,.int .i64 0]=y3.cells (get l k):=H8 (E:=y3.cells) l k
attribute [go_sem] y3.D8 y3.get_eq
structure w8 where
 name:Bs
 parents:(List Int)
instance:Inhabited w8:=⟨⟨default,default⟩⟩
def w8.cells(x:w8):List D:=[.str x.name,.sl false 1 8 (rows N3 x.parents)]
instance:dN w8.cells 2:=⟨fun _=>rfl,fun _=>rfl,fun _=>rfl⟩
theorem w8.D8(x:w8):w8.cells x=[.str x.name,.sl false 1 8 (rows N3 x.parents)]:=rfl
theorem w8.get_eq(l:List w8)(k:Nat):(rows w8.cells l).getD k [.str [],.sl false 1 8 []]=w8.cells (get l k):=H8 (E:=w8.cells) l k
attribute [go_sem] w8.D8 w8.get_eq
structure w5 where
 types:(List w8)
 B1:(List y3)
instance:Inhabited w5:=⟨⟨default,default⟩⟩
def w5.cells(x:w5):List D:=[.sl false 2 40 (rows w8.cells x.types),.sl false 3 32 (rows y3.cells x.B1)]
instance:dN w5.cells 2:=⟨fun _=>rfl,fun _=>rfl,fun _=>rfl⟩
theorem w5.D8(x:w5):w5.cells x=[.sl false 2 40 (rows w8.cells x.types),.sl false 3 32 (rows y3.cells x.B1)]:=rfl
theorem w5.get_eq(l:List w5)(k:Nat):(rows w5.cells l).getD k [.sl false 2 40 [],.sl false 3 32 []]=w5.cells (get l k):=H8 (E:=w5.cells) l k
attribute [go_sem] w5.D8 w5.get_eq
structure D3 where
 hJ:Int
 to_:Int
instance:Inhabited D3:=⟨⟨default,default⟩⟩
def D3.cells(x:D3):List D:=[.int .i64 x.hJ,.int .i64 x.to_]
instance:dN D3.cells 2:=⟨fun _=>rfl,fun _=>rfl,fun _=>rfl⟩
theorem D3.D8(x:D3):D3.cells x=[.int .i64 x.hJ,.int .i64 x.to_]:=rfl
theorem D3.get_eq(l:List D3)(k:Nat):(rows D3.cells l).getD k [.int .i64 0,.int .i64 0]=D3.cells (get l k):=H8 (E:=D3.cells) l k
attribute [go_sem] D3.D8 D3.get_eq
structure x5 where
 type:Int
 links:(List D3)
instance:Inhabited x5:=⟨⟨default,default⟩⟩
def x5.cells(x:x5):List D:=[.int .i64 x.type,.sl false 2 16 (rows D3.cells x.links)]
instance:dN x5.cells 2:=⟨fun _=>rfl,fun _=>rfl,fun _=>rfl⟩
theorem x5.D8(x:x5):x5.cells x=[.int .i64 x.type,.sl false 2 16 (rows D3.cells x.links)]:=rfl
theorem x5.get_eq(l:List x5)(k:Nat):(rows x5.cells l).getD k [.int .i64 0,.sl false 2 16 []]=x5.cells (get l k):=H8 (E:=x5.cells) l k
attribute [go_sem] x5.D8 x5.get_eq
structure y5 where
 nodes:(List x5)
instance:Inhabited y5:=⟨⟨default⟩⟩
def y5.cells(x:y5):List D:=[.sl false 2 32 (rows x5.cells x.nodes)]
instance:dN y5.cells 1:=⟨fun _=>rfl,fun _=>rfl,fun _=>rfl⟩
theorem y5.D8(x:y5):y5.cells x=[.sl false 2 32 (rows x5.cells x.nodes)]:=rfl
theorem y5.get_eq(l:List y5)(k:Nat):(rows y5.cells l).getD k [.sl false 2 32 []]=y5.cells (get l k):=H8 (E:=y5.cells) l k
attribute [go_sem] y5.D8 y5.get_eq
inductive u0 where
 |mk (base:Bs) (args:(List u0))
def u0.base:u0→Bs
 | .mk x _=>x
@[simp,go_sem] theorem u0.tR(base:Bs)(args:(List u0)):(u0.mk base args).base=base:=rfl
def u0.args:u0→(List u0)
 | .mk _ x=>x
@[simp,go_sem] theorem u0.nW(base:Bs)(args:(List u0)):(u0.mk base args).args=args:=rfl
instance:Inhabited u0:=⟨.mk default default⟩
mutual
def u0.cells:u0→List D
 | .mk Sk MY=>[.str Sk,.sl false 2 40 (u0.zZ MY)]
def u0.zZ:List u0→List (List D)
 | []=>[]
 |x::l=>x.cells::u0.zZ l
end
theorem u0.sD:∀l:List u0,u0.zZ l=rows u0.cells l
 | []=>rfl
 |x::l=>by simp only[u0.zZ,HX,u0.sD l]
instance:dN u0.cells 2:=⟨fun x=>by cases x;rfl,fun x=>by cases x;rfl,fun x=>by cases x;rfl⟩
theorem u0.D8(x:u0):u0.cells x=[.str x.base,.sl false 2 40 (rows u0.cells x.args)]:=by
 cases x
 simp only[u0.cells,u0.sD]
 rfl
theorem u0.get_eq(l:List u0)(k:Nat):(rows u0.cells l).getD k [.str [],.sl false 2 40 []]=u0.cells (get l k):=by
 rw[←H8 (E:=u0.cells) l k,u0.D8];rfl
attribute [go_sem] u0.D8 u0.get_eq
inductive w6 where
 |mk (kind:Int) (name:Bs) (index:Int) (type:u0) (args:(List w6))
def w6.kind:w6→Int
 | .mk x _ _ _ _=>x
@[simp,go_sem] theorem w6.Ir(kind:Int)(name:Bs)(index:Int)(type:u0)(args:(List w6)):(w6.mk kind name index type args).kind=kind:=rfl
def w6.name:w6→Bs
 | .mk _ x _ _ _=>x
@[simp,go_sem] theorem w6.Iu(kind:Int)(name:Bs)(index:Int)(type:u0)(args:(List w6)):(w6.mk kind name index type args).name=name:=rfl
def w6.index:w6→Int
 | .mk _ _ x _ _=>x
@[simp,go_sem] theorem w6.EX(kind:Int)(name:Bs)(index:Int)(type:u0)(args:(List w6)):(w6.mk kind name index type args).index=index:=rfl
def w6.type:w6→u0
 | .mk _ _ _ x _=>x
@[simp,go_sem] theorem w6.Iv(kind:Int)(name:Bs)(index:Int)(type:u0)(args:(List w6)):(w6.mk kind name index type args).type=type:=rfl
def w6.args:w6→(List w6)
 | .mk _ _ _ _ x=>x
@[simp,go_sem] theorem w6.nW(kind:Int)(name:Bs)(index:Int)(type:u0)(args:(List w6)):(w6.mk kind name index type args).args=args:=rfl
instance:Inhabited w6:=⟨.mk default default default default default⟩
mutual
def w6.cells:w6→List D
 | .mk Sl Sm Qe Qf MY=>[.int .i64 Sl,.str Sm,.int .i64 Qe,.str Qf.base,.sl false 2 40 (rows u0.cells Qf.args),.sl false 6 96 (w6.zZ MY)]
def w6.zZ:List w6→List (List D)
 | []=>[]
 |x::l=>x.cells::w6.zZ l
end
theorem w6.sD:∀l:List w6,w6.zZ l=rows w6.cells l
 | []=>rfl
 |x::l=>by simp only[w6.zZ,HX,w6.sD l]
instance:dN w6.cells 6:=⟨fun x=>by cases x;rfl,fun x=>by cases x;rfl,fun x=>by cases x;rfl⟩
theorem w6.D8(x:w6):w6.cells x=[.int .i64 x.kind,.str x.name,.int .i64 x.index,.str x.type.base,.sl false 2 40 (rows u0.cells x.type.args),.sl false 6 96 (rows w6.cells x.args)]:=by
 cases x
 simp only[w6.cells,w6.sD]
 rfl
theorem w6.get_eq(l:List w6)(k:Nat):(rows w6.cells l).getD k [.int .i64 0,.str [],.int .i64 0,.str [],.sl false 2 40 [],.sl false 6 96 []]=w6.cells (get l k):=by
 rw[←H8 (E:=w6.cells) l k,w6.D8];rfl
attribute [go_sem] w6.D8 w6.get_eq
structure w4 where
 name:Bs
 graph:y5
 kids:Int
 weight:Int
 meaning:w6
instance:Inhabited w4:=⟨⟨default,default,default,default,default⟩⟩
def w4.cells(x:w4):List D:=[.str x.name,.sl false 2 32 (rows x5.cells x.graph.nodes),.int .i64 x.kids,.int .i64 x.weight,.int .i64 x.meaning.kind,.str x.meaning.name,.int .i64 x.meaning.index,.str x.meaning.type.base,.sl false 2 40 (rows u0.cells x.meaning.type.args),.sl false 6 96 (rows w6.cells x.meaning.args)]
instance:dN w4.cells 10:=⟨fun _=>rfl,fun _=>rfl,fun _=>rfl⟩
theorem w4.D8(x:w4):w4.cells x=[.str x.name,.sl false 2 32 (rows x5.cells x.graph.nodes),.int .i64 x.kids,.int .i64 x.weight,.int .i64 x.meaning.kind,.str x.meaning.name,.int .i64 x.meaning.index,.str x.meaning.type.base,.sl false 2 40 (rows u0.cells x.meaning.type.args),.sl false 6 96 (rows w6.cells x.meaning.args)]:=rfl
theorem w4.get_eq(l:List w4)(k:Nat):(rows w4.cells l).getD k [.str [],.sl false 2 32 [],.int .i64 0,.int .i64 0,.int .i64 0,.str [],.int .i64 0,.str [],.sl false 2 40 [],.sl false 6 96 []]=w4.cells (get l k):=H8 (E:=w4.cells) l k
attribute [go_sem] w4.D8 w4.get_eq
structure x7 where
 word:Bs
 graph:y5
 weight:Int
 meaning:w6
instance:Inhabited x7:=⟨⟨default,default,default,default⟩⟩
def x7.cells(x:x7):List D:=[.str x.word,.sl false 2 32 (rows x5.cells x.graph.nodes),.int .i64 x.weight,.int .i64 x.meaning.kind,.str x.meaning.name,.int .i64 x.meaning.index,.str x.meaning.type.base,.sl false 2 40 (rows u0.cells x.meaning.type.args),.sl false 6 96 (rows w6.cells x.meaning.args)]
instance:dN x7.cells 9:=⟨fun _=>rfl,fun _=>rfl,fun _=>rfl⟩
theorem x7.D8(x:x7):x7.cells x=[.str x.word,.sl false 2 32 (rows x5.cells x.graph.nodes),.int .i64 x.weight,.int .i64 x.meaning.kind,.str x.meaning.name,.int .i64 x.meaning.index,.str x.meaning.type.base,.sl false 2 40 (rows u0.cells x.meaning.type.args),.sl false 6 96 (rows w6.cells x.meaning.args)]:=rfl
theorem x7.get_eq(l:List x7)(k:Nat):(rows x7.cells l).getD k [.str [],.sl false 2 32 [],.int .i64 0,.int .i64 0,.str [],.int .i64 0,.str [],.sl false 2 40 [],.sl false 6 96 []]=x7.cells (get l k):=H8 (E:=x7.cells) l k
attribute [go_sem] x7.D8 x7.get_eq
structure x9 where
 hierarchy:w5
 rules:(List w4)
 y9:(List x7)
 start:y5
instance:Inhabited x9:=⟨⟨default,default,default,default⟩⟩
def x9.cells(x:x9):List D:=[.sl false 2 40 (rows w8.cells x.hierarchy.types),.sl false 3 32 (rows y3.cells x.hierarchy.B1),.sl false 10 152 (rows w4.cells x.rules),.sl false 9 144 (rows x7.cells x.y9),.sl false 2 32 (rows x5.cells x.start.nodes)]
instance:dN x9.cells 5:=⟨fun _=>rfl,fun _=>rfl,fun _=>rfl⟩
theorem x9.D8(x:x9):x9.cells x=[.sl false 2 40 (rows w8.cells x.hierarchy.types),.sl false 3 32 (rows y3.cells x.hierarchy.B1),.sl false 10 152 (rows w4.cells x.rules),.sl false 9 144 (rows x7.cells x.y9),.sl false 2 32 (rows x5.cells x.start.nodes)]:=rfl
theorem x9.get_eq(l:List x9)(k:Nat):(rows x9.cells l).getD k [.sl false 2 40 [],.sl false 3 32 [],.sl false 10 152 [],.sl false 9 144 [],.sl false 2 32 []]=x9.cells (get l k):=H8 (E:=x9.cells) l k
attribute [go_sem] x9.D8 x9.get_eq
structure A8 where
 keep:Int
 drop:Int
 put:(List w4)
instance:Inhabited A8:=⟨⟨default,default,default⟩⟩
def A8.cells(x:A8):List D:=[.int .i64 x.keep,.int .i64 x.drop,.sl false 10 152 (rows w4.cells x.put)]
instance:dN A8.cells 3:=⟨fun _=>rfl,fun _=>rfl,fun _=>rfl⟩
theorem A8.D8(x:A8):A8.cells x=[.int .i64 x.keep,.int .i64 x.drop,.sl false 10 152 (rows w4.cells x.put)]:=rfl
theorem A8.get_eq(l:List A8)(k:Nat):(rows A8.cells l).getD k [.int .i64 0,.int .i64 0,.sl false 10 152 []]=A8.cells (get l k):=H8 (E:=A8.cells) l k
attribute [go_sem] A8.D8 A8.get_eq
structure B9 where
 keep:Int
 drop:Int
 put:(List x7)
instance:Inhabited B9:=⟨⟨default,default,default⟩⟩
def B9.cells(x:B9):List D:=[.int .i64 x.keep,.int .i64 x.drop,.sl false 9 144 (rows x7.cells x.put)]
instance:dN B9.cells 3:=⟨fun _=>rfl,fun _=>rfl,fun _=>rfl⟩
theorem B9.D8(x:B9):B9.cells x=[.int .i64 x.keep,.int .i64 x.drop,.sl false 9 144 (rows x7.cells x.put)]:=rfl
theorem B9.get_eq(l:List B9)(k:Nat):(rows B9.cells l).getD k [.int .i64 0,.int .i64 0,.sl false 9 144 []]=B9.cells (get l k):=H8 (E:=B9.cells) l k
attribute [go_sem] B9.D8 B9.get_eq
structure B4 where
 hierarchy:(List w5)
 start:(List y5)
 rules:(List A8)
 y9:(List B9)
instance:Inhabited B4:=⟨⟨default,default,default,default⟩⟩
def B4.cells(x:B4):List D:=[.sl false 2 48 (rows w5.cells x.hierarchy),.sl false 1 24 (rows y5.cells x.start),.sl false 3 40 (rows A8.cells x.rules),.sl false 3 40 (rows B9.cells x.y9)]
instance:dN B4.cells 4:=⟨fun _=>rfl,fun _=>rfl,fun _=>rfl⟩
theorem B4.D8(x:B4):B4.cells x=[.sl false 2 48 (rows w5.cells x.hierarchy),.sl false 1 24 (rows y5.cells x.start),.sl false 3 40 (rows A8.cells x.rules),.sl false 3 40 (rows B9.cells x.y9)]:=rfl
theorem B4.get_eq(l:List B4)(k:Nat):(rows B4.cells l).getD k [.sl false 2 48 [],.sl false 1 24 [],.sl false 3 40 [],.sl false 3 40 []]=B4.cells (get l k):=H8 (E:=B4.cells) l k
attribute [go_sem] B4.D8 B4.get_eq
structure x6 where
 code:Int
 index:Int
instance:Inhabited x6:=⟨⟨default,default⟩⟩
def x6.cells(x:x6):List D:=[.int .i64 x.code,.int .i64 x.index]
instance:dN x6.cells 2:=⟨fun _=>rfl,fun _=>rfl,fun _=>rfl⟩
theorem x6.D8(x:x6):x6.cells x=[.int .i64 x.code,.int .i64 x.index]:=rfl
theorem x6.get_eq(l:List x6)(k:Nat):(rows x6.cells l).getD k [.int .i64 0,.int .i64 0]=x6.cells (get l k):=H8 (E:=x6.cells) l k
attribute [go_sem] x6.D8 x6.get_eq
structure w7 where
 keep:Int
 drop:Int
 put:(List w4)
instance:Inhabited w7:=⟨⟨default,default,default⟩⟩
def w7.cells(x:w7):List D:=[.int .i64 x.keep,.int .i64 x.drop,.sl false 10 152 (rows w4.cells x.put)]
instance:dN w7.cells 3:=⟨fun _=>rfl,fun _=>rfl,fun _=>rfl⟩
theorem w7.D8(x:w7):w7.cells x=[.int .i64 x.keep,.int .i64 x.drop,.sl false 10 152 (rows w4.cells x.put)]:=rfl
theorem w7.get_eq(l:List w7)(k:Nat):(rows w7.cells l).getD k [.int .i64 0,.int .i64 0,.sl false 10 152 []]=w7.cells (get l k):=H8 (E:=w7.cells) l k
attribute [go_sem] w7.D8 w7.get_eq
structure w9 where
 keep:Int
 drop:Int
 put:(List x7)
instance:Inhabited w9:=⟨⟨default,default,default⟩⟩
def w9.cells(x:w9):List D:=[.int .i64 x.keep,.int .i64 x.drop,.sl false 9 144 (rows x7.cells x.put)]
instance:dN w9.cells 3:=⟨fun _=>rfl,fun _=>rfl,fun _=>rfl⟩
theorem w9.D8(x:w9):w9.cells x=[.int .i64 x.keep,.int .i64 x.drop,.sl false 9 144 (rows x7.cells x.put)]:=rfl
theorem w9.get_eq(l:List w9)(k:Nat):(rows w9.cells l).getD k [.int .i64 0,.int .i64 0,.sl false 9 144 []]=w9.cells (get l k):=H8 (E:=w9.cells) l k
attribute [go_sem] w9.D8 w9.get_eq
structure B6 where
 up:(List Int)
 down:(List Int)
instance:Inhabited B6:=⟨⟨default,default⟩⟩
def B6.cells(x:B6):List D:=[.sl false 1 8 (rows bP x.up),.sl false 1 8 (rows bP x.down)]
instance:dN B6.cells 2:=⟨fun _=>rfl,fun _=>rfl,fun _=>rfl⟩
theorem B6.D8(x:B6):B6.cells x=[.sl false 1 8 (rows bP x.up),.sl false 1 8 (rows bP x.down)]:=rfl
theorem B6.get_eq(l:List B6)(k:Nat):(rows B6.cells l).getD k [.sl false 1 8 [],.sl false 1 8 []]=B6.cells (get l k):=H8 (E:=B6.cells) l k
attribute [go_sem] B6.D8 B6.get_eq
structure C4 where
 lo:Int
 hi:Int
instance:Inhabited C4:=⟨⟨default,default⟩⟩
def C4.cells(x:C4):List D:=[.int .u8 x.lo,.int .u8 x.hi]
instance:dN C4.cells 2:=⟨fun _=>rfl,fun _=>rfl,fun _=>rfl⟩
theorem C4.D8(x:C4):C4.cells x=[.int .u8 x.lo,.int .u8 x.hi]:=rfl
theorem C4.get_eq(l:List C4)(k:Nat):(rows C4.cells l).getD k [.int .u8 0,.int .u8 0]=C4.cells (get l k):=H8 (E:=C4.cells) l k
attribute [go_sem] C4.D8 C4.get_eq
structure y4 where
 t:w6
 depth:Int
 bound:Int
instance:Inhabited y4:=⟨⟨default,default,default⟩⟩
def y4.cells(x:y4):List D:=[.int .i64 x.t.kind,.str x.t.name,.int .i64 x.t.index,.str x.t.type.base,.sl false 2 40 (rows u0.cells x.t.type.args),.sl false 6 96 (rows w6.cells x.t.args),.int .i64 x.depth,.int .i64 x.bound]
instance:dN y4.cells 8:=⟨fun _=>rfl,fun _=>rfl,fun _=>rfl⟩
theorem y4.D8(x:y4):y4.cells x=[.int .i64 x.t.kind,.str x.t.name,.int .i64 x.t.index,.str x.t.type.base,.sl false 2 40 (rows u0.cells x.t.type.args),.sl false 6 96 (rows w6.cells x.t.args),.int .i64 x.depth,.int .i64 x.bound]:=rfl
theorem y4.get_eq(l:List y4)(k:Nat):(rows y4.cells l).getD k [.int .i64 0,.str [],.int .i64 0,.str [],.sl false 2 40 [],.sl false 6 96 [],.int .i64 0,.int .i64 0]=y4.cells (get l k):=H8 (E:=y4.cells) l k
attribute [go_sem] y4.D8 y4.get_eq
structure y7 where
 s:u0
 depth:Int
instance:Inhabited y7:=⟨⟨default,default⟩⟩
def y7.cells(x:y7):List D:=[.str x.s.base,.sl false 2 40 (rows u0.cells x.s.args),.int .i64 x.depth]
instance:dN y7.cells 3:=⟨fun _=>rfl,fun _=>rfl,fun _=>rfl⟩
theorem y7.D8(x:y7):y7.cells x=[.str x.s.base,.sl false 2 40 (rows u0.cells x.s.args),.int .i64 x.depth]:=rfl
theorem y7.get_eq(l:List y7)(k:Nat):(rows y7.cells l).getD k [.str [],.sl false 2 40 [],.int .i64 0]=y7.cells (get l k):=H8 (E:=y7.cells) l k
attribute [go_sem] y7.D8 y7.get_eq
structure C1 where
 kind:Int
 name:Bs
 typ:u0
 index:Int
 kids:(List Int)
 up:Int
instance:Inhabited C1:=⟨⟨default,default,default,default,default,default⟩⟩
def C1.cells(x:C1):List D:=[.int .i64 x.kind,.str x.name,.str x.typ.base,.sl false 2 40 (rows u0.cells x.typ.args),.int .i64 x.index,.sl false 1 8 (rows N3 x.kids),.int .i64 x.up]
instance:dN C1.cells 7:=⟨fun _=>rfl,fun _=>rfl,fun _=>rfl⟩
theorem C1.D8(x:C1):C1.cells x=[.int .i64 x.kind,.str x.name,.str x.typ.base,.sl false 2 40 (rows u0.cells x.typ.args),.int .i64 x.index,.sl false 1 8 (rows N3 x.kids),.int .i64 x.up]:=rfl
theorem C1.get_eq(l:List C1)(k:Nat):(rows C1.cells l).getD k [.int .i64 0,.str [],.str [],.sl false 2 40 [],.int .i64 0,.sl false 1 8 [],.int .i64 0]=C1.cells (get l k):=H8 (E:=C1.cells) l k
attribute [go_sem] C1.D8 C1.get_eq
def JL:(List Int):=[0,1,56,2,57,49,28,3,61,58,42,50,38,29,17,4,62,47,59,36,45,43,51,22,53,39,33,30,24,18,12,5,63,55,48,27,60,41,37,16,46,35,44,21,52,32,23,11,54,26,40,15,34,20,31,10,25,14,19,9,13,8,7,6]
set_option maxRecDepth 100000 in
theorem KH:JL.length=64:=by rfl
def nu:(List Int):=(Go.Pinned.utf8FirstZ.map fun(n:Nat)=>(n:Int))
set_option maxRecDepth 100000 in
theorem KI:nu.length=256:=by rfl
def rj:(List C4):=[C4.mk 128 191,C4.mk 160 191,C4.mk 128 159,C4.mk 144 191,C4.mk 128 143,C4.mk 0 0,C4.mk 0 0,C4.mk 0 0,C4.mk 0 0,C4.mk 0 0,C4.mk 0 0,C4.mk 0 0,C4.mk 0 0,C4.mk 0 0,C4.mk 0 0,C4.mk 0 0]
set_option maxRecDepth 100000 in
theorem EY:rj.length=16:=by rfl
end Go.Proofs.YtonfgoanbllceaaGreatDoor
