import GoSem.PinnedTables
import Derived.Test.YtoekkdodipnmpaaGreatDoorSAm3
set_option linter.unusedVariables false
set_option linter.unusedSimpArgs false
namespace Go.Proofs.YtoekkdodipnmpaaGreatDoor
open Go Go.Am
structure A0 where
 name:Bs
 of_:Int
 value:Int
instance:Inhabited A0:=⟨⟨default,default,default⟩⟩
def A0.cells(x:A0):List D:=[.str x.name,.int .i64 x.of_,.int .i64 x.value]
instance:bY A0.cells 3:=⟨fun _=>rfl,fun _=>rfl,fun _=>rfl⟩
theorem A0.D1(x:A0):A0.cells x=[.str x.name,.int .i64 x.of_,.int .i64 x.value]:=rfl
theorem A0.get_eq(l:List A0)(k:Nat):(rows A0.cells l).getD k [.str [],.int .i64 0,.int .i64 0]=A0.cells (get l k):=G3 (E:=A0.cells) l k
attribute [go_sem] A0.D1 A0.get_eq
structure x5 where
 name:Bs
 parents:(List Int)
instance:Inhabited x5:=⟨⟨default,default⟩⟩
def x5.cells(x:x5):List D:=[.str x.name,.sl false 1 8 (rows E1 x.parents)]
instance:bY x5.cells 2:=⟨fun _=>rfl,fun _=>rfl,fun _=>rfl⟩
theorem x5.D1(x:x5):x5.cells x=[.str x.name,.sl false 1 8 (rows E1 x.parents)]:=rfl
theorem x5.get_eq(l:List x5)(k:Nat):(rows x5.cells l).getD k [.str [],.sl false 1 8 []]=x5.cells (get l k):=G3 (E:=x5.cells) l k
attribute [go_sem] x5.D1 x5.get_eq
structure x7 where
 types:(List x5)
 C2:(List A0)
instance:Inhabited x7:=⟨⟨default,default⟩⟩
def x7.cells(x:x7):List D:=[.sl false 2 40 (rows x5.cells x.types),.sl false 3 32 (rows A0.cells x.C2)]
instance:bY x7.cells 2:=⟨fun _=>rfl,fun _=>rfl,fun _=>rfl⟩
theorem x7.D1(x:x7):x7.cells x=[.sl false 2 40 (rows x5.cells x.types),.sl false 3 32 (rows A0.cells x.C2)]:=rfl
theorem x7.get_eq(l:List x7)(k:Nat):(rows x7.cells l).getD k [.sl false 2 40 [],.sl false 3 32 []]=x7.cells (get l k):=G3 (E:=x7.cells) l k
attribute [go_sem] x7.D1 x7.get_eq
structure D9 where
 eL:Int
 to_:Int
instance:Inhabited D9:=⟨⟨default,default⟩⟩
def D9.cells(x:D9):List D:=[.int .i64 x.eL,.int .i64 x.to_]
instance:bY D9.cells 2:=⟨fun _=>rfl,fun _=>rfl,fun _=>rfl⟩
theorem D9.D1(x:D9):D9.cells x=[.int .i64 x.eL,.int .i64 x.to_]:=rfl
theorem D9.get_eq(l:List D9)(k:Nat):(rows D9.cells l).getD k [.int .i64 0,.int .i64 0]=D9.cells (get l k):=G3 (E:=D9.cells) l k
attribute [go_sem] D9.D1 D9.get_eq
structure y4 where
 type:Int
 links:(List D9)
instance:Inhabited y4:=⟨⟨default,default⟩⟩
def y4.cells(x:y4):List D:=[.int .i64 x.type,.sl false 2 16 (rows D9.cells x.links)]
instance:bY y4.cells 2:=⟨fun _=>rfl,fun _=>rfl,fun _=>rfl⟩
theorem y4.D1(x:y4):y4.cells x=[.int .i64 x.type,.sl false 2 16 (rows D9.cells x.links)]:=rfl
theorem y4.get_eq(l:List y4)(k:Nat):(rows y4.cells l).getD k [.int .i64 0,.sl false 2 16 []]=y4.cells (get l k):=G3 (E:=y4.cells) l k
attribute [go_sem] y4.D1 y4.get_eq
structure B0 where
 nodes:(List y4)
instance:Inhabited B0:=⟨⟨default⟩⟩
def B0.cells(x:B0):List D:=[.sl false 2 32 (rows y4.cells x.nodes)]
instance:bY B0.cells 1:=⟨fun _=>rfl,fun _=>rfl,fun _=>rfl⟩
theorem B0.D1(x:B0):B0.cells x=[.sl false 2 32 (rows y4.cells x.nodes)]:=rfl
theorem B0.get_eq(l:List B0)(k:Nat):(rows B0.cells l).getD k [.sl false 2 32 []]=B0.cells (get l k):=G3 (E:=B0.cells) l k
attribute [go_sem] B0.D1 B0.get_eq
inductive u0 where
 |mk (base:Bs) (args:(List u0))
def u0.base:u0→Bs
 | .mk x _=>x
@[simp,go_sem] theorem u0.uL(base:Bs)(args:(List u0)):(u0.mk base args).base=base:=rfl
def u0.args:u0→(List u0)
 | .mk _ x=>x
@[simp,go_sem] theorem u0.rz(base:Bs)(args:(List u0)):(u0.mk base args).args=args:=rfl
instance:Inhabited u0:=⟨.mk default default⟩
mutual
def u0.cells:u0→List D
 | .mk LH GJ=>[.str LH,.sl false 2 40 (u0.nP GJ)]
def u0.nP:List u0→List (List D)
 | []=>[]
 |x::l=>x.cells::u0.nP l
end
theorem u0.eY:∀l:List u0,u0.nP l=rows u0.cells l
 | []=>rfl
 |x::l=>by simp only[u0.nP,yr,u0.eY l]
instance:bY u0.cells 2:=⟨fun x=>by cases x;rfl,fun x=>by cases x;rfl,fun x=>by cases x;rfl⟩
theorem u0.D1(x:u0):u0.cells x=[.str x.base,.sl false 2 40 (rows u0.cells x.args)]:=by
 cases x
 simp only[u0.cells,u0.eY]
 rfl
theorem u0.get_eq(l:List u0)(k:Nat):(rows u0.cells l).getD k [.str [],.sl false 2 40 []]=u0.cells (get l k):=by
 rw[←G3 (E:=u0.cells) l k,u0.D1];rfl
attribute [go_sem] u0.D1 u0.get_eq
inductive w6 where
 |mk (kind:Int) (name:Bs) (index:Int) (type:u0) (args:(List w6))
def w6.kind:w6→Int
 | .mk x _ _ _ _=>x
@[simp,go_sem] theorem w6.LI(kind:Int)(name:Bs)(index:Int)(type:u0)(args:(List w6)):(w6.mk kind name index type args).kind=kind:=rfl
def w6.name:w6→Bs
 | .mk _ x _ _ _=>x
@[simp,go_sem] theorem w6.LJ(kind:Int)(name:Bs)(index:Int)(type:u0)(args:(List w6)):(w6.mk kind name index type args).name=name:=rfl
def w6.index:w6→Int
 | .mk _ _ x _ _=>x
@[simp,go_sem] theorem w6.KI(kind:Int)(name:Bs)(index:Int)(type:u0)(args:(List w6)):(w6.mk kind name index type args).index=index:=rfl
def w6.type:w6→u0
 | .mk _ _ _ x _=>x
@[simp,go_sem] theorem w6.LK(kind:Int)(name:Bs)(index:Int)(type:u0)(args:(List w6)):(w6.mk kind name index type args).type=type:=rfl
def w6.args:w6→(List w6)
 | .mk _ _ _ _ x=>x
@[simp,go_sem] theorem w6.rz(kind:Int)(name:Bs)(index:Int)(type:u0)(args:(List w6)):(w6.mk kind name index type args).args=args:=rfl
instance:Inhabited w6:=⟨.mk default default default default default⟩
mutual
def w6.cells:w6→List D
 | .mk LL LM JI JJ GJ=>[.int .i64 LL,.str LM,.int .i64 JI,.str JJ.base,.sl false 2 40 (rows u0.cells JJ.args),.sl false 6 96 (w6.nP GJ)]
def w6.nP:List w6→List (List D)
 | []=>[]
 |x::l=>x.cells::w6.nP l
end
theorem w6.eY:∀l:List w6,w6.nP l=rows w6.cells l
 | []=>rfl
 |x::l=>by simp only[w6.nP,yr,w6.eY l]
instance:bY w6.cells 6:=⟨fun x=>by cases x;rfl,fun x=>by cases x;rfl,fun x=>by cases x;rfl⟩
theorem w6.D1(x:w6):w6.cells x=[.int .i64 x.kind,.str x.name,.int .i64 x.index,.str x.type.base,.sl false 2 40 (rows u0.cells x.type.args),.sl false 6 96 (rows w6.cells x.args)]:=by
 cases x
 simp only[w6.cells,w6.eY]
 rfl
theorem w6.get_eq(l:List w6)(k:Nat):(rows w6.cells l).getD k [.int .i64 0,.str [],.int .i64 0,.str [],.sl false 2 40 [],.sl false 6 96 []]=w6.cells (get l k):=by
 rw[←G3 (E:=w6.cells) l k,w6.D1];rfl
attribute [go_sem] w6.D1 w6.get_eq
structure D0 where
 word:Bs
 graph:B0
 weight:Int
 meaning:w6
instance:Inhabited D0:=⟨⟨default,default,default,default⟩⟩
def D0.cells(x:D0):List D:=[.str x.word,.sl false 2 32 (rows y4.cells x.graph.nodes),.int .i64 x.weight,.int .i64 x.meaning.kind,.str x.meaning.name,.int .i64 x.meaning.index,.str x.meaning.type.base,.sl false 2 40 (rows u0.cells x.meaning.type.args),.sl false 6 96 (rows w6.cells x.meaning.args)]
instance:bY D0.cells 9:=⟨fun _=>rfl,fun _=>rfl,fun _=>rfl⟩
theorem D0.D1(x:D0):D0.cells x=[.str x.word,.sl false 2 32 (rows y4.cells x.graph.nodes),.int .i64 x.weight,.int .i64 x.meaning.kind,.str x.meaning.name,.int .i64 x.meaning.index,.str x.meaning.type.base,.sl false 2 40 (rows u0.cells x.meaning.type.args),.sl false 6 96 (rows w6.cells x.meaning.args)]:=rfl
theorem D0.get_eq(l:List D0)(k:Nat):(rows D0.cells l).getD k [.str [],.sl false 2 32 [],.int .i64 0,.int .i64 0,.str [],.int .i64 0,.str [],.sl false 2 40 [],.sl false 6 96 []]=D0.cells (get l k):=G3 (E:=D0.cells) l k
attribute [go_sem] D0.D1 D0.get_eq
structure w8 where
 name:Bs
 graph:B0
 kids:Int
 weight:Int
 meaning:w6
instance:Inhabited w8:=⟨⟨default,default,default,default,default⟩⟩
def w8.cells(x:w8):List D:=[.str x.name,.sl false 2 32 (rows y4.cells x.graph.nodes),.int .i64 x.kids,.int .i64 x.weight,.int .i64 x.meaning.kind,.str x.meaning.name,.int .i64 x.meaning.index,.str x.meaning.type.base,.sl false 2 40 (rows u0.cells x.meaning.type.args),.sl false 6 96 (rows w6.cells x.meaning.args)]
instance:bY w8.cells 10:=⟨fun _=>rfl,fun _=>rfl,fun _=>rfl⟩
theorem w8.D1(x:w8):w8.cells x=[.str x.name,.sl false 2 32 (rows y4.cells x.graph.nodes),.int .i64 x.kids,.int .i64 x.weight,.int .i64 x.meaning.kind,.str x.meaning.name,.int .i64 x.meaning.index,.str x.meaning.type.base,.sl false 2 40 (rows u0.cells x.meaning.type.args),.sl false 6 96 (rows w6.cells x.meaning.args)]:=rfl
theorem w8.get_eq(l:List w8)(k:Nat):(rows w8.cells l).getD k [.str [],.sl false 2 32 [],.int .i64 0,.int .i64 0,.int .i64 0,.str [],.int .i64 0,.str [],.sl false 2 40 [],.sl false 6 96 []]=w8.cells (get l k):=G3 (E:=w8.cells) l k
attribute [go_sem] w8.D1 w8.get_eq
structure y7 where
 hierarchy:x7
 rules:(List w8)
 B3:(List D0)
 start:B0
instance:Inhabited y7:=⟨⟨default,default,default,default⟩⟩
def y7.cells(x:y7):List D:=[.sl false 2 40 (rows x5.cells x.hierarchy.types),.sl false 3 32 (rows A0.cells x.hierarchy.C2),.sl false 10 152 (rows w8.cells x.rules),.sl false 9 144 (rows D0.cells x.B3),.sl false 2 32 (rows y4.cells x.start.nodes)]
instance:bY y7.cells 5:=⟨fun _=>rfl,fun _=>rfl,fun _=>rfl⟩
theorem y7.D1(x:y7):y7.cells x=[.sl false 2 40 (rows x5.cells x.hierarchy.types),.sl false 3 32 (rows A0.cells x.hierarchy.C2),.sl false 10 152 (rows w8.cells x.rules),.sl false 9 144 (rows D0.cells x.B3),.sl false 2 32 (rows y4.cells x.start.nodes)]:=rfl
theorem y7.get_eq(l:List y7)(k:Nat):(rows y7.cells l).getD k [.sl false 2 40 [],.sl false 3 32 [],.sl false 10 152 [],.sl false 9 144 [],.sl false 2 32 []]=y7.cells (get l k):=G3 (E:=y7.cells) l k
attribute [go_sem] y7.D1 y7.get_eq
structure C4 where
 rules:(List Int)
 B3:(List Int)
instance:Inhabited C4:=⟨⟨default,default⟩⟩
def C4.cells(x:C4):List D:=[.sl false 1 8 (rows E1 x.rules),.sl false 1 8 (rows E1 x.B3)]
instance:bY C4.cells 2:=⟨fun _=>rfl,fun _=>rfl,fun _=>rfl⟩
theorem C4.D1(x:C4):C4.cells x=[.sl false 1 8 (rows E1 x.rules),.sl false 1 8 (rows E1 x.B3)]:=rfl
theorem C4.get_eq(l:List C4)(k:Nat):(rows C4.cells l).getD k [.sl false 1 8 [],.sl false 1 8 []]=C4.cells (get l k):=G3 (E:=C4.cells) l k
attribute [go_sem] C4.D1 C4.get_eq
structure w5 where
 code:Int
 index:Int
instance:Inhabited w5:=⟨⟨default,default⟩⟩
def w5.cells(x:w5):List D:=[.int .i64 x.code,.int .i64 x.index]
instance:bY w5.cells 2:=⟨fun _=>rfl,fun _=>rfl,fun _=>rfl⟩
theorem w5.D1(x:w5):w5.cells x=[.int .i64 x.code,.int .i64 x.index]:=rfl
theorem w5.get_eq(l:List w5)(k:Nat):(rows w5.cells l).getD k [.int .i64 0,.int .i64 0]=w5.cells (get l k):=G3 (E:=w5.cells) l k
attribute [go_sem] w5.D1 w5.get_eq
structure w7 where
 num:Int
 den:Int
instance:Inhabited w7:=⟨⟨default,default⟩⟩
def w7.cells(x:w7):List D:=[.int .i64 x.num,.int .i64 x.den]
instance:bY w7.cells 2:=⟨fun _=>rfl,fun _=>rfl,fun _=>rfl⟩
theorem w7.D1(x:w7):w7.cells x=[.int .i64 x.num,.int .i64 x.den]:=rfl
theorem w7.get_eq(l:List w7)(k:Nat):(rows w7.cells l).getD k [.int .i64 0,.int .i64 0]=w7.cells (get l k):=G3 (E:=w7.cells) l k
attribute [go_sem] w7.D1 w7.get_eq
inductive B5 where
 |mk (rule:Int) (lex:Int) (kids:(List B5))
def B5.rule:B5→Int
 | .mk x _ _=>x
@[simp,go_sem] theorem B5.LN(rule:Int)(lex:Int)(kids:(List B5)):(B5.mk rule lex kids).rule=rule:=rfl
def B5.lex:B5→Int
 | .mk _ x _=>x
@[simp,go_sem] theorem B5.MH(rule:Int)(lex:Int)(kids:(List B5)):(B5.mk rule lex kids).lex=lex:=rfl
def B5.kids:B5→(List B5)
 | .mk _ _ x=>x
@[simp,go_sem] theorem B5.LO(rule:Int)(lex:Int)(kids:(List B5)):(B5.mk rule lex kids).kids=kids:=rfl
instance:Inhabited B5:=⟨.mk default default default⟩
mutual
def B5.cells:B5→List D
 | .mk LP NV LQ=>[.int .i64 LP,.int .i64 NV,.sl false 3 40 (B5.nP LQ)]
def B5.nP:List B5→List (List D)
 | []=>[]
 |x::l=>x.cells::B5.nP l
end
theorem B5.eY:∀l:List B5,B5.nP l=rows B5.cells l
 | []=>rfl
 |x::l=>by simp only[B5.nP,yr,B5.eY l]
instance:bY B5.cells 3:=⟨fun x=>by cases x;rfl,fun x=>by cases x;rfl,fun x=>by cases x;rfl⟩
theorem B5.D1(x:B5):B5.cells x=[.int .i64 x.rule,.int .i64 x.lex,.sl false 3 40 (rows B5.cells x.kids)]:=by
 cases x
 simp only[B5.cells,B5.eY]
 rfl
theorem B5.get_eq(l:List B5)(k:Nat):(rows B5.cells l).getD k [.int .i64 0,.int .i64 0,.sl false 3 40 []]=B5.cells (get l k):=by
 rw[←G3 (E:=B5.cells) l k,B5.D1];rfl
attribute [go_sem] B5.D1 B5.get_eq
structure A9 where
 up:(List Int)
 down:(List Int)
instance:Inhabited A9:=⟨⟨default,default⟩⟩
def A9.cells(x:A9):List D:=[.sl false 1 8 (rows Z2 x.up),.sl false 1 8 (rows Z2 x.down)]
instance:bY A9.cells 2:=⟨fun _=>rfl,fun _=>rfl,fun _=>rfl⟩
theorem A9.D1(x:A9):A9.cells x=[.sl false 1 8 (rows Z2 x.up),.sl false 1 8 (rows Z2 x.down)]:=rfl
theorem A9.get_eq(l:List A9)(k:Nat):(rows A9.cells l).getD k [.sl false 1 8 [],.sl false 1 8 []]=A9.cells (get l k):=G3 (E:=A9.cells) l k
attribute [go_sem] A9.D1 A9.get_eq
structure w9 where
 t:w6
 depth:Int
 bound:Int
instance:Inhabited w9:=⟨⟨default,default,default⟩⟩
def w9.cells(x:w9):List D:=[.int .i64 x.t.kind,.str x.t.name,.int .i64 x.t.index,.str x.t.type.base,.sl false 2 40 (rows u0.cells x.t.type.args),.sl false 6 96 (rows w6.cells x.t.args),.int .i64 x.depth,.int .i64 x.bound]
instance:bY w9.cells 8:=⟨fun _=>rfl,fun _=>rfl,fun _=>rfl⟩
theorem w9.D1(x:w9):w9.cells x=[.int .i64 x.t.kind,.str x.t.name,.int .i64 x.t.index,.str x.t.type.base,.sl false 2 40 (rows u0.cells x.t.type.args),.sl false 6 96 (rows w6.cells x.t.args),.int .i64 x.depth,.int .i64 x.bound]:=rfl
theorem w9.get_eq(l:List w9)(k:Nat):(rows w9.cells l).getD k [.int .i64 0,.str [],.int .i64 0,.str [],.sl false 2 40 [],.sl false 6 96 [],.int .i64 0,.int .i64 0]=w9.cells (get l k):=G3 (E:=w9.cells) l k
attribute [go_sem] w9.D1 w9.get_eq
structure B7 where
 lo:Int
 hi:Int
instance:Inhabited B7:=⟨⟨default,default⟩⟩
def B7.cells(x:B7):List D:=[.int .u8 x.lo,.int .u8 x.hi]
instance:bY B7.cells 2:=⟨fun _=>rfl,fun _=>rfl,fun _=>rfl⟩
theorem B7.D1(x:B7):B7.cells x=[.int .u8 x.lo,.int .u8 x.hi]:=rfl
theorem B7.get_eq(l:List B7)(k:Nat):(rows B7.cells l).getD k [.int .u8 0,.int .u8 0]=B7.cells (get l k):=G3 (E:=B7.cells) l k
attribute [go_sem] B7.D1 B7.get_eq
structure x9 where
 s:u0
 depth:Int
instance:Inhabited x9:=⟨⟨default,default⟩⟩
def x9.cells(x:x9):List D:=[.str x.s.base,.sl false 2 40 (rows u0.cells x.s.args),.int .i64 x.depth]
instance:bY x9.cells 3:=⟨fun _=>rfl,fun _=>rfl,fun _=>rfl⟩
theorem x9.D1(x:x9):x9.cells x=[.str x.s.base,.sl false 2 40 (rows u0.cells x.s.args),.int .i64 x.depth]:=rfl
theorem x9.get_eq(l:List x9)(k:Nat):(rows x9.cells l).getD k [.str [],.sl false 2 40 [],.int .i64 0]=x9.cells (get l k):=G3 (E:=x9.cells) l k
attribute [go_sem] x9.D1 x9.get_eq
structure B6 where
 kind:Int
 name:Bs
 typ:u0
 index:Int
 kids:(List Int)
 up:Int
instance:Inhabited B6:=⟨⟨default,default,default,default,default,default⟩⟩
def B6.cells(x:B6):List D:=[.int .i64 x.kind,.str x.name,.str x.typ.base,.sl false 2 40 (rows u0.cells x.typ.args),.int .i64 x.index,.sl false 1 8 (rows E1 x.kids),.int .i64 x.up]
instance:bY B6.cells 7:=⟨fun _=>rfl,fun _=>rfl,fun _=>rfl⟩
theorem B6.D1(x:B6):B6.cells x=[.int .i64 x.kind,.str x.name,.str x.typ.base,.sl false 2 40 (rows u0.cells x.typ.args),.int .i64 x.index,.sl false 1 8 (rows E1 x.kids),.int .i64 x.up]:=rfl
theorem B6.get_eq(l:List B6)(k:Nat):(rows B6.cells l).getD k [.int .i64 0,.str [],.str [],.sl false 2 40 [],.int .i64 0,.sl false 1 8 [],.int .i64 0]=B6.cells (get l k):=G3 (E:=B6.cells) l k
attribute [go_sem] B6.D1 B6.get_eq
def Dv:(List Int):=[0,1,56,2,57,49,28,3,61,58,42,50,38,29,17,4,62,47,59,36,45,43,51,22,53,39,33,30,24,18,12,5,63,55,48,27,60,41,37,16,46,35,44,21,52,32,23,11,54,26,40,15,34,20,31,10,25,14,19,9,13,8,7,6]
set_option maxRecDepth 100000 in
theorem EA:Dv.length=64:=by rfl
def jv:(List Int):=(Go.Pinned.utf8FirstZ.map fun(n:Nat)=>(n:Int))
set_option maxRecDepth 100000 in
theorem EB:jv.length=256:=by rfl
def mR:(List B7):=[B7.mk 128 191,B7.mk 160 191,B7.mk 128 159,B7.mk 144 191,B7.mk 128 143,B7.mk 0 0,B7.mk 0 0,B7.mk 0 0,B7.mk 0 0,B7.mk 0 0,B7.mk 0 0,B7.mk 0 0,B7.mk 0 0,B7.mk 0 0,B7.mk 0 0,B7.mk 0 0]
set_option maxRecDepth 100000 in
theorem zL:mR.length=16:=by rfl
end Go.Proofs.YtoekkdodipnmpaaGreatDoor
