import GoSem.PinnedTables
import Derived.Test.YtfogbhjeihkliaaGreatDoorDXAm3
set_option linter.unusedVariables false
set_option linter.unusedSimpArgs false
namespace Go.Proofs.YtfogbhjeihkliaaGreatDoor
open Go Go.Am
structure y8 where
 name:Bs
 of_:Int
 value:Int
instance:Inhabited y8:=⟨⟨default,default,default⟩⟩
def y8.cells(x:y8):List D:=[.str x.name,.int .i64 x.of_,.int .i64 x.value]
instance:iH y8.cells 3:=⟨fun _=>rfl,fun _=>rfl,fun _=>rfl⟩
theorem y8.D8(x:y8):y8.cells x=[.str x.name,.int .i64 x.of_,.int .i64 x.value]:=rfl
theorem y8.get_eq(l:List y8)(k:Nat):(rows y8.cells l).getD k [.str [],.int .i64 0,.int .i64 0]=y8.cells (get l k):=N4 (E:=y8.cells) l k
attribute [go_sem] y8.D8 y8.get_eq
structure x7 where
 name:Bs
 parents:(List Int)
instance:Inhabited x7:=⟨⟨default,default⟩⟩
def x7.cells(x:x7):List D:=[.str x.name,.sl false 1 8 (rows Z4 x.parents)]
instance:iH x7.cells 2:=⟨fun _=>rfl,fun _=>rfl,fun _=>rfl⟩
theorem x7.D8(x:x7):x7.cells x=[.str x.name,.sl false 1 8 (rows Z4 x.parents)]:=rfl
theorem x7.get_eq(l:List x7)(k:Nat):(rows x7.cells l).getD k [.str [],.sl false 1 8 []]=x7.cells (get l k):=N4 (E:=x7.cells) l k
attribute [go_sem] x7.D8 x7.get_eq
structure y6 where
 types:(List x7)
 C1:(List y8)
instance:Inhabited y6:=⟨⟨default,default⟩⟩
def y6.cells(x:y6):List D:=[.sl false 2 40 (rows x7.cells x.types),.sl false 3 32 (rows y8.cells x.C1)]
instance:iH y6.cells 2:=⟨fun _=>rfl,fun _=>rfl,fun _=>rfl⟩
theorem y6.D8(x:y6):y6.cells x=[.sl false 2 40 (rows x7.cells x.types),.sl false 3 32 (rows y8.cells x.C1)]:=rfl
theorem y6.get_eq(l:List y6)(k:Nat):(rows y6.cells l).getD k [.sl false 2 40 [],.sl false 3 32 []]=y6.cells (get l k):=N4 (E:=y6.cells) l k
attribute [go_sem] y6.D8 y6.get_eq
structure G5 where
 kV:Int
 to_:Int
instance:Inhabited G5:=⟨⟨default,default⟩⟩
def G5.cells(x:G5):List D:=[.int .i64 x.kV,.int .i64 x.to_]
instance:iH G5.cells 2:=⟨fun _=>rfl,fun _=>rfl,fun _=>rfl⟩
theorem G5.D8(x:G5):G5.cells x=[.int .i64 x.kV,.int .i64 x.to_]:=rfl
theorem G5.get_eq(l:List G5)(k:Nat):(rows G5.cells l).getD k [.int .i64 0,.int .i64 0]=G5.cells (get l k):=N4 (E:=G5.cells) l k
attribute [go_sem] G5.D8 G5.get_eq
structure y4 where
 type:Int
 links:(List G5)
instance:Inhabited y4:=⟨⟨default,default⟩⟩
def y4.cells(x:y4):List D:=[.int .i64 x.type,.sl false 2 16 (rows G5.cells x.links)]
instance:iH y4.cells 2:=⟨fun _=>rfl,fun _=>rfl,fun _=>rfl⟩
theorem y4.D8(x:y4):y4.cells x=[.int .i64 x.type,.sl false 2 16 (rows G5.cells x.links)]:=rfl
theorem y4.get_eq(l:List y4)(k:Nat):(rows y4.cells l).getD k [.int .i64 0,.sl false 2 16 []]=y4.cells (get l k):=N4 (E:=y4.cells) l k
attribute [go_sem] y4.D8 y4.get_eq
structure B3 where
 nodes:(List y4)
instance:Inhabited B3:=⟨⟨default⟩⟩
def B3.cells(x:B3):List D:=[.sl false 2 32 (rows y4.cells x.nodes)]
instance:iH B3.cells 1:=⟨fun _=>rfl,fun _=>rfl,fun _=>rfl⟩
theorem B3.D8(x:B3):B3.cells x=[.sl false 2 32 (rows y4.cells x.nodes)]:=rfl
theorem B3.get_eq(l:List B3)(k:Nat):(rows B3.cells l).getD k [.sl false 2 32 []]=B3.cells (get l k):=N4 (E:=B3.cells) l k
attribute [go_sem] B3.D8 B3.get_eq
inductive w6 where
 |mk (base:Bs) (args:(List w6))
def w6.base:w6→Bs
 | .mk x _=>x
@[simp,go_sem] theorem w6.Bu(base:Bs)(args:(List w6)):(w6.mk base args).base=base:=rfl
def w6.args:w6→(List w6)
 | .mk _ x=>x
@[simp,go_sem] theorem w6.yu(base:Bs)(args:(List w6)):(w6.mk base args).args=args:=rfl
instance:Inhabited w6:=⟨.mk default default⟩
mutual
def w6.cells:w6→List D
 | .mk TF NY=>[.str TF,.sl false 2 40 (w6.uc NY)]
def w6.uc:List w6→List (List D)
 | []=>[]
 |x::l=>x.cells::w6.uc l
end
theorem w6.mT:∀l:List w6,w6.uc l=rows w6.cells l
 | []=>rfl
 |x::l=>by simp only[w6.uc,Eo,w6.mT l]
instance:iH w6.cells 2:=⟨fun x=>by cases x;rfl,fun x=>by cases x;rfl,fun x=>by cases x;rfl⟩
theorem w6.D8(x:w6):w6.cells x=[.str x.base,.sl false 2 40 (rows w6.cells x.args)]:=by
 cases x
 simp only[w6.cells,w6.mT]
 rfl
theorem w6.get_eq(l:List w6)(k:Nat):(rows w6.cells l).getD k [.str [],.sl false 2 40 []]=w6.cells (get l k):=by
 rw[←N4 (E:=w6.cells) l k,w6.D8];rfl
attribute [go_sem] w6.D8 w6.get_eq
inductive x9 where
 |mk (kind:Int) (name:Bs) (index:Int) (type:w6) (args:(List x9))
def x9.kind:x9→Int
 | .mk x _ _ _ _=>x
@[simp,go_sem] theorem x9.TG(kind:Int)(name:Bs)(index:Int)(type:w6)(args:(List x9)):(x9.mk kind name index type args).kind=kind:=rfl
def x9.name:x9→Bs
 | .mk _ x _ _ _=>x
@[simp,go_sem] theorem x9.TH(kind:Int)(name:Bs)(index:Int)(type:w6)(args:(List x9)):(x9.mk kind name index type args).name=name:=rfl
def x9.index:x9→Int
 | .mk _ _ x _ _=>x
@[simp,go_sem] theorem x9.Sx(kind:Int)(name:Bs)(index:Int)(type:w6)(args:(List x9)):(x9.mk kind name index type args).index=index:=rfl
def x9.type:x9→w6
 | .mk _ _ _ x _=>x
@[simp,go_sem] theorem x9.TJ(kind:Int)(name:Bs)(index:Int)(type:w6)(args:(List x9)):(x9.mk kind name index type args).type=type:=rfl
def x9.args:x9→(List x9)
 | .mk _ _ _ _ x=>x
@[simp,go_sem] theorem x9.yu(kind:Int)(name:Bs)(index:Int)(type:w6)(args:(List x9)):(x9.mk kind name index type args).args=args:=rfl
instance:Inhabited x9:=⟨.mk default default default default default⟩
mutual
def x9.cells:x9→List D
 | .mk TL TM Rg Rh NY=>[.int .i64 TL,.str TM,.int .i64 Rg,.str Rh.base,.sl false 2 40 (rows w6.cells Rh.args),.sl false 6 96 (x9.uc NY)]
def x9.uc:List x9→List (List D)
 | []=>[]
 |x::l=>x.cells::x9.uc l
end
theorem x9.mT:∀l:List x9,x9.uc l=rows x9.cells l
 | []=>rfl
 |x::l=>by simp only[x9.uc,Eo,x9.mT l]
instance:iH x9.cells 6:=⟨fun x=>by cases x;rfl,fun x=>by cases x;rfl,fun x=>by cases x;rfl⟩
theorem x9.D8(x:x9):x9.cells x=[.int .i64 x.kind,.str x.name,.int .i64 x.index,.str x.type.base,.sl false 2 40 (rows w6.cells x.type.args),.sl false 6 96 (rows x9.cells x.args)]:=by
 cases x
 simp only[x9.cells,x9.mT]
 rfl
theorem x9.get_eq(l:List x9)(k:Nat):(rows x9.cells l).getD k [.int .i64 0,.str [],.int .i64 0,.str [],.sl false 2 40 [],.sl false 6 96 []]=x9.cells (get l k):=by
 rw[←N4 (E:=x9.cells) l k,x9.D8];rfl
attribute [go_sem] x9.D8 x9.get_eq
structure x6 where
 name:Bs
 graph:B3
 kids:Int
 weight:Int
 meaning:x9
instance:Inhabited x6:=⟨⟨default,default,default,default,default⟩⟩
def x6.cells(x:x6):List D:=[.str x.name,.sl false 2 32 (rows y4.cells x.graph.nodes),.int .i64 x.kids,.int .i64 x.weight,.int .i64 x.meaning.kind,.str x.meaning.name,.int .i64 x.meaning.index,.str x.meaning.type.base,.sl false 2 40 (rows w6.cells x.meaning.type.args),.sl false 6 96 (rows x9.cells x.meaning.args)]
instance:iH x6.cells 10:=⟨fun _=>rfl,fun _=>rfl,fun _=>rfl⟩
theorem x6.D8(x:x6):x6.cells x=[.str x.name,.sl false 2 32 (rows y4.cells x.graph.nodes),.int .i64 x.kids,.int .i64 x.weight,.int .i64 x.meaning.kind,.str x.meaning.name,.int .i64 x.meaning.index,.str x.meaning.type.base,.sl false 2 40 (rows w6.cells x.meaning.type.args),.sl false 6 96 (rows x9.cells x.meaning.args)]:=rfl
theorem x6.get_eq(l:List x6)(k:Nat):(rows x6.cells l).getD k [.str [],.sl false 2 32 [],.int .i64 0,.int .i64 0,.int .i64 0,.str [],.int .i64 0,.str [],.sl false 2 40 [],.sl false 6 96 []]=x6.cells (get l k):=N4 (E:=x6.cells) l k
attribute [go_sem] x6.D8 x6.get_eq
structure C5 where
 word:Bs
 graph:B3
 weight:Int
 meaning:x9
instance:Inhabited C5:=⟨⟨default,default,default,default⟩⟩
def C5.cells(x:C5):List D:=[.str x.word,.sl false 2 32 (rows y4.cells x.graph.nodes),.int .i64 x.weight,.int .i64 x.meaning.kind,.str x.meaning.name,.int .i64 x.meaning.index,.str x.meaning.type.base,.sl false 2 40 (rows w6.cells x.meaning.type.args),.sl false 6 96 (rows x9.cells x.meaning.args)]
instance:iH C5.cells 9:=⟨fun _=>rfl,fun _=>rfl,fun _=>rfl⟩
theorem C5.D8(x:C5):C5.cells x=[.str x.word,.sl false 2 32 (rows y4.cells x.graph.nodes),.int .i64 x.weight,.int .i64 x.meaning.kind,.str x.meaning.name,.int .i64 x.meaning.index,.str x.meaning.type.base,.sl false 2 40 (rows w6.cells x.meaning.type.args),.sl false 6 96 (rows x9.cells x.meaning.args)]:=rfl
theorem C5.get_eq(l:List C5)(k:Nat):(rows C5.cells l).getD k [.str [],.sl false 2 32 [],.int .i64 0,.int .i64 0,.str [],.int .i64 0,.str [],.sl false 2 40 [],.sl false 6 96 []]=C5.cells (get l k):=N4 (E:=C5.cells) l k
attribute [go_sem] C5.D8 C5.get_eq
structure x5 where
 hierarchy:y6
 rules:(List x6)
 I7:(List C5)
 start:B3
instance:Inhabited x5:=⟨⟨default,default,default,default⟩⟩
def x5.cells(x:x5):List D:=[.sl false 2 40 (rows x7.cells x.hierarchy.types),.sl false 3 32 (rows y8.cells x.hierarchy.C1),.sl false 10 152 (rows x6.cells x.rules),.sl false 9 144 (rows C5.cells x.I7),.sl false 2 32 (rows y4.cells x.start.nodes)]
instance:iH x5.cells 5:=⟨fun _=>rfl,fun _=>rfl,fun _=>rfl⟩
theorem x5.D8(x:x5):x5.cells x=[.sl false 2 40 (rows x7.cells x.hierarchy.types),.sl false 3 32 (rows y8.cells x.hierarchy.C1),.sl false 10 152 (rows x6.cells x.rules),.sl false 9 144 (rows C5.cells x.I7),.sl false 2 32 (rows y4.cells x.start.nodes)]:=rfl
theorem x5.get_eq(l:List x5)(k:Nat):(rows x5.cells l).getD k [.sl false 2 40 [],.sl false 3 32 [],.sl false 10 152 [],.sl false 9 144 [],.sl false 2 32 []]=x5.cells (get l k):=N4 (E:=x5.cells) l k
attribute [go_sem] x5.D8 x5.get_eq
structure w9 where
 code:Int
 index:Int
instance:Inhabited w9:=⟨⟨default,default⟩⟩
def w9.cells(x:w9):List D:=[.int .i64 x.code,.int .i64 x.index]
instance:iH w9.cells 2:=⟨fun _=>rfl,fun _=>rfl,fun _=>rfl⟩
theorem w9.D8(x:w9):w9.cells x=[.int .i64 x.code,.int .i64 x.index]:=rfl
theorem w9.get_eq(l:List w9)(k:Nat):(rows w9.cells l).getD k [.int .i64 0,.int .i64 0]=w9.cells (get l k):=N4 (E:=w9.cells) l k
attribute [go_sem] w9.D8 w9.get_eq
structure w5 where
 from_:Int
 to_:Int
 level:Int
 rule:Int
 lex:Int
instance:Inhabited w5:=⟨⟨default,default,default,default,default⟩⟩
def w5.cells(x:w5):List D:=[.int .i64 x.from_,.int .i64 x.to_,.int .i64 x.level,.int .i64 x.rule,.int .i64 x.lex]
instance:iH w5.cells 5:=⟨fun _=>rfl,fun _=>rfl,fun _=>rfl⟩
theorem w5.D8(x:w5):w5.cells x=[.int .i64 x.from_,.int .i64 x.to_,.int .i64 x.level,.int .i64 x.rule,.int .i64 x.lex]:=rfl
theorem w5.get_eq(l:List w5)(k:Nat):(rows w5.cells l).getD k [.int .i64 0,.int .i64 0,.int .i64 0,.int .i64 0,.int .i64 0]=w5.cells (get l k):=N4 (E:=w5.cells) l k
attribute [go_sem] w5.D8 w5.get_eq
structure w7 where
 what:w5
 yes:Bool
instance:Inhabited w7:=⟨⟨default,default⟩⟩
def w7.cells(x:w7):List D:=[.int .i64 x.what.from_,.int .i64 x.what.to_,.int .i64 x.what.level,.int .i64 x.what.rule,.int .i64 x.what.lex,.bool x.yes]
instance:iH w7.cells 6:=⟨fun _=>rfl,fun _=>rfl,fun _=>rfl⟩
theorem w7.D8(x:w7):w7.cells x=[.int .i64 x.what.from_,.int .i64 x.what.to_,.int .i64 x.what.level,.int .i64 x.what.rule,.int .i64 x.what.lex,.bool x.yes]:=rfl
theorem w7.get_eq(l:List w7)(k:Nat):(rows w7.cells l).getD k [.int .i64 0,.int .i64 0,.int .i64 0,.int .i64 0,.int .i64 0,.bool false]=w7.cells (get l k):=N4 (E:=w7.cells) l k
attribute [go_sem] w7.D8 w7.get_eq
inductive w8 where
 |mk (rule:Int) (lex:Int) (kids:(List w8))
def w8.rule:w8→Int
 | .mk x _ _=>x
@[simp,go_sem] theorem w8.NZ(rule:Int)(lex:Int)(kids:(List w8)):(w8.mk rule lex kids).rule=rule:=rfl
def w8.lex:w8→Int
 | .mk _ x _=>x
@[simp,go_sem] theorem w8.Ri(rule:Int)(lex:Int)(kids:(List w8)):(w8.mk rule lex kids).lex=lex:=rfl
def w8.kids:w8→(List w8)
 | .mk _ _ x=>x
@[simp,go_sem] theorem w8.Oa(rule:Int)(lex:Int)(kids:(List w8)):(w8.mk rule lex kids).kids=kids:=rfl
instance:Inhabited w8:=⟨.mk default default default⟩
mutual
def w8.cells:w8→List D
 | .mk TN VQ TP=>[.int .i64 TN,.int .i64 VQ,.sl false 3 40 (w8.uc TP)]
def w8.uc:List w8→List (List D)
 | []=>[]
 |x::l=>x.cells::w8.uc l
end
theorem w8.mT:∀l:List w8,w8.uc l=rows w8.cells l
 | []=>rfl
 |x::l=>by simp only[w8.uc,Eo,w8.mT l]
instance:iH w8.cells 3:=⟨fun x=>by cases x;rfl,fun x=>by cases x;rfl,fun x=>by cases x;rfl⟩
theorem w8.D8(x:w8):w8.cells x=[.int .i64 x.rule,.int .i64 x.lex,.sl false 3 40 (rows w8.cells x.kids)]:=by
 cases x
 simp only[w8.cells,w8.mT]
 rfl
theorem w8.get_eq(l:List w8)(k:Nat):(rows w8.cells l).getD k [.int .i64 0,.int .i64 0,.sl false 3 40 []]=w8.cells (get l k):=by
 rw[←N4 (E:=w8.cells) l k,w8.D8];rfl
attribute [go_sem] w8.D8 w8.get_eq
structure B2 where
 up:(List Int)
 down:(List Int)
instance:Inhabited B2:=⟨⟨default,default⟩⟩
def B2.cells(x:B2):List D:=[.sl false 1 8 (rows eZ x.up),.sl false 1 8 (rows eZ x.down)]
instance:iH B2.cells 2:=⟨fun _=>rfl,fun _=>rfl,fun _=>rfl⟩
theorem B2.D8(x:B2):B2.cells x=[.sl false 1 8 (rows eZ x.up),.sl false 1 8 (rows eZ x.down)]:=rfl
theorem B2.get_eq(l:List B2)(k:Nat):(rows B2.cells l).getD k [.sl false 1 8 [],.sl false 1 8 []]=B2.cells (get l k):=N4 (E:=B2.cells) l k
attribute [go_sem] B2.D8 B2.get_eq
structure y3 where
 t:x9
 depth:Int
 bound:Int
instance:Inhabited y3:=⟨⟨default,default,default⟩⟩
def y3.cells(x:y3):List D:=[.int .i64 x.t.kind,.str x.t.name,.int .i64 x.t.index,.str x.t.type.base,.sl false 2 40 (rows w6.cells x.t.type.args),.sl false 6 96 (rows x9.cells x.t.args),.int .i64 x.depth,.int .i64 x.bound]
instance:iH y3.cells 8:=⟨fun _=>rfl,fun _=>rfl,fun _=>rfl⟩
theorem y3.D8(x:y3):y3.cells x=[.int .i64 x.t.kind,.str x.t.name,.int .i64 x.t.index,.str x.t.type.base,.sl false 2 40 (rows w6.cells x.t.type.args),.sl false 6 96 (rows x9.cells x.t.args),.int .i64 x.depth,.int .i64 x.bound]:=rfl
theorem y3.get_eq(l:List y3)(k:Nat):(rows y3.cells l).getD k [.int .i64 0,.str [],.int .i64 0,.str [],.sl false 2 40 [],.sl false 6 96 [],.int .i64 0,.int .i64 0]=y3.cells (get l k):=N4 (E:=y3.cells) l k
attribute [go_sem] y3.D8 y3.get_eq
structure C0 where
 lo:Int
 hi:Int
instance:Inhabited C0:=⟨⟨default,default⟩⟩
def C0.cells(x:C0):List D:=[.int .u8 x.lo,.int .u8 x.hi]
instance:iH C0.cells 2:=⟨fun _=>rfl,fun _=>rfl,fun _=>rfl⟩
theorem C0.D8(x:C0):C0.cells x=[.int .u8 x.lo,.int .u8 x.hi]:=rfl
theorem C0.get_eq(l:List C0)(k:Nat):(rows C0.cells l).getD k [.int .u8 0,.int .u8 0]=C0.cells (get l k):=N4 (E:=C0.cells) l k
attribute [go_sem] C0.D8 C0.get_eq
structure y7 where
 s:w6
 depth:Int
instance:Inhabited y7:=⟨⟨default,default⟩⟩
def y7.cells(x:y7):List D:=[.str x.s.base,.sl false 2 40 (rows w6.cells x.s.args),.int .i64 x.depth]
instance:iH y7.cells 3:=⟨fun _=>rfl,fun _=>rfl,fun _=>rfl⟩
theorem y7.D8(x:y7):y7.cells x=[.str x.s.base,.sl false 2 40 (rows w6.cells x.s.args),.int .i64 x.depth]:=rfl
theorem y7.get_eq(l:List y7)(k:Nat):(rows y7.cells l).getD k [.str [],.sl false 2 40 [],.int .i64 0]=y7.cells (get l k):=N4 (E:=y7.cells) l k
attribute [go_sem] y7.D8 y7.get_eq
structure B9 where
 kind:Int
 name:Bs
 typ:w6
 index:Int
 kids:(List Int)
 up:Int
instance:Inhabited B9:=⟨⟨default,default,default,default,default,default⟩⟩
def B9.cells(x:B9):List D:=[.int .i64 x.kind,.str x.name,.str x.typ.base,.sl false 2 40 (rows w6.cells x.typ.args),.int .i64 x.index,.sl false 1 8 (rows Z4 x.kids),.int .i64 x.up]
instance:iH B9.cells 7:=⟨fun _=>rfl,fun _=>rfl,fun _=>rfl⟩
theorem B9.D8(x:B9):B9.cells x=[.int .i64 x.kind,.str x.name,.str x.typ.base,.sl false 2 40 (rows w6.cells x.typ.args),.int .i64 x.index,.sl false 1 8 (rows Z4 x.kids),.int .i64 x.up]:=rfl
theorem B9.get_eq(l:List B9)(k:Nat):(rows B9.cells l).getD k [.int .i64 0,.str [],.str [],.sl false 2 40 [],.int .i64 0,.sl false 1 8 [],.int .i64 0]=B9.cells (get l k):=N4 (E:=B9.cells) l k
attribute [go_sem] B9.D8 B9.get_eq
def KB:(List Int):=[0,1,56,2,57,49,28,3,61,58,42,50,38,29,17,4,62,47,59,36,45,43,51,22,53,39,33,30,24,18,12,5,63,55,48,27,60,41,37,16,46,35,44,21,52,32,23,11,54,26,40,15,34,20,31,10,25,14,19,9,13,8,7,6]
set_option maxRecDepth 100000 in
theorem LC:KB.length=64:=by rfl
def pN:(List Int):=(Go.Pinned.utf8FirstZ.map fun(n:Nat)=>(n:Int))
set_option maxRecDepth 100000 in
theorem LD:pN.length=256:=by rfl
def sS:(List C0):=[C0.mk 128 191,C0.mk 160 191,C0.mk 128 159,C0.mk 144 191,C0.mk 128 143,C0.mk 0 0,C0.mk 0 0,C0.mk 0 0,C0.mk 0 0,C0.mk 0 0,C0.mk 0 0,C0.mk 0 0,C0.mk 0 0,C0.mk 0 0,C0.mk 0 0,C0.mk 0 0]
set_option maxRecDepth 100000 in
theorem FX:sS.length=16:=by rfl
end Go.Proofs.YtfogbhjeihkliaaGreatDoor
