import GoSem.PinnedTables
import Derived.Test.YtanlbioodbnakaaGreatDoorTTAm2
set_option linter.unusedVariables false
set_option linter.unusedSimpArgs false
namespace Go.Proofs.YtanlbioodbnakaaGreatDoor
open Go Go.Am
structure w7 where
 name:Bs
 arity:Int
 tuples:(List (List Int))
instance:Inhabited w7:=⟨⟨default,default,default⟩⟩
def w7.cells(x:w7):List D:=[.str x.name,.int .i64 x.arity,.sl false 1 24 (rows (slc 1 8 K7) x.tuples)]
instance:iS w7.cells 3:=⟨fun _=>rfl,fun _=>rfl,fun _=>rfl⟩
theorem w7.U5(x:w7):w7.cells x=[.str x.name,.int .i64 x.arity,.sl false 1 24 (rows (slc 1 8 K7) x.tuples)]:=rfl
theorem w7.get_eq(l:List w7)(k:Nat):(rows w7.cells l).getD k [.str [],.int .i64 0,.sl false 1 24 []]=w7.cells (get l k):=M5 (E:=w7.cells) l k
attribute [go_sem] w7.U5 w7.get_eq
structure A0 where
 name:Bs
 value:Int
instance:Inhabited A0:=⟨⟨default,default⟩⟩
def A0.cells(x:A0):List D:=[.str x.name,.int .i64 x.value]
instance:iS A0.cells 2:=⟨fun _=>rfl,fun _=>rfl,fun _=>rfl⟩
theorem A0.U5(x:A0):A0.cells x=[.str x.name,.int .i64 x.value]:=rfl
theorem A0.get_eq(l:List A0)(k:Nat):(rows A0.cells l).getD k [.str [],.int .i64 0]=A0.cells (get l k):=M5 (E:=A0.cells) l k
attribute [go_sem] A0.U5 A0.get_eq
structure B4 where
 size:Int
 constants:(List A0)
 relations:(List w7)
instance:Inhabited B4:=⟨⟨default,default,default⟩⟩
def B4.cells(x:B4):List D:=[.int .i64 x.size,.sl false 2 24 (rows A0.cells x.constants),.sl false 3 48 (rows w7.cells x.relations)]
instance:iS B4.cells 3:=⟨fun _=>rfl,fun _=>rfl,fun _=>rfl⟩
theorem B4.U5(x:B4):B4.cells x=[.int .i64 x.size,.sl false 2 24 (rows A0.cells x.constants),.sl false 3 48 (rows w7.cells x.relations)]:=rfl
theorem B4.get_eq(l:List B4)(k:Nat):(rows B4.cells l).getD k [.int .i64 0,.sl false 2 24 [],.sl false 3 48 []]=B4.cells (get l k):=M5 (E:=B4.cells) l k
attribute [go_sem] B4.U5 B4.get_eq
inductive u5 where
 |mk (kind:Int) (name:Bs) (words:(List Bs)) (subs:(List u5))
def u5.kind:u5→Int
 | .mk x _ _ _=>x
@[simp,go_sem] theorem u5.QM(kind:Int)(name:Bs)(words:(List Bs))(subs:(List u5)):(u5.mk kind name words subs).kind=kind:=rfl
def u5.name:u5→Bs
 | .mk _ x _ _=>x
@[simp,go_sem] theorem u5.QN(kind:Int)(name:Bs)(words:(List Bs))(subs:(List u5)):(u5.mk kind name words subs).name=name:=rfl
def u5.words:u5→(List Bs)
 | .mk _ _ x _=>x
@[simp,go_sem] theorem u5.PF(kind:Int)(name:Bs)(words:(List Bs))(subs:(List u5)):(u5.mk kind name words subs).words=words:=rfl
def u5.subs:u5→(List u5)
 | .mk _ _ _ x=>x
@[simp,go_sem] theorem u5.QO(kind:Int)(name:Bs)(words:(List Bs))(subs:(List u5)):(u5.mk kind name words subs).subs=subs:=rfl
instance:Inhabited u5:=⟨.mk default default default default⟩
mutual
def u5.cells:u5→List D
 | .mk QS QT Od QU=>[.int .i64 QS,.str QT,.sl false 1 16 (rows w8 Od),.sl false 4 72 (u5.Ii QU)]
def u5.Ii:List u5→List (List D)
 | []=>[]
 |x::l=>x.cells::u5.Ii l
end
theorem u5.Ba:∀l:List u5,u5.Ii l=rows u5.cells l
 | []=>rfl
 |x::l=>by simp only[u5.Ii,Kq,u5.Ba l]
instance:iS u5.cells 4:=⟨fun x=>by cases x;rfl,fun x=>by cases x;rfl,fun x=>by cases x;rfl⟩
theorem u5.U5(x:u5):u5.cells x=[.int .i64 x.kind,.str x.name,.sl false 1 16 (rows w8 x.words),.sl false 4 72 (rows u5.cells x.subs)]:=by
 cases x
 simp only[u5.cells,u5.Ba]
 rfl
theorem u5.get_eq(l:List u5)(k:Nat):(rows u5.cells l).getD k [.int .i64 0,.str [],.sl false 1 16 [],.sl false 4 72 []]=u5.cells (get l k):=by
 rw[←M5 (E:=u5.cells) l k,u5.U5];rfl
attribute [go_sem] u5.U5 u5.get_eq
structure B0 where
 code:Int
 index:Int
instance:Inhabited B0:=⟨⟨default,default⟩⟩
def B0.cells(x:B0):List D:=[.int .i64 x.code,.int .i64 x.index]
instance:iS B0.cells 2:=⟨fun _=>rfl,fun _=>rfl,fun _=>rfl⟩
theorem B0.U5(x:B0):B0.cells x=[.int .i64 x.code,.int .i64 x.index]:=rfl
theorem B0.get_eq(l:List B0)(k:Nat):(rows B0.cells l).getD k [.int .i64 0,.int .i64 0]=B0.cells (get l k):=M5 (E:=B0.cells) l k
attribute [go_sem] B0.U5 B0.get_eq
structure A8 where
 form:u5
 words:(List Bs)
 E9:(List Bs)
 parts:(List Bs)
instance:Inhabited A8:=⟨⟨default,default,default,default⟩⟩
def A8.cells(x:A8):List D:=[.int .i64 x.form.kind,.str x.form.name,.sl false 1 16 (rows w8 x.form.words),.sl false 4 72 (rows u5.cells x.form.subs),.sl false 1 16 (rows w8 x.words),.sl false 1 16 (rows w8 x.E9),.sl false 1 16 (rows w8 x.parts)]
instance:iS A8.cells 7:=⟨fun _=>rfl,fun _=>rfl,fun _=>rfl⟩
theorem A8.U5(x:A8):A8.cells x=[.int .i64 x.form.kind,.str x.form.name,.sl false 1 16 (rows w8 x.form.words),.sl false 4 72 (rows u5.cells x.form.subs),.sl false 1 16 (rows w8 x.words),.sl false 1 16 (rows w8 x.E9),.sl false 1 16 (rows w8 x.parts)]:=rfl
theorem A8.get_eq(l:List A8)(k:Nat):(rows A8.cells l).getD k [.int .i64 0,.str [],.sl false 1 16 [],.sl false 4 72 [],.sl false 1 16 [],.sl false 1 16 [],.sl false 1 16 []]=A8.cells (get l k):=M5 (E:=A8.cells) l k
attribute [go_sem] A8.U5 A8.get_eq
structure u7 where
 from_:A8
 to_:u5
instance:Inhabited u7:=⟨⟨default,default⟩⟩
def u7.cells(x:u7):List D:=[.int .i64 x.from_.form.kind,.str x.from_.form.name,.sl false 1 16 (rows w8 x.from_.form.words),.sl false 4 72 (rows u5.cells x.from_.form.subs),.sl false 1 16 (rows w8 x.from_.words),.sl false 1 16 (rows w8 x.from_.E9),.sl false 1 16 (rows w8 x.from_.parts),.int .i64 x.to_.kind,.str x.to_.name,.sl false 1 16 (rows w8 x.to_.words),.sl false 4 72 (rows u5.cells x.to_.subs)]
instance:iS u7.cells 11:=⟨fun _=>rfl,fun _=>rfl,fun _=>rfl⟩
theorem u7.U5(x:u7):u7.cells x=[.int .i64 x.from_.form.kind,.str x.from_.form.name,.sl false 1 16 (rows w8 x.from_.form.words),.sl false 4 72 (rows u5.cells x.from_.form.subs),.sl false 1 16 (rows w8 x.from_.words),.sl false 1 16 (rows w8 x.from_.E9),.sl false 1 16 (rows w8 x.from_.parts),.int .i64 x.to_.kind,.str x.to_.name,.sl false 1 16 (rows w8 x.to_.words),.sl false 4 72 (rows u5.cells x.to_.subs)]:=rfl
theorem u7.get_eq(l:List u7)(k:Nat):(rows u7.cells l).getD k [.int .i64 0,.str [],.sl false 1 16 [],.sl false 4 72 [],.sl false 1 16 [],.sl false 1 16 [],.sl false 1 16 [],.int .i64 0,.str [],.sl false 1 16 [],.sl false 4 72 []]=u7.cells (get l k):=M5 (E:=u7.cells) l k
attribute [go_sem] u7.U5 u7.get_eq
structure u6 where
 at_:Int
 rule:Int
instance:Inhabited u6:=⟨⟨default,default⟩⟩
def u6.cells(x:u6):List D:=[.int .i64 x.at_,.int .i64 x.rule]
instance:iS u6.cells 2:=⟨fun _=>rfl,fun _=>rfl,fun _=>rfl⟩
theorem u6.U5(x:u6):u6.cells x=[.int .i64 x.at_,.int .i64 x.rule]:=rfl
theorem u6.get_eq(l:List u6)(k:Nat):(rows u6.cells l).getD k [.int .i64 0,.int .i64 0]=u6.cells (get l k):=M5 (E:=u6.cells) l k
attribute [go_sem] u6.U5 u6.get_eq
structure B9 where
 name:Bs
 value:Int
instance:Inhabited B9:=⟨⟨default,default⟩⟩
def B9.cells(x:B9):List D:=[.str x.name,.int .i64 x.value]
instance:iS B9.cells 2:=⟨fun _=>rfl,fun _=>rfl,fun _=>rfl⟩
theorem B9.U5(x:B9):B9.cells x=[.str x.name,.int .i64 x.value]:=rfl
theorem B9.get_eq(l:List B9)(k:Nat):(rows B9.cells l).getD k [.str [],.int .i64 0]=B9.cells (get l k):=M5 (E:=B9.cells) l k
attribute [go_sem] B9.U5 B9.get_eq
structure w5 where
 form:u5
 nodes:Int
 depth:Int
instance:Inhabited w5:=⟨⟨default,default,default⟩⟩
def w5.cells(x:w5):List D:=[.int .i64 x.form.kind,.str x.form.name,.sl false 1 16 (rows w8 x.form.words),.sl false 4 72 (rows u5.cells x.form.subs),.int .i64 x.nodes,.int .i64 x.depth]
instance:iS w5.cells 6:=⟨fun _=>rfl,fun _=>rfl,fun _=>rfl⟩
theorem w5.U5(x:w5):w5.cells x=[.int .i64 x.form.kind,.str x.form.name,.sl false 1 16 (rows w8 x.form.words),.sl false 4 72 (rows u5.cells x.form.subs),.int .i64 x.nodes,.int .i64 x.depth]:=rfl
theorem w5.get_eq(l:List w5)(k:Nat):(rows w5.cells l).getD k [.int .i64 0,.str [],.sl false 1 16 [],.sl false 4 72 [],.int .i64 0,.int .i64 0]=w5.cells (get l k):=M5 (E:=w5.cells) l k
attribute [go_sem] w5.U5 w5.get_eq
structure w6 where
 name:Bs
 text:Bs
 form:u5
instance:Inhabited w6:=⟨⟨default,default,default⟩⟩
def w6.cells(x:w6):List D:=[.str x.name,.str x.text,.int .i64 x.form.kind,.str x.form.name,.sl false 1 16 (rows w8 x.form.words),.sl false 4 72 (rows u5.cells x.form.subs)]
instance:iS w6.cells 6:=⟨fun _=>rfl,fun _=>rfl,fun _=>rfl⟩
theorem w6.U5(x:w6):w6.cells x=[.str x.name,.str x.text,.int .i64 x.form.kind,.str x.form.name,.sl false 1 16 (rows w8 x.form.words),.sl false 4 72 (rows u5.cells x.form.subs)]:=rfl
theorem w6.get_eq(l:List w6)(k:Nat):(rows w6.cells l).getD k [.str [],.str [],.int .i64 0,.str [],.sl false 1 16 [],.sl false 4 72 []]=w6.cells (get l k):=M5 (E:=w6.cells) l k
attribute [go_sem] w6.U5 w6.get_eq
structure B3 where
 from_:Bs
 to_:Bs
instance:Inhabited B3:=⟨⟨default,default⟩⟩
def B3.cells(x:B3):List D:=[.str x.from_,.str x.to_]
instance:iS B3.cells 2:=⟨fun _=>rfl,fun _=>rfl,fun _=>rfl⟩
theorem B3.U5(x:B3):B3.cells x=[.str x.from_,.str x.to_]:=rfl
theorem B3.get_eq(l:List B3)(k:Nat):(rows B3.cells l).getD k [.str [],.str []]=B3.cells (get l k):=M5 (E:=B3.cells) l k
attribute [go_sem] B3.U5 B3.get_eq
def Tq:(List Int):=[1,10,100,1000,10000,100000,1000000,10000000,100000000,1000000000,10000000000,100000000000,1000000000000,10000000000000,100000000000000,1000000000000000,10000000000000000,100000000000000000,1000000000000000000,10000000000000000000]
def Tr:(List Int):=[0,1,28,2,29,14,24,3,30,22,20,15,25,17,4,8,31,27,13,23,21,19,16,7,26,12,18,6,11,5,10,9]
def Ts:(List Int):=[0,1,56,2,57,49,28,3,61,58,42,50,38,29,17,4,62,47,59,36,45,43,51,22,53,39,33,30,24,18,12,5,63,55,48,27,60,41,37,16,46,35,44,21,52,32,23,11,54,26,40,15,34,20,31,10,25,14,19,9,13,8,7,6]
end Go.Proofs.YtanlbioodbnakaaGreatDoor
