import GoSem.PinnedTables
import Derived.Test.YtfacbpehlibilaaGreatDoorTZAm2
set_option linter.unusedVariables false
set_option linter.unusedSimpArgs false
namespace Go.Proofs.YtfacbpehlibilaaGreatDoor
open Go Go.Am
structure B1 where
 code:Int
 index:Int
instance:Inhabited B1:=⟨⟨default,default⟩⟩
def B1.cells(x:B1):List D:=[.int .i64 x.code,.int .i64 x.index]
instance:jo B1.cells 2:=⟨fun _=>rfl,fun _=>rfl,fun _=>rfl⟩
theorem B1.L9(x:B1):B1.cells x=[.int .i64 x.code,.int .i64 x.index]:=rfl
theorem B1.get_eq(l:List B1)(k:Nat):(rows B1.cells l).getD k [.int .i64 0,.int .i64 0]=B1.cells (get l k):=Q5 (E:=B1.cells) l k
attribute [go_sem] B1.L9 B1.get_eq
inductive u5 where
 |mk (kind:Int) (name:Bs) (words:(List Bs)) (subs:(List u5))
def u5.kind:u5→Int
 | .mk x _ _ _=>x
@[simp,go_sem] theorem u5.QH(kind:Int)(name:Bs)(words:(List Bs))(subs:(List u5)):(u5.mk kind name words subs).kind=kind:=rfl
def u5.name:u5→Bs
 | .mk _ x _ _=>x
@[simp,go_sem] theorem u5.QI(kind:Int)(name:Bs)(words:(List Bs))(subs:(List u5)):(u5.mk kind name words subs).name=name:=rfl
def u5.words:u5→(List Bs)
 | .mk _ _ x _=>x
@[simp,go_sem] theorem u5.PF(kind:Int)(name:Bs)(words:(List Bs))(subs:(List u5)):(u5.mk kind name words subs).words=words:=rfl
def u5.subs:u5→(List u5)
 | .mk _ _ _ x=>x
@[simp,go_sem] theorem u5.QJ(kind:Int)(name:Bs)(words:(List Bs))(subs:(List u5)):(u5.mk kind name words subs).subs=subs:=rfl
instance:Inhabited u5:=⟨.mk default default default default⟩
mutual
def u5.cells:u5→List D
 | .mk QL QM Oi QN=>[.int .i64 QL,.str QM,.sl false 1 16 (rows w7 Oi),.sl false 4 72 (u5.Im QN)]
def u5.Im:List u5→List (List D)
 | []=>[]
 |x::l=>x.cells::u5.Im l
end
theorem u5.BS:∀l:List u5,u5.Im l=rows u5.cells l
 | []=>rfl
 |x::l=>by simp only[u5.Im,Kp,u5.BS l]
instance:jo u5.cells 4:=⟨fun x=>by cases x;rfl,fun x=>by cases x;rfl,fun x=>by cases x;rfl⟩
theorem u5.L9(x:u5):u5.cells x=[.int .i64 x.kind,.str x.name,.sl false 1 16 (rows w7 x.words),.sl false 4 72 (rows u5.cells x.subs)]:=by
 cases x
 simp only[u5.cells,u5.BS]
 rfl
theorem u5.get_eq(l:List u5)(k:Nat):(rows u5.cells l).getD k [.int .i64 0,.str [],.sl false 1 16 [],.sl false 4 72 []]=u5.cells (get l k):=by
 rw[←Q5 (E:=u5.cells) l k,u5.L9];rfl
attribute [go_sem] u5.L9 u5.get_eq
structure u7 where
 at_:Int
 rule:Int
instance:Inhabited u7:=⟨⟨default,default⟩⟩
def u7.cells(x:u7):List D:=[.int .i64 x.at_,.int .i64 x.rule]
instance:jo u7.cells 2:=⟨fun _=>rfl,fun _=>rfl,fun _=>rfl⟩
theorem u7.L9(x:u7):u7.cells x=[.int .i64 x.at_,.int .i64 x.rule]:=rfl
theorem u7.get_eq(l:List u7)(k:Nat):(rows u7.cells l).getD k [.int .i64 0,.int .i64 0]=u7.cells (get l k):=Q5 (E:=u7.cells) l k
attribute [go_sem] u7.L9 u7.get_eq
structure w9 where
 form:u5
 words:(List Bs)
 C4:(List Bs)
 parts:(List Bs)
instance:Inhabited w9:=⟨⟨default,default,default,default⟩⟩
def w9.cells(x:w9):List D:=[.int .i64 x.form.kind,.str x.form.name,.sl false 1 16 (rows w7 x.form.words),.sl false 4 72 (rows u5.cells x.form.subs),.sl false 1 16 (rows w7 x.words),.sl false 1 16 (rows w7 x.C4),.sl false 1 16 (rows w7 x.parts)]
instance:jo w9.cells 7:=⟨fun _=>rfl,fun _=>rfl,fun _=>rfl⟩
theorem w9.L9(x:w9):w9.cells x=[.int .i64 x.form.kind,.str x.form.name,.sl false 1 16 (rows w7 x.form.words),.sl false 4 72 (rows u5.cells x.form.subs),.sl false 1 16 (rows w7 x.words),.sl false 1 16 (rows w7 x.C4),.sl false 1 16 (rows w7 x.parts)]:=rfl
theorem w9.get_eq(l:List w9)(k:Nat):(rows w9.cells l).getD k [.int .i64 0,.str [],.sl false 1 16 [],.sl false 4 72 [],.sl false 1 16 [],.sl false 1 16 [],.sl false 1 16 []]=w9.cells (get l k):=Q5 (E:=w9.cells) l k
attribute [go_sem] w9.L9 w9.get_eq
structure u6 where
 from_:w9
 to_:u5
instance:Inhabited u6:=⟨⟨default,default⟩⟩
def u6.cells(x:u6):List D:=[.int .i64 x.from_.form.kind,.str x.from_.form.name,.sl false 1 16 (rows w7 x.from_.form.words),.sl false 4 72 (rows u5.cells x.from_.form.subs),.sl false 1 16 (rows w7 x.from_.words),.sl false 1 16 (rows w7 x.from_.C4),.sl false 1 16 (rows w7 x.from_.parts),.int .i64 x.to_.kind,.str x.to_.name,.sl false 1 16 (rows w7 x.to_.words),.sl false 4 72 (rows u5.cells x.to_.subs)]
instance:jo u6.cells 11:=⟨fun _=>rfl,fun _=>rfl,fun _=>rfl⟩
theorem u6.L9(x:u6):u6.cells x=[.int .i64 x.from_.form.kind,.str x.from_.form.name,.sl false 1 16 (rows w7 x.from_.form.words),.sl false 4 72 (rows u5.cells x.from_.form.subs),.sl false 1 16 (rows w7 x.from_.words),.sl false 1 16 (rows w7 x.from_.C4),.sl false 1 16 (rows w7 x.from_.parts),.int .i64 x.to_.kind,.str x.to_.name,.sl false 1 16 (rows w7 x.to_.words),.sl false 4 72 (rows u5.cells x.to_.subs)]:=rfl
theorem u6.get_eq(l:List u6)(k:Nat):(rows u6.cells l).getD k [.int .i64 0,.str [],.sl false 1 16 [],.sl false 4 72 [],.sl false 1 16 [],.sl false 1 16 [],.sl false 1 16 [],.int .i64 0,.str [],.sl false 1 16 [],.sl false 4 72 []]=u6.cells (get l k):=Q5 (E:=u6.cells) l k
attribute [go_sem] u6.L9 u6.get_eq
structure D5 where
 kind:Int
 name:Bs
 words:(List Bs)
 bound:(List Bool)
 end_:Int
instance:Inhabited D5:=⟨⟨default,default,default,default,default⟩⟩
def D5.cells(x:D5):List D:=[.int .i64 x.kind,.str x.name,.sl false 1 16 (rows w7 x.words),.sl false 1 1 (rows Aa x.bound),.int .i64 x.end_]
instance:jo D5.cells 5:=⟨fun _=>rfl,fun _=>rfl,fun _=>rfl⟩
theorem D5.L9(x:D5):D5.cells x=[.int .i64 x.kind,.str x.name,.sl false 1 16 (rows w7 x.words),.sl false 1 1 (rows Aa x.bound),.int .i64 x.end_]:=rfl
theorem D5.get_eq(l:List D5)(k:Nat):(rows D5.cells l).getD k [.int .i64 0,.str [],.sl false 1 16 [],.sl false 1 1 [],.int .i64 0]=D5.cells (get l k):=Q5 (E:=D5.cells) l k
attribute [go_sem] D5.L9 D5.get_eq
structure w6 where
 form:u5
 nodes:Int
 depth:Int
instance:Inhabited w6:=⟨⟨default,default,default⟩⟩
def w6.cells(x:w6):List D:=[.int .i64 x.form.kind,.str x.form.name,.sl false 1 16 (rows w7 x.form.words),.sl false 4 72 (rows u5.cells x.form.subs),.int .i64 x.nodes,.int .i64 x.depth]
instance:jo w6.cells 6:=⟨fun _=>rfl,fun _=>rfl,fun _=>rfl⟩
theorem w6.L9(x:w6):w6.cells x=[.int .i64 x.form.kind,.str x.form.name,.sl false 1 16 (rows w7 x.form.words),.sl false 4 72 (rows u5.cells x.form.subs),.int .i64 x.nodes,.int .i64 x.depth]:=rfl
theorem w6.get_eq(l:List w6)(k:Nat):(rows w6.cells l).getD k [.int .i64 0,.str [],.sl false 1 16 [],.sl false 4 72 [],.int .i64 0,.int .i64 0]=w6.cells (get l k):=Q5 (E:=w6.cells) l k
attribute [go_sem] w6.L9 w6.get_eq
structure C8 where
 f:u5
 depth:Int
instance:Inhabited C8:=⟨⟨default,default⟩⟩
def C8.cells(x:C8):List D:=[.int .i64 x.f.kind,.str x.f.name,.sl false 1 16 (rows w7 x.f.words),.sl false 4 72 (rows u5.cells x.f.subs),.int .i64 x.depth]
instance:jo C8.cells 5:=⟨fun _=>rfl,fun _=>rfl,fun _=>rfl⟩
theorem C8.L9(x:C8):C8.cells x=[.int .i64 x.f.kind,.str x.f.name,.sl false 1 16 (rows w7 x.f.words),.sl false 4 72 (rows u5.cells x.f.subs),.int .i64 x.depth]:=rfl
theorem C8.get_eq(l:List C8)(k:Nat):(rows C8.cells l).getD k [.int .i64 0,.str [],.sl false 1 16 [],.sl false 4 72 [],.int .i64 0]=C8.cells (get l k):=Q5 (E:=C8.cells) l k
attribute [go_sem] C8.L9 C8.get_eq
structure w5 where
 name:Bs
 text:Bs
 form:u5
instance:Inhabited w5:=⟨⟨default,default,default⟩⟩
def w5.cells(x:w5):List D:=[.str x.name,.str x.text,.int .i64 x.form.kind,.str x.form.name,.sl false 1 16 (rows w7 x.form.words),.sl false 4 72 (rows u5.cells x.form.subs)]
instance:jo w5.cells 6:=⟨fun _=>rfl,fun _=>rfl,fun _=>rfl⟩
theorem w5.L9(x:w5):w5.cells x=[.str x.name,.str x.text,.int .i64 x.form.kind,.str x.form.name,.sl false 1 16 (rows w7 x.form.words),.sl false 4 72 (rows u5.cells x.form.subs)]:=rfl
theorem w5.get_eq(l:List w5)(k:Nat):(rows w5.cells l).getD k [.str [],.str [],.int .i64 0,.str [],.sl false 1 16 [],.sl false 4 72 []]=w5.cells (get l k):=Q5 (E:=w5.cells) l k
attribute [go_sem] w5.L9 w5.get_eq
structure B0 where
 from_:Bs
 to_:Bs
instance:Inhabited B0:=⟨⟨default,default⟩⟩
def B0.cells(x:B0):List D:=[.str x.from_,.str x.to_]
instance:jo B0.cells 2:=⟨fun _=>rfl,fun _=>rfl,fun _=>rfl⟩
theorem B0.L9(x:B0):B0.cells x=[.str x.from_,.str x.to_]:=rfl
theorem B0.get_eq(l:List B0)(k:Nat):(rows B0.cells l).getD k [.str [],.str []]=B0.cells (get l k):=Q5 (E:=B0.cells) l k
attribute [go_sem] B0.L9 B0.get_eq
def Tp:(List Int):=[1,10,100,1000,10000,100000,1000000,10000000,100000000,1000000000,10000000000,100000000000,1000000000000,10000000000000,100000000000000,1000000000000000,10000000000000000,100000000000000000,1000000000000000000,10000000000000000000]
def Tq:(List Int):=[0,1,28,2,29,14,24,3,30,22,20,15,25,17,4,8,31,27,13,23,21,19,16,7,26,12,18,6,11,5,10,9]
def Tr:(List Int):=[0,1,56,2,57,49,28,3,61,58,42,50,38,29,17,4,62,47,59,36,45,43,51,22,53,39,33,30,24,18,12,5,63,55,48,27,60,41,37,16,46,35,44,21,52,32,23,11,54,26,40,15,34,20,31,10,25,14,19,9,13,8,7,6]
end Go.Proofs.YtfacbpehlibilaaGreatDoor
