import GoSem.PinnedTables
import Derived.Test.YtdjnbjnlnjhllaaDoorFQAm3
set_option linter.unusedVariables false
set_option linter.unusedSimpArgs false
namespace Go.Proofs.YtdjnbjnlnjhllaaDoor
open Go Go.Am
inductive u5 where
 |mk (kind:Int) (name:Bs) (words:(List Bs)) (subs:(List u5))
def u5.kind:u5→Int
 | .mk x _ _ _=>x
@[simp,go_sem] theorem u5.HM(kind:Int)(name:Bs)(words:(List Bs))(subs:(List u5)):(u5.mk kind name words subs).kind=kind:=rfl
def u5.name:u5→Bs
 | .mk _ x _ _=>x
@[simp,go_sem] theorem u5.HN(kind:Int)(name:Bs)(words:(List Bs))(subs:(List u5)):(u5.mk kind name words subs).name=name:=rfl
def u5.words:u5→(List Bs)
 | .mk _ _ x _=>x
@[simp,go_sem] theorem u5.Gz(kind:Int)(name:Bs)(words:(List Bs))(subs:(List u5)):(u5.mk kind name words subs).words=words:=rfl
def u5.subs:u5→(List u5)
 | .mk _ _ _ x=>x
@[simp,go_sem] theorem u5.HO(kind:Int)(name:Bs)(words:(List Bs))(subs:(List u5)):(u5.mk kind name words subs).subs=subs:=rfl
instance:Inhabited u5:=⟨.mk default default default default⟩
mutual
def u5.cells:u5→List D
 | .mk HT HU Fv HV=>[.int .i64 HT,.str HU,.sl false 1 16 (rows w8 Fv),.sl false 4 72 (u5.AG HV)]
def u5.AG:List u5→List (List D)
 | []=>[]
 |x::l=>x.cells::u5.AG l
end
theorem u5.uh:∀l:List u5,u5.AG l=rows u5.cells l
 | []=>rfl
 |x::l=>by simp only[u5.AG,CB,u5.uh l]
instance:fL u5.cells 4:=⟨fun x=>by cases x;rfl,fun x=>by cases x;rfl,fun x=>by cases x;rfl⟩
theorem u5.R4(x:u5):u5.cells x=[.int .i64 x.kind,.str x.name,.sl false 1 16 (rows w8 x.words),.sl false 4 72 (rows u5.cells x.subs)]:=by
 cases x
 simp only[u5.cells,u5.uh]
 rfl
theorem u5.get_eq(l:List u5)(k:Nat):(rows u5.cells l).getD k [.int .i64 0,.str [],.sl false 1 16 [],.sl false 4 72 []]=u5.cells (get l k):=by
 rw[←Q7 (E:=u5.cells) l k,u5.R4];rfl
attribute [go_sem] u5.R4 u5.get_eq
structure w6 where
 form:u5
 words:(List Bs)
 y5:(List Bs)
 parts:(List Bs)
instance:Inhabited w6:=⟨⟨default,default,default,default⟩⟩
def w6.cells(x:w6):List D:=[.int .i64 x.form.kind,.str x.form.name,.sl false 1 16 (rows w8 x.form.words),.sl false 4 72 (rows u5.cells x.form.subs),.sl false 1 16 (rows w8 x.words),.sl false 1 16 (rows w8 x.y5),.sl false 1 16 (rows w8 x.parts)]
instance:fL w6.cells 7:=⟨fun _=>rfl,fun _=>rfl,fun _=>rfl⟩
theorem w6.R4(x:w6):w6.cells x=[.int .i64 x.form.kind,.str x.form.name,.sl false 1 16 (rows w8 x.form.words),.sl false 4 72 (rows u5.cells x.form.subs),.sl false 1 16 (rows w8 x.words),.sl false 1 16 (rows w8 x.y5),.sl false 1 16 (rows w8 x.parts)]:=rfl
theorem w6.get_eq(l:List w6)(k:Nat):(rows w6.cells l).getD k [.int .i64 0,.str [],.sl false 1 16 [],.sl false 4 72 [],.sl false 1 16 [],.sl false 1 16 [],.sl false 1 16 []]=w6.cells (get l k):=Q7 (E:=w6.cells) l k
attribute [go_sem] w6.R4 w6.get_eq
structure w9 where
 code:Int
 index:Int
instance:Inhabited w9:=⟨⟨default,default⟩⟩
def w9.cells(x:w9):List D:=[.int .i64 x.code,.int .i64 x.index]
instance:fL w9.cells 2:=⟨fun _=>rfl,fun _=>rfl,fun _=>rfl⟩
theorem w9.R4(x:w9):w9.cells x=[.int .i64 x.code,.int .i64 x.index]:=rfl
theorem w9.get_eq(l:List w9)(k:Nat):(rows w9.cells l).getD k [.int .i64 0,.int .i64 0]=w9.cells (get l k):=Q7 (E:=w9.cells) l k
attribute [go_sem] w9.R4 w9.get_eq
structure u7 where
 name:Bs
 text:Bs
 form:u5
instance:Inhabited u7:=⟨⟨default,default,default⟩⟩
def u7.cells(x:u7):List D:=[.str x.name,.str x.text,.int .i64 x.form.kind,.str x.form.name,.sl false 1 16 (rows w8 x.form.words),.sl false 4 72 (rows u5.cells x.form.subs)]
instance:fL u7.cells 6:=⟨fun _=>rfl,fun _=>rfl,fun _=>rfl⟩
theorem u7.R4(x:u7):u7.cells x=[.str x.name,.str x.text,.int .i64 x.form.kind,.str x.form.name,.sl false 1 16 (rows w8 x.form.words),.sl false 4 72 (rows u5.cells x.form.subs)]:=rfl
theorem u7.get_eq(l:List u7)(k:Nat):(rows u7.cells l).getD k [.str [],.str [],.int .i64 0,.str [],.sl false 1 16 [],.sl false 4 72 []]=u7.cells (get l k):=Q7 (E:=u7.cells) l k
attribute [go_sem] u7.R4 u7.get_eq
structure x9 where
 at_:Int
 bindings:(List u7)
instance:Inhabited x9:=⟨⟨default,default⟩⟩
def x9.cells(x:x9):List D:=[.int .i64 x.at_,.sl false 6 104 (rows u7.cells x.bindings)]
instance:fL x9.cells 2:=⟨fun _=>rfl,fun _=>rfl,fun _=>rfl⟩
theorem x9.R4(x:x9):x9.cells x=[.int .i64 x.at_,.sl false 6 104 (rows u7.cells x.bindings)]:=rfl
theorem x9.get_eq(l:List x9)(k:Nat):(rows x9.cells l).getD k [.int .i64 0,.sl false 6 104 []]=x9.cells (get l k):=Q7 (E:=x9.cells) l k
attribute [go_sem] x9.R4 x9.get_eq
structure u6 where
 kind:Int
 name:Bs
 words:(List Bs)
 bound:(List Bool)
 end_:Int
instance:Inhabited u6:=⟨⟨default,default,default,default,default⟩⟩
def u6.cells(x:u6):List D:=[.int .i64 x.kind,.str x.name,.sl false 1 16 (rows w8 x.words),.sl false 1 1 (rows bL x.bound),.int .i64 x.end_]
instance:fL u6.cells 5:=⟨fun _=>rfl,fun _=>rfl,fun _=>rfl⟩
theorem u6.R4(x:u6):u6.cells x=[.int .i64 x.kind,.str x.name,.sl false 1 16 (rows w8 x.words),.sl false 1 1 (rows bL x.bound),.int .i64 x.end_]:=rfl
theorem u6.get_eq(l:List u6)(k:Nat):(rows u6.cells l).getD k [.int .i64 0,.str [],.sl false 1 16 [],.sl false 1 1 [],.int .i64 0]=u6.cells (get l k):=Q7 (E:=u6.cells) l k
attribute [go_sem] u6.R4 u6.get_eq
structure w5 where
 f:u5
 depth:Int
instance:Inhabited w5:=⟨⟨default,default⟩⟩
def w5.cells(x:w5):List D:=[.int .i64 x.f.kind,.str x.f.name,.sl false 1 16 (rows w8 x.f.words),.sl false 4 72 (rows u5.cells x.f.subs),.int .i64 x.depth]
instance:fL w5.cells 5:=⟨fun _=>rfl,fun _=>rfl,fun _=>rfl⟩
theorem w5.R4(x:w5):w5.cells x=[.int .i64 x.f.kind,.str x.f.name,.sl false 1 16 (rows w8 x.f.words),.sl false 4 72 (rows u5.cells x.f.subs),.int .i64 x.depth]:=rfl
theorem w5.get_eq(l:List w5)(k:Nat):(rows w5.cells l).getD k [.int .i64 0,.str [],.sl false 1 16 [],.sl false 4 72 [],.int .i64 0]=w5.cells (get l k):=Q7 (E:=w5.cells) l k
attribute [go_sem] w5.R4 w5.get_eq
structure x6 where
 from_:Bs
 to_:Bs
instance:Inhabited x6:=⟨⟨default,default⟩⟩
def x6.cells(x:x6):List D:=[.str x.from_,.str x.to_]
instance:fL x6.cells 2:=⟨fun _=>rfl,fun _=>rfl,fun _=>rfl⟩
theorem x6.R4(x:x6):x6.cells x=[.str x.from_,.str x.to_]:=rfl
theorem x6.get_eq(l:List x6)(k:Nat):(rows x6.cells l).getD k [.str [],.str []]=x6.cells (get l k):=Q7 (E:=x6.cells) l k
attribute [go_sem] x6.R4 x6.get_eq
def JY:(List Int):=[1,10,100,1000,10000,100000,1000000,10000000,100000000,1000000000,10000000000,100000000000,1000000000000,10000000000000,100000000000000,1000000000000000,10000000000000000,100000000000000000,1000000000000000000,10000000000000000000]
def JZ:(List Int):=[0,1,28,2,29,14,24,3,30,22,20,15,25,17,4,8,31,27,13,23,21,19,16,7,26,12,18,6,11,5,10,9]
def Ka:(List Int):=[0,1,56,2,57,49,28,3,61,58,42,50,38,29,17,4,62,47,59,36,45,43,51,22,53,39,33,30,24,18,12,5,63,55,48,27,60,41,37,16,46,35,44,21,52,32,23,11,54,26,40,15,34,20,31,10,25,14,19,9,13,8,7,6]
end Go.Proofs.YtdjnbjnlnjhllaaDoor
