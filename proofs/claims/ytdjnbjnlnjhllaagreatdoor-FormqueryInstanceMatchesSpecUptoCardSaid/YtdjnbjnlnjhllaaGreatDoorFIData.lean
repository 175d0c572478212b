import GoSem.PinnedTables
import Derived.Test.YtdjnbjnlnjhllaaGreatDoorFIAm3
set_option linter.unusedVariables false
set_option linter.unusedSimpArgs false
namespace Go.Proofs.YtdjnbjnlnjhllaaGreatDoor
open Go Go.Am
inductive w3T where
 |mk (kind:Int) (name:Bs) (words:(List Bs)) (subs:(List w3T))
def w3T.kind:w3T→Int
 | .mk x _ _ _=>x
@[simp,go_sem] theorem w3T.z6f(kind:Int)(name:Bs)(words:(List Bs))(subs:(List w3T)):(w3T.mk kind name words subs).kind=kind:=rfl
def w3T.name:w3T→Bs
 | .mk _ x _ _=>x
@[simp,go_sem] theorem w3T.z6g(kind:Int)(name:Bs)(words:(List Bs))(subs:(List w3T)):(w3T.mk kind name words subs).name=name:=rfl
def w3T.words:w3T→(List Bs)
 | .mk _ _ x _=>x
@[simp,go_sem] theorem w3T.z5c(kind:Int)(name:Bs)(words:(List Bs))(subs:(List w3T)):(w3T.mk kind name words subs).words=words:=rfl
def w3T.subs:w3T→(List w3T)
 | .mk _ _ _ x=>x
@[simp,go_sem] theorem w3T.z6h(kind:Int)(name:Bs)(words:(List Bs))(subs:(List w3T)):(w3T.mk kind name words subs).subs=subs:=rfl
instance:Inhabited w3T:=⟨.mk default default default default⟩
mutual
def w3T.cells:w3T→List D
 | .mk z6i z6j z3T z6k=>[.int .i64 z6i,.str z6j,.sl false 1 16 (rows w3X z3T),.sl false 4 72 (w3T.y9v z6k)]
def w3T.y9v:List w3T→List (List D)
 | []=>[]
 |x::l=>x.cells::w3T.y9v l
end
theorem w3T.y4I:∀l:List w3T,w3T.y9v l=rows w3T.cells l
 | []=>rfl
 |x::l=>by simp only[w3T.y9v,z1m,w3T.y4I l]
instance:x4U w3T.cells 4:=⟨fun x=>by cases x;rfl,fun x=>by cases x;rfl,fun x=>by cases x;rfl⟩
theorem w3T.w8K(x:w3T):w3T.cells x=[.int .i64 x.kind,.str x.name,.sl false 1 16 (rows w3X x.words),.sl false 4 72 (rows w3T.cells x.subs)]:=by
 cases x
 simp only[w3T.cells,w3T.y4I]
 rfl
theorem w3T.get_eq(l:List w3T)(k:Nat):(rows w3T.cells l).getD k [.int .i64 0,.str [],.sl false 1 16 [],.sl false 4 72 []]=w3T.cells (get l k):=by
 rw[←w8B (E:=w3T.cells) l k,w3T.w8K];rfl
attribute [go_sem] w3T.w8K w3T.get_eq
structure w3W where
 form:w3T
 words:(List Bs)
 w4a:(List Bs)
 parts:(List Bs)
instance:Inhabited w3W:=⟨⟨default,default,default,default⟩⟩
def w3W.cells(x:w3W):List D:=[.int .i64 x.form.kind,.str x.form.name,.sl false 1 16 (rows w3X x.form.words),.sl false 4 72 (rows w3T.cells x.form.subs),.sl false 1 16 (rows w3X x.words),.sl false 1 16 (rows w3X x.w4a),.sl false 1 16 (rows w3X x.parts)]
instance:x4U w3W.cells 7:=⟨fun _=>rfl,fun _=>rfl,fun _=>rfl⟩
theorem w3W.w8K(x:w3W):w3W.cells x=[.int .i64 x.form.kind,.str x.form.name,.sl false 1 16 (rows w3X x.form.words),.sl false 4 72 (rows w3T.cells x.form.subs),.sl false 1 16 (rows w3X x.words),.sl false 1 16 (rows w3X x.w4a),.sl false 1 16 (rows w3X x.parts)]:=rfl
theorem w3W.get_eq(l:List w3W)(k:Nat):(rows w3W.cells l).getD k [.int .i64 0,.str [],.sl false 1 16 [],.sl false 4 72 [],.sl false 1 16 [],.sl false 1 16 [],.sl false 1 16 []]=w3W.cells (get l k):=w8B (E:=w3W.cells) l k
attribute [go_sem] w3W.w8K w3W.get_eq
structure w4b where
 code:Int
 index:Int
instance:Inhabited w4b:=⟨⟨default,default⟩⟩
def w4b.cells(x:w4b):List D:=[.int .i64 x.code,.int .i64 x.index]
instance:x4U w4b.cells 2:=⟨fun _=>rfl,fun _=>rfl,fun _=>rfl⟩
theorem w4b.w8K(x:w4b):w4b.cells x=[.int .i64 x.code,.int .i64 x.index]:=rfl
theorem w4b.get_eq(l:List w4b)(k:Nat):(rows w4b.cells l).getD k [.int .i64 0,.int .i64 0]=w4b.cells (get l k):=w8B (E:=w4b.cells) l k
attribute [go_sem] w4b.w8K w4b.get_eq
structure w3V where
 name:Bs
 text:Bs
 form:w3T
instance:Inhabited w3V:=⟨⟨default,default,default⟩⟩
def w3V.cells(x:w3V):List D:=[.str x.name,.str x.text,.int .i64 x.form.kind,.str x.form.name,.sl false 1 16 (rows w3X x.form.words),.sl false 4 72 (rows w3T.cells x.form.subs)]
instance:x4U w3V.cells 6:=⟨fun _=>rfl,fun _=>rfl,fun _=>rfl⟩
theorem w3V.w8K(x:w3V):w3V.cells x=[.str x.name,.str x.text,.int .i64 x.form.kind,.str x.form.name,.sl false 1 16 (rows w3X x.form.words),.sl false 4 72 (rows w3T.cells x.form.subs)]:=rfl
theorem w3V.get_eq(l:List w3V)(k:Nat):(rows w3V.cells l).getD k [.str [],.str [],.int .i64 0,.str [],.sl false 1 16 [],.sl false 4 72 []]=w3V.cells (get l k):=w8B (E:=w3V.cells) l k
attribute [go_sem] w3V.w8K w3V.get_eq
structure w4l where
 at_:Int
 bindings:(List w3V)
instance:Inhabited w4l:=⟨⟨default,default⟩⟩
def w4l.cells(x:w4l):List D:=[.int .i64 x.at_,.sl false 6 104 (rows w3V.cells x.bindings)]
instance:x4U w4l.cells 2:=⟨fun _=>rfl,fun _=>rfl,fun _=>rfl⟩
theorem w4l.w8K(x:w4l):w4l.cells x=[.int .i64 x.at_,.sl false 6 104 (rows w3V.cells x.bindings)]:=rfl
theorem w4l.get_eq(l:List w4l)(k:Nat):(rows w4l.cells l).getD k [.int .i64 0,.sl false 6 104 []]=w4l.cells (get l k):=w8B (E:=w4l.cells) l k
attribute [go_sem] w4l.w8K w4l.get_eq
structure w3U where
 kind:Int
 name:Bs
 words:(List Bs)
 bound:(List Bool)
 end_:Int
instance:Inhabited w3U:=⟨⟨default,default,default,default,default⟩⟩
def w3U.cells(x:w3U):List D:=[.int .i64 x.kind,.str x.name,.sl false 1 16 (rows w3X x.words),.sl false 1 1 (rows x1d x.bound),.int .i64 x.end_]
instance:x4U w3U.cells 5:=⟨fun _=>rfl,fun _=>rfl,fun _=>rfl⟩
theorem w3U.w8K(x:w3U):w3U.cells x=[.int .i64 x.kind,.str x.name,.sl false 1 16 (rows w3X x.words),.sl false 1 1 (rows x1d x.bound),.int .i64 x.end_]:=rfl
theorem w3U.get_eq(l:List w3U)(k:Nat):(rows w3U.cells l).getD k [.int .i64 0,.str [],.sl false 1 16 [],.sl false 1 1 [],.int .i64 0]=w3U.cells (get l k):=w8B (E:=w3U.cells) l k
attribute [go_sem] w3U.w8K w3U.get_eq
structure w3Y where
 f:w3T
 depth:Int
instance:Inhabited w3Y:=⟨⟨default,default⟩⟩
def w3Y.cells(x:w3Y):List D:=[.int .i64 x.f.kind,.str x.f.name,.sl false 1 16 (rows w3X x.f.words),.sl false 4 72 (rows w3T.cells x.f.subs),.int .i64 x.depth]
instance:x4U w3Y.cells 5:=⟨fun _=>rfl,fun _=>rfl,fun _=>rfl⟩
theorem w3Y.w8K(x:w3Y):w3Y.cells x=[.int .i64 x.f.kind,.str x.f.name,.sl false 1 16 (rows w3X x.f.words),.sl false 4 72 (rows w3T.cells x.f.subs),.int .i64 x.depth]:=rfl
theorem w3Y.get_eq(l:List w3Y)(k:Nat):(rows w3Y.cells l).getD k [.int .i64 0,.str [],.sl false 1 16 [],.sl false 4 72 [],.int .i64 0]=w3Y.cells (get l k):=w8B (E:=w3Y.cells) l k
attribute [go_sem] w3Y.w8K w3Y.get_eq
structure w4d where
 from_:Bs
 to_:Bs
instance:Inhabited w4d:=⟨⟨default,default⟩⟩
def w4d.cells(x:w4d):List D:=[.str x.from_,.str x.to_]
instance:x4U w4d.cells 2:=⟨fun _=>rfl,fun _=>rfl,fun _=>rfl⟩
theorem w4d.w8K(x:w4d):w4d.cells x=[.str x.from_,.str x.to_]:=rfl
theorem w4d.get_eq(l:List w4d)(k:Nat):(rows w4d.cells l).getD k [.str [],.str []]=w4d.cells (get l k):=w8B (E:=w4d.cells) l k
attribute [go_sem] w4d.w8K w4d.get_eq
def z8e:(List Int):=[1,10,100,1000,10000,100000,1000000,10000000,100000000,1000000000,10000000000,100000000000,1000000000000,10000000000000,100000000000000,1000000000000000,10000000000000000,100000000000000000,1000000000000000000,10000000000000000000]
def z8f:(List Int):=[0,1,28,2,29,14,24,3,30,22,20,15,25,17,4,8,31,27,13,23,21,19,16,7,26,12,18,6,11,5,10,9]
def z8g:(List Int):=[0,1,56,2,57,49,28,3,61,58,42,50,38,29,17,4,62,47,59,36,45,43,51,22,53,39,33,30,24,18,12,5,63,55,48,27,60,41,37,16,46,35,44,21,52,32,23,11,54,26,40,15,34,20,31,10,25,14,19,9,13,8,7,6]
end Go.Proofs.YtdjnbjnlnjhllaaGreatDoor
