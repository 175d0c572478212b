import GoSem.PinnedTables
import Derived.Test.YtfacbpehlibilaaGreatDoorTVAm2
set_option linter.unusedVariables false
set_option linter.unusedSimpArgs false
namespace Go.Proofs.YtfacbpehlibilaaGreatDoor
open Go Go.Am
structure r5d where
 code:Int
 index:Int
instance:Inhabited r5d:=⟨⟨default,default⟩⟩
def r5d.cells(x:r5d):List D:=[.int .i64 x.code,.int .i64 x.index]
instance:u4x r5d.cells 2:=⟨fun _=>rfl,fun _=>rfl,fun _=>rfl⟩
theorem r5d.r7V(x:r5d):r5d.cells x=[.int .i64 x.code,.int .i64 x.index]:=rfl
theorem r5d.get_eq(l:List r5d)(k:Nat):(rows r5d.cells l).getD k [.int .i64 0,.int .i64 0]=r5d.cells (get l k):=r8h (E:=r5d.cells) l k
attribute [go_sem] r5d.r7V r5d.get_eq
inductive p6w where
 |mk (kind:Int) (name:Bs) (words:(List Bs)) (subs:(List p6w))
def p6w.kind:p6w→Int
 | .mk x _ _ _=>x
@[simp,go_sem] theorem p6w.y0m(kind:Int)(name:Bs)(words:(List Bs))(subs:(List p6w)):(p6w.mk kind name words subs).kind=kind:=rfl
def p6w.name:p6w→Bs
 | .mk _ x _ _=>x
@[simp,go_sem] theorem p6w.y0n(kind:Int)(name:Bs)(words:(List Bs))(subs:(List p6w)):(p6w.mk kind name words subs).name=name:=rfl
def p6w.words:p6w→(List Bs)
 | .mk _ _ x _=>x
@[simp,go_sem] theorem p6w.x9j(kind:Int)(name:Bs)(words:(List Bs))(subs:(List p6w)):(p6w.mk kind name words subs).words=words:=rfl
def p6w.subs:p6w→(List p6w)
 | .mk _ _ _ x=>x
@[simp,go_sem] theorem p6w.y0o(kind:Int)(name:Bs)(words:(List Bs))(subs:(List p6w)):(p6w.mk kind name words subs).subs=subs:=rfl
instance:Inhabited p6w:=⟨.mk default default default default⟩
mutual
def p6w.cells:p6w→List D
 | .mk y0p y0q x7V y0r=>[.int .i64 y0p,.str y0q,.sl false 1 16 (rows r4X x7V),.sl false 4 72 (p6w.x2K y0r)]
def p6w.x2K:List p6w→List (List D)
 | []=>[]
 |x::l=>x.cells::p6w.x2K l
end
theorem p6w.w7c:∀l:List p6w,p6w.x2K l=rows p6w.cells l
 | []=>rfl
 |x::l=>by simp only[p6w.x2K,x4G,p6w.w7c l]
instance:u4x p6w.cells 4:=⟨fun x=>by cases x;rfl,fun x=>by cases x;rfl,fun x=>by cases x;rfl⟩
theorem p6w.r7V(x:p6w):p6w.cells x=[.int .i64 x.kind,.str x.name,.sl false 1 16 (rows r4X x.words),.sl false 4 72 (rows p6w.cells x.subs)]:=by
 cases x
 simp only[p6w.cells,p6w.w7c]
 rfl
theorem p6w.get_eq(l:List p6w)(k:Nat):(rows p6w.cells l).getD k [.int .i64 0,.str [],.sl false 1 16 [],.sl false 4 72 []]=p6w.cells (get l k):=by
 rw[←r8h (E:=p6w.cells) l k,p6w.r7V];rfl
attribute [go_sem] p6w.r7V p6w.get_eq
structure r4W where
 at_:Int
 rule:Int
instance:Inhabited r4W:=⟨⟨default,default⟩⟩
def r4W.cells(x:r4W):List D:=[.int .i64 x.at_,.int .i64 x.rule]
instance:u4x r4W.cells 2:=⟨fun _=>rfl,fun _=>rfl,fun _=>rfl⟩
theorem r4W.r7V(x:r4W):r4W.cells x=[.int .i64 x.at_,.int .i64 x.rule]:=rfl
theorem r4W.get_eq(l:List r4W)(k:Nat):(rows r4W.cells l).getD k [.int .i64 0,.int .i64 0]=r4W.cells (get l k):=r8h (E:=r4W.cells) l k
attribute [go_sem] r4W.r7V r4W.get_eq
structure r5b where
 form:p6w
 words:(List Bs)
 r5o:(List Bs)
 parts:(List Bs)
instance:Inhabited r5b:=⟨⟨default,default,default,default⟩⟩
def r5b.cells(x:r5b):List D:=[.int .i64 x.form.kind,.str x.form.name,.sl false 1 16 (rows r4X x.form.words),.sl false 4 72 (rows p6w.cells x.form.subs),.sl false 1 16 (rows r4X x.words),.sl false 1 16 (rows r4X x.r5o),.sl false 1 16 (rows r4X x.parts)]
instance:u4x r5b.cells 7:=⟨fun _=>rfl,fun _=>rfl,fun _=>rfl⟩
theorem r5b.r7V(x:r5b):r5b.cells x=[.int .i64 x.form.kind,.str x.form.name,.sl false 1 16 (rows r4X x.form.words),.sl false 4 72 (rows p6w.cells x.form.subs),.sl false 1 16 (rows r4X x.words),.sl false 1 16 (rows r4X x.r5o),.sl false 1 16 (rows r4X x.parts)]:=rfl
theorem r5b.get_eq(l:List r5b)(k:Nat):(rows r5b.cells l).getD k [.int .i64 0,.str [],.sl false 1 16 [],.sl false 4 72 [],.sl false 1 16 [],.sl false 1 16 [],.sl false 1 16 []]=r5b.cells (get l k):=r8h (E:=r5b.cells) l k
attribute [go_sem] r5b.r7V r5b.get_eq
structure r4V where
 from_:r5b
 to_:p6w
instance:Inhabited r4V:=⟨⟨default,default⟩⟩
def r4V.cells(x:r4V):List D:=[.int .i64 x.from_.form.kind,.str x.from_.form.name,.sl false 1 16 (rows r4X x.from_.form.words),.sl false 4 72 (rows p6w.cells x.from_.form.subs),.sl false 1 16 (rows r4X x.from_.words),.sl false 1 16 (rows r4X x.from_.r5o),.sl false 1 16 (rows r4X x.from_.parts),.int .i64 x.to_.kind,.str x.to_.name,.sl false 1 16 (rows r4X x.to_.words),.sl false 4 72 (rows p6w.cells x.to_.subs)]
instance:u4x r4V.cells 11:=⟨fun _=>rfl,fun _=>rfl,fun _=>rfl⟩
theorem r4V.r7V(x:r4V):r4V.cells x=[.int .i64 x.from_.form.kind,.str x.from_.form.name,.sl false 1 16 (rows r4X x.from_.form.words),.sl false 4 72 (rows p6w.cells x.from_.form.subs),.sl false 1 16 (rows r4X x.from_.words),.sl false 1 16 (rows r4X x.from_.r5o),.sl false 1 16 (rows r4X x.from_.parts),.int .i64 x.to_.kind,.str x.to_.name,.sl false 1 16 (rows r4X x.to_.words),.sl false 4 72 (rows p6w.cells x.to_.subs)]:=rfl
theorem r4V.get_eq(l:List r4V)(k:Nat):(rows r4V.cells l).getD k [.int .i64 0,.str [],.sl false 1 16 [],.sl false 4 72 [],.sl false 1 16 [],.sl false 1 16 [],.sl false 1 16 [],.int .i64 0,.str [],.sl false 1 16 [],.sl false 4 72 []]=r4V.cells (get l k):=r8h (E:=r4V.cells) l k
attribute [go_sem] r4V.r7V r4V.get_eq
structure r4U where
 kind:Int
 name:Bs
 words:(List Bs)
 bound:(List Bool)
 end_:Int
instance:Inhabited r4U:=⟨⟨default,default,default,default,default⟩⟩
def r4U.cells(x:r4U):List D:=[.int .i64 x.kind,.str x.name,.sl false 1 16 (rows r4X x.words),.sl false 1 1 (rows u2l x.bound),.int .i64 x.end_]
instance:u4x r4U.cells 5:=⟨fun _=>rfl,fun _=>rfl,fun _=>rfl⟩
theorem r4U.r7V(x:r4U):r4U.cells x=[.int .i64 x.kind,.str x.name,.sl false 1 16 (rows r4X x.words),.sl false 1 1 (rows u2l x.bound),.int .i64 x.end_]:=rfl
theorem r4U.get_eq(l:List r4U)(k:Nat):(rows r4U.cells l).getD k [.int .i64 0,.str [],.sl false 1 16 [],.sl false 1 1 [],.int .i64 0]=r4U.cells (get l k):=r8h (E:=r4U.cells) l k
attribute [go_sem] r4U.r7V r4U.get_eq
structure r4Z where
 form:p6w
 nodes:Int
 depth:Int
instance:Inhabited r4Z:=⟨⟨default,default,default⟩⟩
def r4Z.cells(x:r4Z):List D:=[.int .i64 x.form.kind,.str x.form.name,.sl false 1 16 (rows r4X x.form.words),.sl false 4 72 (rows p6w.cells x.form.subs),.int .i64 x.nodes,.int .i64 x.depth]
instance:u4x r4Z.cells 6:=⟨fun _=>rfl,fun _=>rfl,fun _=>rfl⟩
theorem r4Z.r7V(x:r4Z):r4Z.cells x=[.int .i64 x.form.kind,.str x.form.name,.sl false 1 16 (rows r4X x.form.words),.sl false 4 72 (rows p6w.cells x.form.subs),.int .i64 x.nodes,.int .i64 x.depth]:=rfl
theorem r4Z.get_eq(l:List r4Z)(k:Nat):(rows r4Z.cells l).getD k [.int .i64 0,.str [],.sl false 1 16 [],.sl false 4 72 [],.int .i64 0,.int .i64 0]=r4Z.cells (get l k):=r8h (E:=r4Z.cells) l k
attribute [go_sem] r4Z.r7V r4Z.get_eq
structure r5a where
 f:p6w
 depth:Int
instance:Inhabited r5a:=⟨⟨default,default⟩⟩
def r5a.cells(x:r5a):List D:=[.int .i64 x.f.kind,.str x.f.name,.sl false 1 16 (rows r4X x.f.words),.sl false 4 72 (rows p6w.cells x.f.subs),.int .i64 x.depth]
instance:u4x r5a.cells 5:=⟨fun _=>rfl,fun _=>rfl,fun _=>rfl⟩
theorem r5a.r7V(x:r5a):r5a.cells x=[.int .i64 x.f.kind,.str x.f.name,.sl false 1 16 (rows r4X x.f.words),.sl false 4 72 (rows p6w.cells x.f.subs),.int .i64 x.depth]:=rfl
theorem r5a.get_eq(l:List r5a)(k:Nat):(rows r5a.cells l).getD k [.int .i64 0,.str [],.sl false 1 16 [],.sl false 4 72 [],.int .i64 0]=r5a.cells (get l k):=r8h (E:=r5a.cells) l k
attribute [go_sem] r5a.r7V r5a.get_eq
structure r4Y where
 name:Bs
 text:Bs
 form:p6w
instance:Inhabited r4Y:=⟨⟨default,default,default⟩⟩
def r4Y.cells(x:r4Y):List D:=[.str x.name,.str x.text,.int .i64 x.form.kind,.str x.form.name,.sl false 1 16 (rows r4X x.form.words),.sl false 4 72 (rows p6w.cells x.form.subs)]
instance:u4x r4Y.cells 6:=⟨fun _=>rfl,fun _=>rfl,fun _=>rfl⟩
theorem r4Y.r7V(x:r4Y):r4Y.cells x=[.str x.name,.str x.text,.int .i64 x.form.kind,.str x.form.name,.sl false 1 16 (rows r4X x.form.words),.sl false 4 72 (rows p6w.cells x.form.subs)]:=rfl
theorem r4Y.get_eq(l:List r4Y)(k:Nat):(rows r4Y.cells l).getD k [.str [],.str [],.int .i64 0,.str [],.sl false 1 16 [],.sl false 4 72 []]=r4Y.cells (get l k):=r8h (E:=r4Y.cells) l k
attribute [go_sem] r4Y.r7V r4Y.get_eq
structure r5i where
 from_:Bs
 to_:Bs
instance:Inhabited r5i:=⟨⟨default,default⟩⟩
def r5i.cells(x:r5i):List D:=[.str x.from_,.str x.to_]
instance:u4x r5i.cells 2:=⟨fun _=>rfl,fun _=>rfl,fun _=>rfl⟩
theorem r5i.r7V(x:r5i):r5i.cells x=[.str x.from_,.str x.to_]:=rfl
theorem r5i.get_eq(l:List r5i)(k:Nat):(rows r5i.cells l).getD k [.str [],.str []]=r5i.cells (get l k):=r8h (E:=r5i.cells) l k
attribute [go_sem] r5i.r7V r5i.get_eq
def y2t:(List Int):=[1,10,100,1000,10000,100000,1000000,10000000,100000000,1000000000,10000000000,100000000000,1000000000000,10000000000000,100000000000000,1000000000000000,10000000000000000,100000000000000000,1000000000000000000,10000000000000000000]
def y2u:(List Int):=[0,1,28,2,29,14,24,3,30,22,20,15,25,17,4,8,31,27,13,23,21,19,16,7,26,12,18,6,11,5,10,9]
def y2v:(List Int):=[0,1,56,2,57,49,28,3,61,58,42,50,38,29,17,4,62,47,59,36,45,43,51,22,53,39,33,30,24,18,12,5,63,55,48,27,60,41,37,16,46,35,44,21,52,32,23,11,54,26,40,15,34,20,31,10,25,14,19,9,13,8,7,6]
end Go.Proofs.YtfacbpehlibilaaGreatDoor
