import GoSem.PinnedTables
import Derived.Test.YtdjnbjnlnjhllaaGreatDoorFMAm3
set_option linter.unusedVariables false
set_option linter.unusedSimpArgs false
namespace Go.Proofs.YtdjnbjnlnjhllaaGreatDoor
open Go Go.Am
inductive i8F where
 |mk (kind:Int) (name:Bs) (words:(List Bs)) (subs:(List i8F))
def i8F.kind:i8F→Int
 | .mk x _ _ _=>x
@[simp,go_sem] theorem i8F.u9L(kind:Int)(name:Bs)(words:(List Bs))(subs:(List i8F)):(i8F.mk kind name words subs).kind=kind:=rfl
def i8F.name:i8F→Bs
 | .mk _ x _ _=>x
@[simp,go_sem] theorem i8F.u9M(kind:Int)(name:Bs)(words:(List Bs))(subs:(List i8F)):(i8F.mk kind name words subs).name=name:=rfl
def i8F.words:i8F→(List Bs)
 | .mk _ _ x _=>x
@[simp,go_sem] theorem i8F.u8K(kind:Int)(name:Bs)(words:(List Bs))(subs:(List i8F)):(i8F.mk kind name words subs).words=words:=rfl
def i8F.subs:i8F→(List i8F)
 | .mk _ _ _ x=>x
@[simp,go_sem] theorem i8F.u9N(kind:Int)(name:Bs)(words:(List Bs))(subs:(List i8F)):(i8F.mk kind name words subs).subs=subs:=rfl
instance:Inhabited i8F:=⟨.mk default default default default⟩
mutual
def i8F.cells:i8F→List D
 | .mk u9O u9P u7E u9Q=>[.int .i64 u9O,.str u9P,.sl false 1 16 (rows i8K u7E),.sl false 4 72 (i8F.u3l u9Q)]
def i8F.u3l:List i8F→List (List D)
 | []=>[]
 |x::l=>x.cells::i8F.u3l l
end
theorem i8F.r8k:∀l:List i8F,i8F.u3l l=rows i8F.cells l
 | []=>rfl
 |x::l=>by simp only[i8F.u3l,u5c,i8F.r8k l]
instance:p8M i8F.cells 4:=⟨fun x=>by cases x;rfl,fun x=>by cases x;rfl,fun x=>by cases x;rfl⟩
theorem i8F.p3n(x:i8F):i8F.cells x=[.int .i64 x.kind,.str x.name,.sl false 1 16 (rows i8K x.words),.sl false 4 72 (rows i8F.cells x.subs)]:=by
 cases x
 simp only[i8F.cells,i8F.r8k]
 rfl
theorem i8F.get_eq(l:List i8F)(k:Nat):(rows i8F.cells l).getD k [.int .i64 0,.str [],.sl false 1 16 [],.sl false 4 72 []]=i8F.cells (get l k):=by
 rw[←p3d (E:=i8F.cells) l k,i8F.p3n];rfl
attribute [go_sem] i8F.p3n i8F.get_eq
structure i8I where
 form:i8F
 words:(List Bs)
 i8M:(List Bs)
 parts:(List Bs)
instance:Inhabited i8I:=⟨⟨default,default,default,default⟩⟩
def i8I.cells(x:i8I):List D:=[.int .i64 x.form.kind,.str x.form.name,.sl false 1 16 (rows i8K x.form.words),.sl false 4 72 (rows i8F.cells x.form.subs),.sl false 1 16 (rows i8K x.words),.sl false 1 16 (rows i8K x.i8M),.sl false 1 16 (rows i8K x.parts)]
instance:p8M i8I.cells 7:=⟨fun _=>rfl,fun _=>rfl,fun _=>rfl⟩
theorem i8I.p3n(x:i8I):i8I.cells x=[.int .i64 x.form.kind,.str x.form.name,.sl false 1 16 (rows i8K x.form.words),.sl false 4 72 (rows i8F.cells x.form.subs),.sl false 1 16 (rows i8K x.words),.sl false 1 16 (rows i8K x.i8M),.sl false 1 16 (rows i8K x.parts)]:=rfl
theorem i8I.get_eq(l:List i8I)(k:Nat):(rows i8I.cells l).getD k [.int .i64 0,.str [],.sl false 1 16 [],.sl false 4 72 [],.sl false 1 16 [],.sl false 1 16 [],.sl false 1 16 []]=i8I.cells (get l k):=p3d (E:=i8I.cells) l k
attribute [go_sem] i8I.p3n i8I.get_eq
structure i8N where
 code:Int
 index:Int
instance:Inhabited i8N:=⟨⟨default,default⟩⟩
def i8N.cells(x:i8N):List D:=[.int .i64 x.code,.int .i64 x.index]
instance:p8M i8N.cells 2:=⟨fun _=>rfl,fun _=>rfl,fun _=>rfl⟩
theorem i8N.p3n(x:i8N):i8N.cells x=[.int .i64 x.code,.int .i64 x.index]:=rfl
theorem i8N.get_eq(l:List i8N)(k:Nat):(rows i8N.cells l).getD k [.int .i64 0,.int .i64 0]=i8N.cells (get l k):=p3d (E:=i8N.cells) l k
attribute [go_sem] i8N.p3n i8N.get_eq
structure i8H where
 name:Bs
 text:Bs
 form:i8F
instance:Inhabited i8H:=⟨⟨default,default,default⟩⟩
def i8H.cells(x:i8H):List D:=[.str x.name,.str x.text,.int .i64 x.form.kind,.str x.form.name,.sl false 1 16 (rows i8K x.form.words),.sl false 4 72 (rows i8F.cells x.form.subs)]
instance:p8M i8H.cells 6:=⟨fun _=>rfl,fun _=>rfl,fun _=>rfl⟩
theorem i8H.p3n(x:i8H):i8H.cells x=[.str x.name,.str x.text,.int .i64 x.form.kind,.str x.form.name,.sl false 1 16 (rows i8K x.form.words),.sl false 4 72 (rows i8F.cells x.form.subs)]:=rfl
theorem i8H.get_eq(l:List i8H)(k:Nat):(rows i8H.cells l).getD k [.str [],.str [],.int .i64 0,.str [],.sl false 1 16 [],.sl false 4 72 []]=i8H.cells (get l k):=p3d (E:=i8H.cells) l k
attribute [go_sem] i8H.p3n i8H.get_eq
structure i8U where
 at_:Int
 bindings:(List i8H)
instance:Inhabited i8U:=⟨⟨default,default⟩⟩
def i8U.cells(x:i8U):List D:=[.int .i64 x.at_,.sl false 6 104 (rows i8H.cells x.bindings)]
instance:p8M i8U.cells 2:=⟨fun _=>rfl,fun _=>rfl,fun _=>rfl⟩
theorem i8U.p3n(x:i8U):i8U.cells x=[.int .i64 x.at_,.sl false 6 104 (rows i8H.cells x.bindings)]:=rfl
theorem i8U.get_eq(l:List i8U)(k:Nat):(rows i8U.cells l).getD k [.int .i64 0,.sl false 6 104 []]=i8U.cells (get l k):=p3d (E:=i8U.cells) l k
attribute [go_sem] i8U.p3n i8U.get_eq
structure i8G where
 kind:Int
 name:Bs
 words:(List Bs)
 bound:(List Bool)
 end_:Int
instance:Inhabited i8G:=⟨⟨default,default,default,default,default⟩⟩
def i8G.cells(x:i8G):List D:=[.int .i64 x.kind,.str x.name,.sl false 1 16 (rows i8K x.words),.sl false 1 1 (rows p0x x.bound),.int .i64 x.end_]
instance:p8M i8G.cells 5:=⟨fun _=>rfl,fun _=>rfl,fun _=>rfl⟩
theorem i8G.p3n(x:i8G):i8G.cells x=[.int .i64 x.kind,.str x.name,.sl false 1 16 (rows i8K x.words),.sl false 1 1 (rows p0x x.bound),.int .i64 x.end_]:=rfl
theorem i8G.get_eq(l:List i8G)(k:Nat):(rows i8G.cells l).getD k [.int .i64 0,.str [],.sl false 1 16 [],.sl false 1 1 [],.int .i64 0]=i8G.cells (get l k):=p3d (E:=i8G.cells) l k
attribute [go_sem] i8G.p3n i8G.get_eq
structure i8J where
 f:i8F
 depth:Int
instance:Inhabited i8J:=⟨⟨default,default⟩⟩
def i8J.cells(x:i8J):List D:=[.int .i64 x.f.kind,.str x.f.name,.sl false 1 16 (rows i8K x.f.words),.sl false 4 72 (rows i8F.cells x.f.subs),.int .i64 x.depth]
instance:p8M i8J.cells 5:=⟨fun _=>rfl,fun _=>rfl,fun _=>rfl⟩
theorem i8J.p3n(x:i8J):i8J.cells x=[.int .i64 x.f.kind,.str x.f.name,.sl false 1 16 (rows i8K x.f.words),.sl false 4 72 (rows i8F.cells x.f.subs),.int .i64 x.depth]:=rfl
theorem i8J.get_eq(l:List i8J)(k:Nat):(rows i8J.cells l).getD k [.int .i64 0,.str [],.sl false 1 16 [],.sl false 4 72 [],.int .i64 0]=i8J.cells (get l k):=p3d (E:=i8J.cells) l k
attribute [go_sem] i8J.p3n i8J.get_eq
structure i8P where
 from_:Bs
 to_:Bs
instance:Inhabited i8P:=⟨⟨default,default⟩⟩
def i8P.cells(x:i8P):List D:=[.str x.from_,.str x.to_]
instance:p8M i8P.cells 2:=⟨fun _=>rfl,fun _=>rfl,fun _=>rfl⟩
theorem i8P.p3n(x:i8P):i8P.cells x=[.str x.from_,.str x.to_]:=rfl
theorem i8P.get_eq(l:List i8P)(k:Nat):(rows i8P.cells l).getD k [.str [],.str []]=i8P.cells (get l k):=p3d (E:=i8P.cells) l k
attribute [go_sem] i8P.p3n i8P.get_eq
def w1R:(List Int):=[1,10,100,1000,10000,100000,1000000,10000000,100000000,1000000000,10000000000,100000000000,1000000000000,10000000000000,100000000000000,1000000000000000,10000000000000000,100000000000000000,1000000000000000000,10000000000000000000]
def w1S:(List Int):=[0,1,28,2,29,14,24,3,30,22,20,15,25,17,4,8,31,27,13,23,21,19,16,7,26,12,18,6,11,5,10,9]
def w1T:(List Int):=[0,1,56,2,57,49,28,3,61,58,42,50,38,29,17,4,62,47,59,36,45,43,51,22,53,39,33,30,24,18,12,5,63,55,48,27,60,41,37,16,46,35,44,21,52,32,23,11,54,26,40,15,34,20,31,10,25,14,19,9,13,8,7,6]
end Go.Proofs.YtdjnbjnlnjhllaaGreatDoor
