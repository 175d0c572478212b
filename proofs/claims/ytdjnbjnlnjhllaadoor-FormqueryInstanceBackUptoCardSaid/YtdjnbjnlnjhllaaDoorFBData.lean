import GoSem.PinnedTables
import Derived.Test.YtdjnbjnlnjhllaaDoorFBAm3
set_option linter.unusedVariables false
set_option linter.unusedSimpArgs false
namespace Go.Proofs.YtdjnbjnlnjhllaaDoor
open Go Go.Am
inductive LZ where
 |mk (kind:Int) (name:Bs) (words:(List Bs)) (subs:(List LZ))
def LZ.kind:LZ→Int
 | .mk x _ _ _=>x
@[simp,go_sem] theorem LZ.i4P(kind:Int)(name:Bs)(words:(List Bs))(subs:(List LZ)):(LZ.mk kind name words subs).kind=kind:=rfl
def LZ.name:LZ→Bs
 | .mk _ x _ _=>x
@[simp,go_sem] theorem LZ.i4Q(kind:Int)(name:Bs)(words:(List Bs))(subs:(List LZ)):(LZ.mk kind name words subs).name=name:=rfl
def LZ.words:LZ→(List Bs)
 | .mk _ _ x _=>x
@[simp,go_sem] theorem LZ.i3N(kind:Int)(name:Bs)(words:(List Bs))(subs:(List LZ)):(LZ.mk kind name words subs).words=words:=rfl
def LZ.subs:LZ→(List LZ)
 | .mk _ _ _ x=>x
@[simp,go_sem] theorem LZ.i4R(kind:Int)(name:Bs)(words:(List Bs))(subs:(List LZ)):(LZ.mk kind name words subs).subs=subs:=rfl
instance:Inhabited LZ:=⟨.mk default default default default⟩
mutual
def LZ.cells:LZ→List D
 | .mk i4S i4T i2T i4U=>[.int .i64 i4S,.str i4T,.sl false 1 16 (rows Me i2T),.sl false 4 72 (LZ.d8O i4U)]
def LZ.d8O:List LZ→List (List D)
 | []=>[]
 |x::l=>x.cells::LZ.d8O l
end
theorem LZ.d4h:∀l:List LZ,LZ.d8O l=rows LZ.cells l
 | []=>rfl
 |x::l=>by simp only[LZ.d8O,i0q,LZ.d4h l]
instance:Uw LZ.cells 4:=⟨fun x=>by cases x;rfl,fun x=>by cases x;rfl,fun x=>by cases x;rfl⟩
theorem LZ.PA(x:LZ):LZ.cells x=[.int .i64 x.kind,.str x.name,.sl false 1 16 (rows Me x.words),.sl false 4 72 (rows LZ.cells x.subs)]:=by
 cases x
 simp only[LZ.cells,LZ.d4h]
 rfl
theorem LZ.get_eq(l:List LZ)(k:Nat):(rows LZ.cells l).getD k [.int .i64 0,.str [],.sl false 1 16 [],.sl false 4 72 []]=LZ.cells (get l k):=by
 rw[←Oy (E:=LZ.cells) l k,LZ.PA];rfl
attribute [go_sem] LZ.PA LZ.get_eq
structure Mb where
 form:LZ
 words:(List Bs)
 Mj:(List Bs)
 parts:(List Bs)
instance:Inhabited Mb:=⟨⟨default,default,default,default⟩⟩
def Mb.cells(x:Mb):List D:=[.int .i64 x.form.kind,.str x.form.name,.sl false 1 16 (rows Me x.form.words),.sl false 4 72 (rows LZ.cells x.form.subs),.sl false 1 16 (rows Me x.words),.sl false 1 16 (rows Me x.Mj),.sl false 1 16 (rows Me x.parts)]
instance:Uw Mb.cells 7:=⟨fun _=>rfl,fun _=>rfl,fun _=>rfl⟩
theorem Mb.PA(x:Mb):Mb.cells x=[.int .i64 x.form.kind,.str x.form.name,.sl false 1 16 (rows Me x.form.words),.sl false 4 72 (rows LZ.cells x.form.subs),.sl false 1 16 (rows Me x.words),.sl false 1 16 (rows Me x.Mj),.sl false 1 16 (rows Me x.parts)]:=rfl
theorem Mb.get_eq(l:List Mb)(k:Nat):(rows Mb.cells l).getD k [.int .i64 0,.str [],.sl false 1 16 [],.sl false 4 72 [],.sl false 1 16 [],.sl false 1 16 [],.sl false 1 16 []]=Mb.cells (get l k):=Oy (E:=Mb.cells) l k
attribute [go_sem] Mb.PA Mb.get_eq
structure Mi where
 code:Int
 index:Int
instance:Inhabited Mi:=⟨⟨default,default⟩⟩
def Mi.cells(x:Mi):List D:=[.int .i64 x.code,.int .i64 x.index]
instance:Uw Mi.cells 2:=⟨fun _=>rfl,fun _=>rfl,fun _=>rfl⟩
theorem Mi.PA(x:Mi):Mi.cells x=[.int .i64 x.code,.int .i64 x.index]:=rfl
theorem Mi.get_eq(l:List Mi)(k:Nat):(rows Mi.cells l).getD k [.int .i64 0,.int .i64 0]=Mi.cells (get l k):=Oy (E:=Mi.cells) l k
attribute [go_sem] Mi.PA Mi.get_eq
structure Ma where
 name:Bs
 text:Bs
 form:LZ
instance:Inhabited Ma:=⟨⟨default,default,default⟩⟩
def Ma.cells(x:Ma):List D:=[.str x.name,.str x.text,.int .i64 x.form.kind,.str x.form.name,.sl false 1 16 (rows Me x.form.words),.sl false 4 72 (rows LZ.cells x.form.subs)]
instance:Uw Ma.cells 6:=⟨fun _=>rfl,fun _=>rfl,fun _=>rfl⟩
theorem Ma.PA(x:Ma):Ma.cells x=[.str x.name,.str x.text,.int .i64 x.form.kind,.str x.form.name,.sl false 1 16 (rows Me x.form.words),.sl false 4 72 (rows LZ.cells x.form.subs)]:=rfl
theorem Ma.get_eq(l:List Ma)(k:Nat):(rows Ma.cells l).getD k [.str [],.str [],.int .i64 0,.str [],.sl false 1 16 [],.sl false 4 72 []]=Ma.cells (get l k):=Oy (E:=Ma.cells) l k
attribute [go_sem] Ma.PA Ma.get_eq
structure Ml where
 at_:Int
 bindings:(List Ma)
instance:Inhabited Ml:=⟨⟨default,default⟩⟩
def Ml.cells(x:Ml):List D:=[.int .i64 x.at_,.sl false 6 104 (rows Ma.cells x.bindings)]
instance:Uw Ml.cells 2:=⟨fun _=>rfl,fun _=>rfl,fun _=>rfl⟩
theorem Ml.PA(x:Ml):Ml.cells x=[.int .i64 x.at_,.sl false 6 104 (rows Ma.cells x.bindings)]:=rfl
theorem Ml.get_eq(l:List Ml)(k:Nat):(rows Ml.cells l).getD k [.int .i64 0,.sl false 6 104 []]=Ml.cells (get l k):=Oy (E:=Ml.cells) l k
attribute [go_sem] Ml.PA Ml.get_eq
structure Mr where
 kind:Int
 name:Bs
 words:(List Bs)
 bound:(List Bool)
 end_:Int
instance:Inhabited Mr:=⟨⟨default,default,default,default,default⟩⟩
def Mr.cells(x:Mr):List D:=[.int .i64 x.kind,.str x.name,.sl false 1 16 (rows Me x.words),.sl false 1 1 (rows d3g x.bound),.int .i64 x.end_]
instance:Uw Mr.cells 5:=⟨fun _=>rfl,fun _=>rfl,fun _=>rfl⟩
theorem Mr.PA(x:Mr):Mr.cells x=[.int .i64 x.kind,.str x.name,.sl false 1 16 (rows Me x.words),.sl false 1 1 (rows d3g x.bound),.int .i64 x.end_]:=rfl
theorem Mr.get_eq(l:List Mr)(k:Nat):(rows Mr.cells l).getD k [.int .i64 0,.str [],.sl false 1 16 [],.sl false 1 1 [],.int .i64 0]=Mr.cells (get l k):=Oy (E:=Mr.cells) l k
attribute [go_sem] Mr.PA Mr.get_eq
structure Md where
 f:LZ
 depth:Int
instance:Inhabited Md:=⟨⟨default,default⟩⟩
def Md.cells(x:Md):List D:=[.int .i64 x.f.kind,.str x.f.name,.sl false 1 16 (rows Me x.f.words),.sl false 4 72 (rows LZ.cells x.f.subs),.int .i64 x.depth]
instance:Uw Md.cells 5:=⟨fun _=>rfl,fun _=>rfl,fun _=>rfl⟩
theorem Md.PA(x:Md):Md.cells x=[.int .i64 x.f.kind,.str x.f.name,.sl false 1 16 (rows Me x.f.words),.sl false 4 72 (rows LZ.cells x.f.subs),.int .i64 x.depth]:=rfl
theorem Md.get_eq(l:List Md)(k:Nat):(rows Md.cells l).getD k [.int .i64 0,.str [],.sl false 1 16 [],.sl false 4 72 [],.int .i64 0]=Md.cells (get l k):=Oy (E:=Md.cells) l k
attribute [go_sem] Md.PA Md.get_eq
structure Mg where
 from_:Bs
 to_:Bs
instance:Inhabited Mg:=⟨⟨default,default⟩⟩
def Mg.cells(x:Mg):List D:=[.str x.from_,.str x.to_]
instance:Uw Mg.cells 2:=⟨fun _=>rfl,fun _=>rfl,fun _=>rfl⟩
theorem Mg.PA(x:Mg):Mg.cells x=[.str x.from_,.str x.to_]:=rfl
theorem Mg.get_eq(l:List Mg)(k:Nat):(rows Mg.cells l).getD k [.str [],.str []]=Mg.cells (get l k):=Oy (E:=Mg.cells) l k
attribute [go_sem] Mg.PA Mg.get_eq
def i6J:(List Int):=[1,10,100,1000,10000,100000,1000000,10000000,100000000,1000000000,10000000000,100000000000,1000000000000,10000000000000,100000000000000,1000000000000000,10000000000000000,100000000000000000,1000000000000000000,10000000000000000000]
def i6K:(List Int):=[0,1,28,2,29,14,24,3,30,22,20,15,25,17,4,8,31,27,13,23,21,19,16,7,26,12,18,6,11,5,10,9]
def i6L:(List Int):=[0,1,56,2,57,49,28,3,61,58,42,50,38,29,17,4,62,47,59,36,45,43,51,22,53,39,33,30,24,18,12,5,63,55,48,27,60,41,37,16,46,35,44,21,52,32,23,11,54,26,40,15,34,20,31,10,25,14,19,9,13,8,7,6]
end Go.Proofs.YtdjnbjnlnjhllaaDoor
