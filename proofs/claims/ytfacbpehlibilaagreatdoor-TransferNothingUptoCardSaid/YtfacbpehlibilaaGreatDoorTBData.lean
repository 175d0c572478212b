import GoSem.PinnedTables
import Derived.Test.YtfacbpehlibilaaGreatDoorTBAm2
set_option linter.unusedVariables false
set_option linter.unusedSimpArgs false
namespace Go.Proofs.YtfacbpehlibilaaGreatDoor
open Go Go.Am
structure OL where
 code:Int
 index:Int
instance:Inhabited OL:=⟨⟨default,default⟩⟩
def OL.cells(x:OL):List D:=[.int .i64 x.code,.int .i64 x.index]
instance:XW OL.cells 2:=⟨fun _=>rfl,fun _=>rfl,fun _=>rfl⟩
theorem OL.TN(x:OL):OL.cells x=[.int .i64 x.code,.int .i64 x.index]:=rfl
theorem OL.get_eq(l:List OL)(k:Nat):(rows OL.cells l).getD k [.int .i64 0,.int .i64 0]=OL.cells (get l k):=QU (E:=OL.cells) l k
attribute [go_sem] OL.TN OL.get_eq
inductive Ox where
 |mk (kind:Int) (name:Bs) (words:(List Bs)) (subs:(List Ox))
def Ox.kind:Ox→Int
 | .mk x _ _ _=>x
@[simp,go_sem] theorem Ox.i9E(kind:Int)(name:Bs)(words:(List Bs))(subs:(List Ox)):(Ox.mk kind name words subs).kind=kind:=rfl
def Ox.name:Ox→Bs
 | .mk _ x _ _=>x
@[simp,go_sem] theorem Ox.i9F(kind:Int)(name:Bs)(words:(List Bs))(subs:(List Ox)):(Ox.mk kind name words subs).name=name:=rfl
def Ox.words:Ox→(List Bs)
 | .mk _ _ x _=>x
@[simp,go_sem] theorem Ox.i8I(kind:Int)(name:Bs)(words:(List Bs))(subs:(List Ox)):(Ox.mk kind name words subs).words=words:=rfl
def Ox.subs:Ox→(List Ox)
 | .mk _ _ _ x=>x
@[simp,go_sem] theorem Ox.i9G(kind:Int)(name:Bs)(words:(List Bs))(subs:(List Ox)):(Ox.mk kind name words subs).subs=subs:=rfl
instance:Inhabited Ox:=⟨.mk default default default default⟩
mutual
def Ox.cells:Ox→List D
 | .mk i9H i9I i7F i9J=>[.int .i64 i9H,.str i9I,.sl false 1 16 (rows OC i7F),.sl false 4 72 (Ox.i3d i9J)]
def Ox.i3d:List Ox→List (List D)
 | []=>[]
 |x::l=>x.cells::Ox.i3d l
end
theorem Ox.d8r:∀l:List Ox,Ox.i3d l=rows Ox.cells l
 | []=>rfl
 |x::l=>by simp only[Ox.i3d,i4R,Ox.d8r l]
instance:XW Ox.cells 4:=⟨fun x=>by cases x;rfl,fun x=>by cases x;rfl,fun x=>by cases x;rfl⟩
theorem Ox.TN(x:Ox):Ox.cells x=[.int .i64 x.kind,.str x.name,.sl false 1 16 (rows OC x.words),.sl false 4 72 (rows Ox.cells x.subs)]:=by
 cases x
 simp only[Ox.cells,Ox.d8r]
 rfl
theorem Ox.get_eq(l:List Ox)(k:Nat):(rows Ox.cells l).getD k [.int .i64 0,.str [],.sl false 1 16 [],.sl false 4 72 []]=Ox.cells (get l k):=by
 rw[←QU (E:=Ox.cells) l k,Ox.TN];rfl
attribute [go_sem] Ox.TN Ox.get_eq
structure Oy where
 at_:Int
 rule:Int
instance:Inhabited Oy:=⟨⟨default,default⟩⟩
def Oy.cells(x:Oy):List D:=[.int .i64 x.at_,.int .i64 x.rule]
instance:XW Oy.cells 2:=⟨fun _=>rfl,fun _=>rfl,fun _=>rfl⟩
theorem Oy.TN(x:Oy):Oy.cells x=[.int .i64 x.at_,.int .i64 x.rule]:=rfl
theorem Oy.get_eq(l:List Oy)(k:Nat):(rows Oy.cells l).getD k [.int .i64 0,.int .i64 0]=Oy.cells (get l k):=QU (E:=Oy.cells) l k
attribute [go_sem] Oy.TN Oy.get_eq
structure OG where
 form:Ox
 words:(List Bs)
 PA:(List Bs)
 parts:(List Bs)
instance:Inhabited OG:=⟨⟨default,default,default,default⟩⟩
def OG.cells(x:OG):List D:=[.int .i64 x.form.kind,.str x.form.name,.sl false 1 16 (rows OC x.form.words),.sl false 4 72 (rows Ox.cells x.form.subs),.sl false 1 16 (rows OC x.words),.sl false 1 16 (rows OC x.PA),.sl false 1 16 (rows OC x.parts)]
instance:XW OG.cells 7:=⟨fun _=>rfl,fun _=>rfl,fun _=>rfl⟩
theorem OG.TN(x:OG):OG.cells x=[.int .i64 x.form.kind,.str x.form.name,.sl false 1 16 (rows OC x.form.words),.sl false 4 72 (rows Ox.cells x.form.subs),.sl false 1 16 (rows OC x.words),.sl false 1 16 (rows OC x.PA),.sl false 1 16 (rows OC x.parts)]:=rfl
theorem OG.get_eq(l:List OG)(k:Nat):(rows OG.cells l).getD k [.int .i64 0,.str [],.sl false 1 16 [],.sl false 4 72 [],.sl false 1 16 [],.sl false 1 16 [],.sl false 1 16 []]=OG.cells (get l k):=QU (E:=OG.cells) l k
attribute [go_sem] OG.TN OG.get_eq
structure Oz where
 from_:OG
 to_:Ox
instance:Inhabited Oz:=⟨⟨default,default⟩⟩
def Oz.cells(x:Oz):List D:=[.int .i64 x.from_.form.kind,.str x.from_.form.name,.sl false 1 16 (rows OC x.from_.form.words),.sl false 4 72 (rows Ox.cells x.from_.form.subs),.sl false 1 16 (rows OC x.from_.words),.sl false 1 16 (rows OC x.from_.PA),.sl false 1 16 (rows OC x.from_.parts),.int .i64 x.to_.kind,.str x.to_.name,.sl false 1 16 (rows OC x.to_.words),.sl false 4 72 (rows Ox.cells x.to_.subs)]
instance:XW Oz.cells 11:=⟨fun _=>rfl,fun _=>rfl,fun _=>rfl⟩
theorem Oz.TN(x:Oz):Oz.cells x=[.int .i64 x.from_.form.kind,.str x.from_.form.name,.sl false 1 16 (rows OC x.from_.form.words),.sl false 4 72 (rows Ox.cells x.from_.form.subs),.sl false 1 16 (rows OC x.from_.words),.sl false 1 16 (rows OC x.from_.PA),.sl false 1 16 (rows OC x.from_.parts),.int .i64 x.to_.kind,.str x.to_.name,.sl false 1 16 (rows OC x.to_.words),.sl false 4 72 (rows Ox.cells x.to_.subs)]:=rfl
theorem Oz.get_eq(l:List Oz)(k:Nat):(rows Oz.cells l).getD k [.int .i64 0,.str [],.sl false 1 16 [],.sl false 4 72 [],.sl false 1 16 [],.sl false 1 16 [],.sl false 1 16 [],.int .i64 0,.str [],.sl false 1 16 [],.sl false 4 72 []]=Oz.cells (get l k):=QU (E:=Oz.cells) l k
attribute [go_sem] Oz.TN Oz.get_eq
structure Pb where
 kind:Int
 name:Bs
 words:(List Bs)
 bound:(List Bool)
 end_:Int
instance:Inhabited Pb:=⟨⟨default,default,default,default,default⟩⟩
def Pb.cells(x:Pb):List D:=[.int .i64 x.kind,.str x.name,.sl false 1 16 (rows OC x.words),.sl false 1 1 (rows d7q x.bound),.int .i64 x.end_]
instance:XW Pb.cells 5:=⟨fun _=>rfl,fun _=>rfl,fun _=>rfl⟩
theorem Pb.TN(x:Pb):Pb.cells x=[.int .i64 x.kind,.str x.name,.sl false 1 16 (rows OC x.words),.sl false 1 1 (rows d7q x.bound),.int .i64 x.end_]:=rfl
theorem Pb.get_eq(l:List Pb)(k:Nat):(rows Pb.cells l).getD k [.int .i64 0,.str [],.sl false 1 16 [],.sl false 1 1 [],.int .i64 0]=Pb.cells (get l k):=QU (E:=Pb.cells) l k
attribute [go_sem] Pb.TN Pb.get_eq
structure OA where
 form:Ox
 nodes:Int
 depth:Int
instance:Inhabited OA:=⟨⟨default,default,default⟩⟩
def OA.cells(x:OA):List D:=[.int .i64 x.form.kind,.str x.form.name,.sl false 1 16 (rows OC x.form.words),.sl false 4 72 (rows Ox.cells x.form.subs),.int .i64 x.nodes,.int .i64 x.depth]
instance:XW OA.cells 6:=⟨fun _=>rfl,fun _=>rfl,fun _=>rfl⟩
theorem OA.TN(x:OA):OA.cells x=[.int .i64 x.form.kind,.str x.form.name,.sl false 1 16 (rows OC x.form.words),.sl false 4 72 (rows Ox.cells x.form.subs),.int .i64 x.nodes,.int .i64 x.depth]:=rfl
theorem OA.get_eq(l:List OA)(k:Nat):(rows OA.cells l).getD k [.int .i64 0,.str [],.sl false 1 16 [],.sl false 4 72 [],.int .i64 0,.int .i64 0]=OA.cells (get l k):=QU (E:=OA.cells) l k
attribute [go_sem] OA.TN OA.get_eq
structure OX where
 f:Ox
 depth:Int
instance:Inhabited OX:=⟨⟨default,default⟩⟩
def OX.cells(x:OX):List D:=[.int .i64 x.f.kind,.str x.f.name,.sl false 1 16 (rows OC x.f.words),.sl false 4 72 (rows Ox.cells x.f.subs),.int .i64 x.depth]
instance:XW OX.cells 5:=⟨fun _=>rfl,fun _=>rfl,fun _=>rfl⟩
theorem OX.TN(x:OX):OX.cells x=[.int .i64 x.f.kind,.str x.f.name,.sl false 1 16 (rows OC x.f.words),.sl false 4 72 (rows Ox.cells x.f.subs),.int .i64 x.depth]:=rfl
theorem OX.get_eq(l:List OX)(k:Nat):(rows OX.cells l).getD k [.int .i64 0,.str [],.sl false 1 16 [],.sl false 4 72 [],.int .i64 0]=OX.cells (get l k):=QU (E:=OX.cells) l k
attribute [go_sem] OX.TN OX.get_eq
structure OB where
 name:Bs
 text:Bs
 form:Ox
instance:Inhabited OB:=⟨⟨default,default,default⟩⟩
def OB.cells(x:OB):List D:=[.str x.name,.str x.text,.int .i64 x.form.kind,.str x.form.name,.sl false 1 16 (rows OC x.form.words),.sl false 4 72 (rows Ox.cells x.form.subs)]
instance:XW OB.cells 6:=⟨fun _=>rfl,fun _=>rfl,fun _=>rfl⟩
theorem OB.TN(x:OB):OB.cells x=[.str x.name,.str x.text,.int .i64 x.form.kind,.str x.form.name,.sl false 1 16 (rows OC x.form.words),.sl false 4 72 (rows Ox.cells x.form.subs)]:=rfl
theorem OB.get_eq(l:List OB)(k:Nat):(rows OB.cells l).getD k [.str [],.str [],.int .i64 0,.str [],.sl false 1 16 [],.sl false 4 72 []]=OB.cells (get l k):=QU (E:=OB.cells) l k
attribute [go_sem] OB.TN OB.get_eq
structure OJ where
 from_:Bs
 to_:Bs
instance:Inhabited OJ:=⟨⟨default,default⟩⟩
def OJ.cells(x:OJ):List D:=[.str x.from_,.str x.to_]
instance:XW OJ.cells 2:=⟨fun _=>rfl,fun _=>rfl,fun _=>rfl⟩
theorem OJ.TN(x:OJ):OJ.cells x=[.str x.from_,.str x.to_]:=rfl
theorem OJ.get_eq(l:List OJ)(k:Nat):(rows OJ.cells l).getD k [.str [],.str []]=OJ.cells (get l k):=QU (E:=OJ.cells) l k
attribute [go_sem] OJ.TN OJ.get_eq
def p1E:(List Int):=[1,10,100,1000,10000,100000,1000000,10000000,100000000,1000000000,10000000000,100000000000,1000000000000,10000000000000,100000000000000,1000000000000000,10000000000000000,100000000000000000,1000000000000000000,10000000000000000000]
def p1F:(List Int):=[0,1,28,2,29,14,24,3,30,22,20,15,25,17,4,8,31,27,13,23,21,19,16,7,26,12,18,6,11,5,10,9]
def p1G:(List Int):=[0,1,56,2,57,49,28,3,61,58,42,50,38,29,17,4,62,47,59,36,45,43,51,22,53,39,33,30,24,18,12,5,63,55,48,27,60,41,37,16,46,35,44,21,52,32,23,11,54,26,40,15,34,20,31,10,25,14,19,9,13,8,7,6]
end Go.Proofs.YtfacbpehlibilaaGreatDoor
