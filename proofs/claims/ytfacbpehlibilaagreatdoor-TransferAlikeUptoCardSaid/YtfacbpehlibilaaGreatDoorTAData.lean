import GoSem.PinnedTables
import Derived.Test.YtfacbpehlibilaaGreatDoorTAAm2
set_option linter.unusedVariables false
set_option linter.unusedSimpArgs false
namespace Go.Proofs.YtfacbpehlibilaaGreatDoor
open Go Go.Am
structure WC where
 code:Int
 index:Int
instance:Inhabited WC:=⟨⟨default,default⟩⟩
def WC.cells(x:WC):List D:=[.int .i64 x.code,.int .i64 x.index]
instance:d4D WC.cells 2:=⟨fun _=>rfl,fun _=>rfl,fun _=>rfl⟩
theorem WC.Yw(x:WC):WC.cells x=[.int .i64 x.code,.int .i64 x.index]:=rfl
theorem WC.get_eq(l:List WC)(k:Nat):(rows WC.cells l).getD k [.int .i64 0,.int .i64 0]=WC.cells (get l k):=YL (E:=WC.cells) l k
attribute [go_sem] WC.Yw WC.get_eq
inductive Lr where
 |mk (kind:Int) (name:Bs) (words:(List Bs)) (subs:(List Lr))
def Lr.kind:Lr→Int
 | .mk x _ _ _=>x
@[simp,go_sem] theorem Lr.r0d(kind:Int)(name:Bs)(words:(List Bs))(subs:(List Lr)):(Lr.mk kind name words subs).kind=kind:=rfl
def Lr.name:Lr→Bs
 | .mk _ x _ _=>x
@[simp,go_sem] theorem Lr.r0e(kind:Int)(name:Bs)(words:(List Bs))(subs:(List Lr)):(Lr.mk kind name words subs).name=name:=rfl
def Lr.words:Lr→(List Bs)
 | .mk _ _ x _=>x
@[simp,go_sem] theorem Lr.p9b(kind:Int)(name:Bs)(words:(List Bs))(subs:(List Lr)):(Lr.mk kind name words subs).words=words:=rfl
def Lr.subs:Lr→(List Lr)
 | .mk _ _ _ x=>x
@[simp,go_sem] theorem Lr.r0f(kind:Int)(name:Bs)(words:(List Bs))(subs:(List Lr)):(Lr.mk kind name words subs).subs=subs:=rfl
instance:Inhabited Lr:=⟨.mk default default default default⟩
mutual
def Lr.cells:Lr→List D
 | .mk r0g r0h p7S r0i=>[.int .i64 r0g,.str r0h,.sl false 1 16 (rows Wt p7S),.sl false 4 72 (Lr.p2H r0i)]
def Lr.p2H:List Lr→List (List D)
 | []=>[]
 |x::l=>x.cells::Lr.p2H l
end
theorem Lr.i6K:∀l:List Lr,Lr.p2H l=rows Lr.cells l
 | []=>rfl
 |x::l=>by simp only[Lr.p2H,p4E,Lr.i6K l]
instance:d4D Lr.cells 4:=⟨fun x=>by cases x;rfl,fun x=>by cases x;rfl,fun x=>by cases x;rfl⟩
theorem Lr.Yw(x:Lr):Lr.cells x=[.int .i64 x.kind,.str x.name,.sl false 1 16 (rows Wt x.words),.sl false 4 72 (rows Lr.cells x.subs)]:=by
 cases x
 simp only[Lr.cells,Lr.i6K]
 rfl
theorem Lr.get_eq(l:List Lr)(k:Nat):(rows Lr.cells l).getD k [.int .i64 0,.str [],.sl false 1 16 [],.sl false 4 72 []]=Lr.cells (get l k):=by
 rw[←YL (E:=Lr.cells) l k,Lr.Yw];rfl
attribute [go_sem] Lr.Yw Lr.get_eq
structure Wp where
 at_:Int
 rule:Int
instance:Inhabited Wp:=⟨⟨default,default⟩⟩
def Wp.cells(x:Wp):List D:=[.int .i64 x.at_,.int .i64 x.rule]
instance:d4D Wp.cells 2:=⟨fun _=>rfl,fun _=>rfl,fun _=>rfl⟩
theorem Wp.Yw(x:Wp):Wp.cells x=[.int .i64 x.at_,.int .i64 x.rule]:=rfl
theorem Wp.get_eq(l:List Wp)(k:Nat):(rows Wp.cells l).getD k [.int .i64 0,.int .i64 0]=Wp.cells (get l k):=YL (E:=Wp.cells) l k
attribute [go_sem] Wp.Yw Wp.get_eq
structure Wu where
 form:Lr
 words:(List Bs)
 WO:(List Bs)
 parts:(List Bs)
instance:Inhabited Wu:=⟨⟨default,default,default,default⟩⟩
def Wu.cells(x:Wu):List D:=[.int .i64 x.form.kind,.str x.form.name,.sl false 1 16 (rows Wt x.form.words),.sl false 4 72 (rows Lr.cells x.form.subs),.sl false 1 16 (rows Wt x.words),.sl false 1 16 (rows Wt x.WO),.sl false 1 16 (rows Wt x.parts)]
instance:d4D Wu.cells 7:=⟨fun _=>rfl,fun _=>rfl,fun _=>rfl⟩
theorem Wu.Yw(x:Wu):Wu.cells x=[.int .i64 x.form.kind,.str x.form.name,.sl false 1 16 (rows Wt x.form.words),.sl false 4 72 (rows Lr.cells x.form.subs),.sl false 1 16 (rows Wt x.words),.sl false 1 16 (rows Wt x.WO),.sl false 1 16 (rows Wt x.parts)]:=rfl
theorem Wu.get_eq(l:List Wu)(k:Nat):(rows Wu.cells l).getD k [.int .i64 0,.str [],.sl false 1 16 [],.sl false 4 72 [],.sl false 1 16 [],.sl false 1 16 [],.sl false 1 16 []]=Wu.cells (get l k):=YL (E:=Wu.cells) l k
attribute [go_sem] Wu.Yw Wu.get_eq
structure Wq where
 from_:Wu
 to_:Lr
instance:Inhabited Wq:=⟨⟨default,default⟩⟩
def Wq.cells(x:Wq):List D:=[.int .i64 x.from_.form.kind,.str x.from_.form.name,.sl false 1 16 (rows Wt x.from_.form.words),.sl false 4 72 (rows Lr.cells x.from_.form.subs),.sl false 1 16 (rows Wt x.from_.words),.sl false 1 16 (rows Wt x.from_.WO),.sl false 1 16 (rows Wt x.from_.parts),.int .i64 x.to_.kind,.str x.to_.name,.sl false 1 16 (rows Wt x.to_.words),.sl false 4 72 (rows Lr.cells x.to_.subs)]
instance:d4D Wq.cells 11:=⟨fun _=>rfl,fun _=>rfl,fun _=>rfl⟩
theorem Wq.Yw(x:Wq):Wq.cells x=[.int .i64 x.from_.form.kind,.str x.from_.form.name,.sl false 1 16 (rows Wt x.from_.form.words),.sl false 4 72 (rows Lr.cells x.from_.form.subs),.sl false 1 16 (rows Wt x.from_.words),.sl false 1 16 (rows Wt x.from_.WO),.sl false 1 16 (rows Wt x.from_.parts),.int .i64 x.to_.kind,.str x.to_.name,.sl false 1 16 (rows Wt x.to_.words),.sl false 4 72 (rows Lr.cells x.to_.subs)]:=rfl
theorem Wq.get_eq(l:List Wq)(k:Nat):(rows Wq.cells l).getD k [.int .i64 0,.str [],.sl false 1 16 [],.sl false 4 72 [],.sl false 1 16 [],.sl false 1 16 [],.sl false 1 16 [],.int .i64 0,.str [],.sl false 1 16 [],.sl false 4 72 []]=Wq.cells (get l k):=YL (E:=Wq.cells) l k
attribute [go_sem] Wq.Yw Wq.get_eq
structure WU where
 kind:Int
 name:Bs
 words:(List Bs)
 bound:(List Bool)
 end_:Int
instance:Inhabited WU:=⟨⟨default,default,default,default,default⟩⟩
def WU.cells(x:WU):List D:=[.int .i64 x.kind,.str x.name,.sl false 1 16 (rows Wt x.words),.sl false 1 1 (rows i5u x.bound),.int .i64 x.end_]
instance:d4D WU.cells 5:=⟨fun _=>rfl,fun _=>rfl,fun _=>rfl⟩
theorem WU.Yw(x:WU):WU.cells x=[.int .i64 x.kind,.str x.name,.sl false 1 16 (rows Wt x.words),.sl false 1 1 (rows i5u x.bound),.int .i64 x.end_]:=rfl
theorem WU.get_eq(l:List WU)(k:Nat):(rows WU.cells l).getD k [.int .i64 0,.str [],.sl false 1 16 [],.sl false 1 1 [],.int .i64 0]=WU.cells (get l k):=YL (E:=WU.cells) l k
attribute [go_sem] WU.Yw WU.get_eq
structure Wr where
 form:Lr
 nodes:Int
 depth:Int
instance:Inhabited Wr:=⟨⟨default,default,default⟩⟩
def Wr.cells(x:Wr):List D:=[.int .i64 x.form.kind,.str x.form.name,.sl false 1 16 (rows Wt x.form.words),.sl false 4 72 (rows Lr.cells x.form.subs),.int .i64 x.nodes,.int .i64 x.depth]
instance:d4D Wr.cells 6:=⟨fun _=>rfl,fun _=>rfl,fun _=>rfl⟩
theorem Wr.Yw(x:Wr):Wr.cells x=[.int .i64 x.form.kind,.str x.form.name,.sl false 1 16 (rows Wt x.form.words),.sl false 4 72 (rows Lr.cells x.form.subs),.int .i64 x.nodes,.int .i64 x.depth]:=rfl
theorem Wr.get_eq(l:List Wr)(k:Nat):(rows Wr.cells l).getD k [.int .i64 0,.str [],.sl false 1 16 [],.sl false 4 72 [],.int .i64 0,.int .i64 0]=Wr.cells (get l k):=YL (E:=Wr.cells) l k
attribute [go_sem] Wr.Yw Wr.get_eq
structure WM where
 f:Lr
 depth:Int
instance:Inhabited WM:=⟨⟨default,default⟩⟩
def WM.cells(x:WM):List D:=[.int .i64 x.f.kind,.str x.f.name,.sl false 1 16 (rows Wt x.f.words),.sl false 4 72 (rows Lr.cells x.f.subs),.int .i64 x.depth]
instance:d4D WM.cells 5:=⟨fun _=>rfl,fun _=>rfl,fun _=>rfl⟩
theorem WM.Yw(x:WM):WM.cells x=[.int .i64 x.f.kind,.str x.f.name,.sl false 1 16 (rows Wt x.f.words),.sl false 4 72 (rows Lr.cells x.f.subs),.int .i64 x.depth]:=rfl
theorem WM.get_eq(l:List WM)(k:Nat):(rows WM.cells l).getD k [.int .i64 0,.str [],.sl false 1 16 [],.sl false 4 72 [],.int .i64 0]=WM.cells (get l k):=YL (E:=WM.cells) l k
attribute [go_sem] WM.Yw WM.get_eq
structure Ws where
 name:Bs
 text:Bs
 form:Lr
instance:Inhabited Ws:=⟨⟨default,default,default⟩⟩
def Ws.cells(x:Ws):List D:=[.str x.name,.str x.text,.int .i64 x.form.kind,.str x.form.name,.sl false 1 16 (rows Wt x.form.words),.sl false 4 72 (rows Lr.cells x.form.subs)]
instance:d4D Ws.cells 6:=⟨fun _=>rfl,fun _=>rfl,fun _=>rfl⟩
theorem Ws.Yw(x:Ws):Ws.cells x=[.str x.name,.str x.text,.int .i64 x.form.kind,.str x.form.name,.sl false 1 16 (rows Wt x.form.words),.sl false 4 72 (rows Lr.cells x.form.subs)]:=rfl
theorem Ws.get_eq(l:List Ws)(k:Nat):(rows Ws.cells l).getD k [.str [],.str [],.int .i64 0,.str [],.sl false 1 16 [],.sl false 4 72 []]=Ws.cells (get l k):=YL (E:=Ws.cells) l k
attribute [go_sem] Ws.Yw Ws.get_eq
structure Wy where
 from_:Bs
 to_:Bs
instance:Inhabited Wy:=⟨⟨default,default⟩⟩
def Wy.cells(x:Wy):List D:=[.str x.from_,.str x.to_]
instance:d4D Wy.cells 2:=⟨fun _=>rfl,fun _=>rfl,fun _=>rfl⟩
theorem Wy.Yw(x:Wy):Wy.cells x=[.str x.from_,.str x.to_]:=rfl
theorem Wy.get_eq(l:List Wy)(k:Nat):(rows Wy.cells l).getD k [.str [],.str []]=Wy.cells (get l k):=YL (E:=Wy.cells) l k
attribute [go_sem] Wy.Yw Wy.get_eq
def r2q:(List Int):=[1,10,100,1000,10000,100000,1000000,10000000,100000000,1000000000,10000000000,100000000000,1000000000000,10000000000000,100000000000000,1000000000000000,10000000000000000,100000000000000000,1000000000000000000,10000000000000000000]
def r2r:(List Int):=[0,1,28,2,29,14,24,3,30,22,20,15,25,17,4,8,31,27,13,23,21,19,16,7,26,12,18,6,11,5,10,9]
def r2s:(List Int):=[0,1,56,2,57,49,28,3,61,58,42,50,38,29,17,4,62,47,59,36,45,43,51,22,53,39,33,30,24,18,12,5,63,55,48,27,60,41,37,16,46,35,44,21,52,32,23,11,54,26,40,15,34,20,31,10,25,14,19,9,13,8,7,6]
end Go.Proofs.YtfacbpehlibilaaGreatDoor
