import GoSem.PinnedTables
import Derived.Test.YtahjhbkhcaphgaaGreatDoorFTAm3
set_option linter.unusedVariables false
set_option linter.unusedSimpArgs false
namespace Go.Proofs.YtahjhbkhcaphgaaGreatDoor
open Go Go.Am
inductive u6 where
 |mk (kind:Int) (name:Bs) (words:(List Bs)) (subs:(List u6))
def u6.kind:u6→Int
 | .mk x _ _ _=>x
@[simp,go_sem] theorem u6.jR(kind:Int)(name:Bs)(words:(List Bs))(subs:(List u6)):(u6.mk kind name words subs).kind=kind:=rfl
def u6.name:u6→Bs
 | .mk _ x _ _=>x
@[simp,go_sem] theorem u6.jS(kind:Int)(name:Bs)(words:(List Bs))(subs:(List u6)):(u6.mk kind name words subs).name=name:=rfl
def u6.words:u6→(List Bs)
 | .mk _ _ x _=>x
@[simp,go_sem] theorem u6.qX(kind:Int)(name:Bs)(words:(List Bs))(subs:(List u6)):(u6.mk kind name words subs).words=words:=rfl
def u6.subs:u6→(List u6)
 | .mk _ _ _ x=>x
@[simp,go_sem] theorem u6.qY(kind:Int)(name:Bs)(words:(List Bs))(subs:(List u6)):(u6.mk kind name words subs).subs=subs:=rfl
instance:Inhabited u6:=⟨.mk default default default default⟩
mutual
def u6.cells:u6→List D
 | .mk KR KS Ih KT=>[.int .i64 KR,.str KS,.sl false 1 16 (rows w9 Ih),.sl false 4 72 (u6.CA KT)]
def u6.CA:List u6→List (List D)
 | []=>[]
 |x::l=>x.cells::u6.CA l
end
theorem u6.vU:∀l:List u6,u6.CA l=rows u6.cells l
 | []=>rfl
 |x::l=>by simp only[u6.CA,EB,u6.vU l]
instance:gk u6.cells 4:=⟨fun x=>by cases x;rfl,fun x=>by cases x;rfl,fun x=>by cases x;rfl⟩
theorem u6.W6(x:u6):u6.cells x=[.int .i64 x.kind,.str x.name,.sl false 1 16 (rows w9 x.words),.sl false 4 72 (rows u6.cells x.subs)]:=by
 cases x
 simp only[u6.cells,u6.vU]
 rfl
theorem u6.get_eq(l:List u6)(k:Nat):(rows u6.cells l).getD k [.int .i64 0,.str [],.sl false 1 16 [],.sl false 4 72 []]=u6.cells (get l k):=by
 rw[←P3 (E:=u6.cells) l k,u6.W6];rfl
attribute [go_sem] u6.W6 u6.get_eq
structure w8 where
 form:u6
 words:(List Bs)
 B1:(List Bs)
 parts:(List Bs)
instance:Inhabited w8:=⟨⟨default,default,default,default⟩⟩
def w8.cells(x:w8):List D:=[.int .i64 x.form.kind,.str x.form.name,.sl false 1 16 (rows w9 x.form.words),.sl false 4 72 (rows u6.cells x.form.subs),.sl false 1 16 (rows w9 x.words),.sl false 1 16 (rows w9 x.B1),.sl false 1 16 (rows w9 x.parts)]
instance:gk w8.cells 7:=⟨fun _=>rfl,fun _=>rfl,fun _=>rfl⟩
theorem w8.W6(x:w8):w8.cells x=[.int .i64 x.form.kind,.str x.form.name,.sl false 1 16 (rows w9 x.form.words),.sl false 4 72 (rows u6.cells x.form.subs),.sl false 1 16 (rows w9 x.words),.sl false 1 16 (rows w9 x.B1),.sl false 1 16 (rows w9 x.parts)]:=rfl
theorem w8.get_eq(l:List w8)(k:Nat):(rows w8.cells l).getD k [.int .i64 0,.str [],.sl false 1 16 [],.sl false 4 72 [],.sl false 1 16 [],.sl false 1 16 [],.sl false 1 16 []]=w8.cells (get l k):=P3 (E:=w8.cells) l k
attribute [go_sem] w8.W6 w8.get_eq
structure x6 where
 code:Int
 index:Int
instance:Inhabited x6:=⟨⟨default,default⟩⟩
def x6.cells(x:x6):List D:=[.int .i64 x.code,.int .i64 x.index]
instance:gk x6.cells 2:=⟨fun _=>rfl,fun _=>rfl,fun _=>rfl⟩
theorem x6.W6(x:x6):x6.cells x=[.int .i64 x.code,.int .i64 x.index]:=rfl
theorem x6.get_eq(l:List x6)(k:Nat):(rows x6.cells l).getD k [.int .i64 0,.int .i64 0]=x6.cells (get l k):=P3 (E:=x6.cells) l k
attribute [go_sem] x6.W6 x6.get_eq
structure w7 where
 name:Bs
 text:Bs
 form:u6
instance:Inhabited w7:=⟨⟨default,default,default⟩⟩
def w7.cells(x:w7):List D:=[.str x.name,.str x.text,.int .i64 x.form.kind,.str x.form.name,.sl false 1 16 (rows w9 x.form.words),.sl false 4 72 (rows u6.cells x.form.subs)]
instance:gk w7.cells 6:=⟨fun _=>rfl,fun _=>rfl,fun _=>rfl⟩
theorem w7.W6(x:w7):w7.cells x=[.str x.name,.str x.text,.int .i64 x.form.kind,.str x.form.name,.sl false 1 16 (rows w9 x.form.words),.sl false 4 72 (rows u6.cells x.form.subs)]:=rfl
theorem w7.get_eq(l:List w7)(k:Nat):(rows w7.cells l).getD k [.str [],.str [],.int .i64 0,.str [],.sl false 1 16 [],.sl false 4 72 []]=w7.cells (get l k):=P3 (E:=w7.cells) l k
attribute [go_sem] w7.W6 w7.get_eq
structure A9 where
 at_:Int
 bindings:(List w7)
instance:Inhabited A9:=⟨⟨default,default⟩⟩
def A9.cells(x:A9):List D:=[.int .i64 x.at_,.sl false 6 104 (rows w7.cells x.bindings)]
instance:gk A9.cells 2:=⟨fun _=>rfl,fun _=>rfl,fun _=>rfl⟩
theorem A9.W6(x:A9):A9.cells x=[.int .i64 x.at_,.sl false 6 104 (rows w7.cells x.bindings)]:=rfl
theorem A9.get_eq(l:List A9)(k:Nat):(rows A9.cells l).getD k [.int .i64 0,.sl false 6 104 []]=A9.cells (get l k):=P3 (E:=A9.cells) l k
attribute [go_sem] A9.W6 A9.get_eq
structure u7 where
 kind:Int
 name:Bs
 words:(List Bs)
 bound:(List Bool)
 end_:Int
instance:Inhabited u7:=⟨⟨default,default,default,default,default⟩⟩
def u7.cells(x:u7):List D:=[.int .i64 x.kind,.str x.name,.sl false 1 16 (rows w9 x.words),.sl false 1 1 (rows bR x.bound),.int .i64 x.end_]
instance:gk u7.cells 5:=⟨fun _=>rfl,fun _=>rfl,fun _=>rfl⟩
theorem u7.W6(x:u7):u7.cells x=[.int .i64 x.kind,.str x.name,.sl false 1 16 (rows w9 x.words),.sl false 1 1 (rows bR x.bound),.int .i64 x.end_]:=rfl
theorem u7.get_eq(l:List u7)(k:Nat):(rows u7.cells l).getD k [.int .i64 0,.str [],.sl false 1 16 [],.sl false 1 1 [],.int .i64 0]=u7.cells (get l k):=P3 (E:=u7.cells) l k
attribute [go_sem] u7.W6 u7.get_eq
structure w6 where
 f:u6
 depth:Int
instance:Inhabited w6:=⟨⟨default,default⟩⟩
def w6.cells(x:w6):List D:=[.int .i64 x.f.kind,.str x.f.name,.sl false 1 16 (rows w9 x.f.words),.sl false 4 72 (rows u6.cells x.f.subs),.int .i64 x.depth]
instance:gk w6.cells 5:=⟨fun _=>rfl,fun _=>rfl,fun _=>rfl⟩
theorem w6.W6(x:w6):w6.cells x=[.int .i64 x.f.kind,.str x.f.name,.sl false 1 16 (rows w9 x.f.words),.sl false 4 72 (rows u6.cells x.f.subs),.int .i64 x.depth]:=rfl
theorem w6.get_eq(l:List w6)(k:Nat):(rows w6.cells l).getD k [.int .i64 0,.str [],.sl false 1 16 [],.sl false 4 72 [],.int .i64 0]=w6.cells (get l k):=P3 (E:=w6.cells) l k
attribute [go_sem] w6.W6 w6.get_eq
structure x9 where
 from_:Bs
 to_:Bs
instance:Inhabited x9:=⟨⟨default,default⟩⟩
def x9.cells(x:x9):List D:=[.str x.from_,.str x.to_]
instance:gk x9.cells 2:=⟨fun _=>rfl,fun _=>rfl,fun _=>rfl⟩
theorem x9.W6(x:x9):x9.cells x=[.str x.from_,.str x.to_]:=rfl
theorem x9.get_eq(l:List x9)(k:Nat):(rows x9.cells l).getD k [.str [],.str []]=x9.cells (get l k):=P3 (E:=x9.cells) l k
attribute [go_sem] x9.W6 x9.get_eq
structure y4 where
 lo:Int
 hi:Int
instance:Inhabited y4:=⟨⟨default,default⟩⟩
def y4.cells(x:y4):List D:=[.int .u8 x.lo,.int .u8 x.hi]
instance:gk y4.cells 2:=⟨fun _=>rfl,fun _=>rfl,fun _=>rfl⟩
theorem y4.W6(x:y4):y4.cells x=[.int .u8 x.lo,.int .u8 x.hi]:=rfl
theorem y4.get_eq(l:List y4)(k:Nat):(rows y4.cells l).getD k [.int .u8 0,.int .u8 0]=y4.cells (get l k):=P3 (E:=y4.cells) l k
attribute [go_sem] y4.W6 y4.get_eq
def MS:(List Int):=(Go.Pinned.utf8FirstZ.map fun(n:Nat)=>(n:Int))
def MU:(List y4):=[y4.mk 128 191,y4.mk 160 191,y4.mk 128 159,y4.mk 144 191,y4.mk 128 143,y4.mk 0 0,y4.mk 0 0,y4.mk 0 0,y4.mk 0 0,y4.mk 0 0,y4.mk 0 0,y4.mk 0 0,y4.mk 0 0,y4.mk 0 0,y4.mk 0 0,y4.mk 0 0]
def MV:(List Int):=[1,10,100,1000,10000,100000,1000000,10000000,100000000,1000000000,10000000000,100000000000,1000000000000,10000000000000,100000000000000,1000000000000000,10000000000000000,100000000000000000,1000000000000000000,10000000000000000000]
def MW:(List Int):=[0,1,28,2,29,14,24,3,30,22,20,15,25,17,4,8,31,27,13,23,21,19,16,7,26,12,18,6,11,5,10,9]
def MX:(List Int):=[0,1,56,2,57,49,28,3,61,58,42,50,38,29,17,4,62,47,59,36,45,43,51,22,53,39,33,30,24,18,12,5,63,55,48,27,60,41,37,16,46,35,44,21,52,32,23,11,54,26,40,15,34,20,31,10,25,14,19,9,13,8,7,6]
end Go.Proofs.YtahjhbkhcaphgaaGreatDoor
