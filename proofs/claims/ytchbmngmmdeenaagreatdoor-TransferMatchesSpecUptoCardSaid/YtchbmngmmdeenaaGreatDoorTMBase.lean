import GoSem.PinnedTables
import Derived.Test.YtchbmngmmdeenaaGreatDoorProg
import Derived.Lib.ItoaNum
import Derived.Shelf.Strconv.Itoa3
import Derived.Test.YtchbmngmmdeenaaGreatDoorTMAm3
set_option maxHeartbeats 2000000
set_option maxRecDepth 100000
open List renaming flatten_append->zr,length_append->aa,take_length->cj
open Nat renaming beq->wb,le_refl->ae
open Option.some renaming inj->dj
namespace Go.Proofs.YtchbmngmmdeenaaGreatDoor
open Go Go.Am
variable {args dd z:List D} {a b:Nat} {P:Program}
inductive O where
 |mk (kind:Int) (name:J) (words:(List J)) (subs:(List O))
def O.kind:O->Int
 | .mk x _ _ _=>x
@[simp,go_sem] theorem O.p7u(kind:Int)(name:J)(words:(List J))(subs:(List O)):(O.mk kind name words subs).kind=kind:=rfl
def O.name:O->J
 | .mk _ x _ _=>x
@[simp,go_sem] theorem O.p7v(kind:Int)(name:J)(words:(List J))(subs:(List O)):(O.mk kind name words subs).name=name:=rfl
def O.words:O->(List J)
 | .mk _ _ x _=>x
@[simp,go_sem] theorem O.p7w(kind:Int)(name:J)(words:(List J))(subs:(List O)):(O.mk kind name words subs).words=words:=rfl
def O.subs:O->(List O)
 | .mk _ _ _ x=>x
@[simp,go_sem] theorem O.p7x(kind:Int)(name:J)(words:(List J))(subs:(List O)):(O.mk kind name words subs).subs=subs:=rfl
instance:Inhabited O:=⟨.mk default default default default⟩
mutual
def O.cells:O->List D
 | .mk i5G i5H i5I i5J=>[.int .i64 i5G,.str i5H,.sl false 1 16 (rows B2 i5I),.sl false 4 72 (O.Ki i5J)]
def O.Ki:List O->List (List D)
 | []=>[]
 |x::l=>x.cells::O.Ki l
end
theorem O.d3d:∀l:List O,O.Ki l=rows O.cells l
 | []=>rfl
 |x::l=>by simp only[O.Ki,i4f,O.d3d l]
instance:cr O.cells 4:=⟨fun x=>by cases x;rfl,fun x=>by cases x;rfl,fun x=>by cases x;rfl⟩
theorem O.cV(x:O):O.cells x=[.int .i64 x.kind,.str x.name,.sl false 1 16 (rows B2 x.words),.sl false 4 72 (rows O.cells x.subs)]:=by cases x;simp only[O.cells,O.d3d];rfl
theorem O.get_eq(l:List O)(k:Nat):(rows O.cells l).getD k [.int .i64 0,.str [],.sl false 1 16 [],.sl false 4 72 []]=O.cells (get l k):=by rw[<-kZ (E:=O.cells) l k,O.cV];rfl
attribute [go_sem] O.cV O.get_eq
structure F1 where
 code:Int
 index:Int
instance:Inhabited F1:=⟨⟨default,default⟩⟩
def F1.cells(x:F1):List D:=[.int .i64 x.code,.int .i64 x.index]
instance:cr F1.cells 2:=⟨fun _=>rfl,fun _=>rfl,fun _=>rfl⟩
theorem F1.cV(x:F1):F1.cells x=[.int .i64 x.code,.int .i64 x.index]:=rfl
theorem F1.get_eq(l:List F1)(k:Nat):(rows F1.cells l).getD k [.int .i64 0,.int .i64 0]=F1.cells (get l k):=kZ (E:=F1.cells) l k
attribute [go_sem] F1.cV F1.get_eq
structure C6 where
 at_:Int
 rule:Int
instance:Inhabited C6:=⟨⟨default,default⟩⟩
def C6.cells(x:C6):List D:=[.int .i64 x.at_,.int .i64 x.rule]
instance:cr C6.cells 2:=⟨fun _=>rfl,fun _=>rfl,fun _=>rfl⟩
theorem C6.cV(x:C6):C6.cells x=[.int .i64 x.at_,.int .i64 x.rule]:=rfl
theorem C6.get_eq(l:List C6)(k:Nat):(rows C6.cells l).getD k [.int .i64 0,.int .i64 0]=C6.cells (get l k):=kZ (E:=C6.cells) l k
attribute [go_sem] C6.cV C6.get_eq
structure B1 where
 form:O
 words:(List J)
 A8:(List J)
 parts:(List J)
instance:Inhabited B1:=⟨⟨default,default,default,default⟩⟩
def B1.cells(x:B1):List D:=[.int .i64 x.form.kind,.str x.form.name,.sl false 1 16 (rows B2 x.form.words),.sl false 4 72 (rows O.cells x.form.subs),.sl false 1 16 (rows B2 x.words),.sl false 1 16 (rows B2 x.A8),.sl false 1 16 (rows B2 x.parts)]
instance:cr B1.cells 7:=⟨fun _=>rfl,fun _=>rfl,fun _=>rfl⟩
theorem B1.cV(x:B1):B1.cells x=[.int .i64 x.form.kind,.str x.form.name,.sl false 1 16 (rows B2 x.form.words),.sl false 4 72 (rows O.cells x.form.subs),.sl false 1 16 (rows B2 x.words),.sl false 1 16 (rows B2 x.A8),.sl false 1 16 (rows B2 x.parts)]:=rfl
theorem B1.get_eq(l:List B1)(k:Nat):(rows B1.cells l).getD k [.int .i64 0,.str [],.sl false 1 16 [],.sl false 4 72 [],.sl false 1 16 [],.sl false 1 16 [],.sl false 1 16 []]=B1.cells (get l k):=kZ (E:=B1.cells) l k
attribute [go_sem] B1.cV B1.get_eq
structure C5 where
 from_:B1
 B4:O
instance:Inhabited C5:=⟨⟨default,default⟩⟩
def C5.cells(x:C5):List D:=[.int .i64 x.from_.form.kind,.str x.from_.form.name,.sl false 1 16 (rows B2 x.from_.form.words),.sl false 4 72 (rows O.cells x.from_.form.subs),.sl false 1 16 (rows B2 x.from_.words),.sl false 1 16 (rows B2 x.from_.A8),.sl false 1 16 (rows B2 x.from_.parts),.int .i64 x.B4.kind,.str x.B4.name,.sl false 1 16 (rows B2 x.B4.words),.sl false 4 72 (rows O.cells x.B4.subs)]
instance:cr C5.cells 11:=⟨fun _=>rfl,fun _=>rfl,fun _=>rfl⟩
theorem C5.cV(x:C5):C5.cells x=[.int .i64 x.from_.form.kind,.str x.from_.form.name,.sl false 1 16 (rows B2 x.from_.form.words),.sl false 4 72 (rows O.cells x.from_.form.subs),.sl false 1 16 (rows B2 x.from_.words),.sl false 1 16 (rows B2 x.from_.A8),.sl false 1 16 (rows B2 x.from_.parts),.int .i64 x.B4.kind,.str x.B4.name,.sl false 1 16 (rows B2 x.B4.words),.sl false 4 72 (rows O.cells x.B4.subs)]:=rfl
theorem C5.get_eq(l:List C5)(k:Nat):(rows C5.cells l).getD k [.int .i64 0,.str [],.sl false 1 16 [],.sl false 4 72 [],.sl false 1 16 [],.sl false 1 16 [],.sl false 1 16 [],.int .i64 0,.str [],.sl false 1 16 [],.sl false 4 72 []]=C5.cells (get l k):=kZ (E:=C5.cells) l k
attribute [go_sem] C5.cV C5.get_eq
structure L7 where
 kind:Int
 name:J
 words:(List J)
 bound:(List Bool)
 end_:Int
instance:Inhabited L7:=⟨⟨default,default,default,default,default⟩⟩
def L7.cells(x:L7):List D:=[.int .i64 x.kind,.str x.name,.sl false 1 16 (rows B2 x.words),.sl false 1 1 (rows cu x.bound),.int .i64 x.end_]
instance:cr L7.cells 5:=⟨fun _=>rfl,fun _=>rfl,fun _=>rfl⟩
theorem L7.cV(x:L7):L7.cells x=[.int .i64 x.kind,.str x.name,.sl false 1 16 (rows B2 x.words),.sl false 1 1 (rows cu x.bound),.int .i64 x.end_]:=rfl
theorem L7.get_eq(l:List L7)(k:Nat):(rows L7.cells l).getD k [.int .i64 0,.str [],.sl false 1 16 [],.sl false 1 1 [],.int .i64 0]=L7.cells (get l k):=kZ (E:=L7.cells) l k
attribute [go_sem] L7.cV L7.get_eq
structure K1 where
 form:O
 nodes:Int
 depth:Int
instance:Inhabited K1:=⟨⟨default,default,default⟩⟩
def K1.cells(x:K1):List D:=[.int .i64 x.form.kind,.str x.form.name,.sl false 1 16 (rows B2 x.form.words),.sl false 4 72 (rows O.cells x.form.subs),.int .i64 x.nodes,.int .i64 x.depth]
instance:cr K1.cells 6:=⟨fun _=>rfl,fun _=>rfl,fun _=>rfl⟩
theorem K1.cV(x:K1):K1.cells x=[.int .i64 x.form.kind,.str x.form.name,.sl false 1 16 (rows B2 x.form.words),.sl false 4 72 (rows O.cells x.form.subs),.int .i64 x.nodes,.int .i64 x.depth]:=rfl
theorem K1.get_eq(l:List K1)(k:Nat):(rows K1.cells l).getD k [.int .i64 0,.str [],.sl false 1 16 [],.sl false 4 72 [],.int .i64 0,.int .i64 0]=K1.cells (get l k):=kZ (E:=K1.cells) l k
attribute [go_sem] K1.cV K1.get_eq
structure eK where
 f:O
 depth:Int
instance:Inhabited eK:=⟨⟨default,default⟩⟩
def eK.cells(x:eK):List D:=[.int .i64 x.f.kind,.str x.f.name,.sl false 1 16 (rows B2 x.f.words),.sl false 4 72 (rows O.cells x.f.subs),.int .i64 x.depth]
instance:cr eK.cells 5:=⟨fun _=>rfl,fun _=>rfl,fun _=>rfl⟩
theorem eK.cV(x:eK):eK.cells x=[.int .i64 x.f.kind,.str x.f.name,.sl false 1 16 (rows B2 x.f.words),.sl false 4 72 (rows O.cells x.f.subs),.int .i64 x.depth]:=rfl
theorem eK.get_eq(l:List eK)(k:Nat):(rows eK.cells l).getD k [.int .i64 0,.str [],.sl false 1 16 [],.sl false 4 72 [],.int .i64 0]=eK.cells (get l k):=kZ (E:=eK.cells) l k
attribute [go_sem] eK.cV eK.get_eq
structure C4 where
 name:J
 text:J
 form:O
instance:Inhabited C4:=⟨⟨default,default,default⟩⟩
def C4.cells(x:C4):List D:=[.str x.name,.str x.text,.int .i64 x.form.kind,.str x.form.name,.sl false 1 16 (rows B2 x.form.words),.sl false 4 72 (rows O.cells x.form.subs)]
instance:cr C4.cells 6:=⟨fun _=>rfl,fun _=>rfl,fun _=>rfl⟩
theorem C4.cV(x:C4):C4.cells x=[.str x.name,.str x.text,.int .i64 x.form.kind,.str x.form.name,.sl false 1 16 (rows B2 x.form.words),.sl false 4 72 (rows O.cells x.form.subs)]:=rfl
theorem C4.get_eq(l:List C4)(k:Nat):(rows C4.cells l).getD k [.str [],.str [],.int .i64 0,.str [],.sl false 1 16 [],.sl false 4 72 []]=C4.cells (get l k):=kZ (E:=C4.cells) l k
attribute [go_sem] C4.cV C4.get_eq
structure gq where
 from_:J
 B4:J
instance:Inhabited gq:=⟨⟨default,default⟩⟩
def gq.cells(x:gq):List D:=[.str x.from_,.str x.B4]
instance:cr gq.cells 2:=⟨fun _=>rfl,fun _=>rfl,fun _=>rfl⟩
theorem gq.cV(x:gq):gq.cells x=[.str x.from_,.str x.B4]:=rfl
theorem gq.get_eq(l:List gq)(k:Nat):(rows gq.cells l).getD k [.str [],.str []]=gq.cells (get l k):=kZ (E:=gq.cells) l k
attribute [go_sem] gq.cV gq.get_eq
def i5K:(List Int):=[1,10,100,1000,10000,100000,1000000,10000000,100000000,1000000000,10000000000,100000000000,1000000000000,10000000000000,100000000000000,1000000000000000,10000000000000000,100000000000000000,1000000000000000000,10000000000000000000]
def i5L:(List Int):=[0,1,28,2,29,14,24,3,30,22,20,15,25,17,4,8,31,27,13,23,21,19,16,7,26,12,18,6,11,5,10,9]
def i5M:(List Int):=[0,1,56,2,57,49,28,3,61,58,42,50,38,29,17,4,62,47,59,36,45,43,51,22,53,39,33,30,24,18,12,5,63,55,48,27,60,41,37,16,46,35,44,21,52,32,23,11,54,26,40,15,34,20,31,10,25,14,19,9,13,8,7,6]
abbrev D3:=List L7
abbrev w7:=List J
abbrev F7:=List C6
abbrev G0:=List O
abbrev O2:=List C5
abbrev R7:=List C4
abbrev vA:=O->w7->Int->J->w7->G0->w7->w7->w7->Int->J->w7->G0->(List (J×w7))->w7->Option Bool
abbrev Y5:=List (J×Int)
abbrev Q5:=O×Int
abbrev Y6:=List (J×J)
abbrev iG:=List (J×C4)
abbrev sx:=K1×Bool×Int×F7×(List (J×K1))
abbrev qQ:=C1 (D3×F7×Bool) (D3×F7×(List D3)×Int) (D3×F7)
abbrev yF:=O->J->O2->Int->Y5->F7->Option (K1×Bool×Int×F7)
abbrev yG:=C1 (R7×List Int×Bool) (R7×List Bool×List Int×Int×Int) (R7×List Int)
abbrev Bu:=List eK
abbrev RQ:=O->w7->Int->J->w7->G0->w7->w7->w7->Int->J->w7->G0->(List (J×K1))->R7->Int->Int->Int->O2->Int->Y5->F7->J->Y6->Y6->Option sx
abbrev Bv:=List (J×w7)
abbrev iH:=List (J×w7)
abbrev yH:=List (J×K1)
abbrev sy:=C1 F1 (Bu×Int×Nat) Unit
abbrev mL:=List gq
abbrev dQ:=List Bool
abbrev vB:=D3×F7×Bool
abbrev vC:=K1×Bool×Int×F7
abbrev vD:=List K1
abbrev sD:=D3×F7×(List D3)×Int
abbrev yI:=R7×dQ×List Int×Int×Int
abbrev Kj:=B1->O->O->iG->Option (Bool×iG)
abbrev EP:=C1 vB (D3×F7×Int×Int) (D3×F7)
abbrev Bw:=O->w7->w7->Option w7
abbrev Kk:=O->Int->Int->Bool->Option (F1×Int)
abbrev RR:=O->w7->Int->J->w7->G0->w7->w7->w7->Option O
abbrev gV:=w7×Int
abbrev Bx:=C1 Q5 (Int×G0) (Int×G0)
abbrev qR:=Bu×Int×Nat
abbrev Kl:=O->Int->w7->w7->Option Q5
abbrev RT:=C1 (C1 F1 Int Unit) (Bool×Bool×Int) (Bool×Bool)
abbrev ER:=O2->D3->Int->Option vB
abbrev Bz:=C1 D3 (dQ×Int) dQ
abbrev gW:=w7×Int
abbrev RU:=O->O2->Int->Y5->F7->Y6->Option Q5
abbrev Km:=O->w7->w7->Option O
abbrev BA:=R7×List Int×Bool
abbrev ES:=List (J×J)
abbrev BD:=O×F7×Bool
abbrev Kn:=O->w7->D3->Option D3
abbrev RV:=C1 O (w7×w7×Int×Int) (w7×w7)
abbrev kf:=Nat×Nat
abbrev RW:=O->w7->List (J×w7)->Option iH
abbrev ET:=C1 D3 (D3×Int) D3
abbrev Ko:=Int×F7×yH×vD×G0
abbrev d3e:=O->J->Y6->Int->J->w7->G0->w7->w7->w7->Option Y6
abbrev RX:=O->mL->Int->w7->Option Q5
abbrev yJ:=F1×Int
abbrev RY:=O->w7->w7->Int->Option Q5
abbrev oY:=List Int
abbrev vF:=Bool×Bool
abbrev vG:=Bool×iG
abbrev nS:=Int×G0
abbrev BF:=List w7
abbrev Kp:=Int×F7×vD×G0
abbrev RZ:=List (J×Int)
abbrev BG:=J×w7×w7
theorem ty0:w8 Tryz.prog 0=⟨1,0,[.any],[.any],some (.any),.other⟩:=by kernel_rfl
theorem rK:w8 Tryz.prog 2=⟨1,8,[.int .i64 0],[.int .i64 0],some (.int .i64 0),.int .i64⟩:=by kernel_rfl
theorem Ez:w8 Tryz.prog 3=⟨1,8,[.int .i64 0],[.int .i64 0],some (.int .i64 0),.int .i64⟩:=by kernel_rfl
theorem ty4:w8 Tryz.prog 4=⟨1,1,[.bool false],[.bool false],some (.bool false),.bool⟩:=by kernel_rfl
theorem ty5:w8 Tryz.prog 5=⟨1,1,[.int .u8 0],[.int .u8 0],some (.int .u8 0),.int .u8⟩:=by kernel_rfl
theorem ty7:w8 Tryz.prog 7=⟨4,24,[.int .i64 0,.int .i64 0,.bool false,.int .u8 0],[.int .i64 0,.int .i64 0,.bool false,.int .u8 0],some (.agg [.int .i64 0,.int .i64 0,.bool false,.int .u8 0]),.struct [(0,1,false),(1,1,false),(2,1,false),(3,1,false)]⟩:=by kernel_rfl
theorem ty9:w8 Tryz.prog 9=⟨1,16,[.str []],[.str []],some (.str []),.str⟩:=by kernel_rfl
theorem p7D:w8 Tryz.prog 12=⟨1,8,[.int .u64 0],[.int .u64 0],some (.int .u64 0),.int .u64⟩:=by kernel_rfl
theorem p7E:w8 Tryz.prog 13=⟨2,24,[.str [],.int .u64 0],[.str [],.int .u64 0],some (.agg [.str [],.int .u64 0]),.struct [(0,1,false),(1,1,false)]⟩:=by kernel_rfl
theorem p7F:w8 Tryz.prog 18=⟨1,8,[.Z6],[.Z6],some (.agg [.Z6]),.struct [(0,1,false)]⟩:=by kernel_rfl
theorem p7G:w8 Tryz.prog 21=⟨1,4,[.int .i32 0],[.int .i32 0],some (.int .i32 0),.int .i32⟩:=by kernel_rfl
theorem p7H:w8 Tryz.prog 22=⟨1,24,[.A9],[.sl false 11 216 []],some (.A9),.slice 49⟩:=by kernel_rfl
theorem d3f:w8 Tryz.prog 23=⟨1,24,[.A9],[.sl false 1 16 []],some (.A9),.slice 9⟩:=by kernel_rfl
theorem p7I:w8 Tryz.prog 24=⟨1,24,[.A9],[.sl false 4 72 []],some (.A9),.slice 26⟩:=by kernel_rfl
theorem p7J:w8 Tryz.prog 25=⟨4,72,[.int .i64 0,.str [],.A9,.A9],[.int .i64 0,.str [],.sl false 1 16 [],.sl false 4 72 []],some (.agg [.int .i64 0,.str [],.A9,.A9]),.struct [(0,1,false),(1,1,false),(2,1,false),(3,1,false)]⟩:=by kernel_rfl
theorem p7K:w8 Tryz.prog 26=⟨4,72,[.int .i64 0,.str [],.A9,.A9],[.int .i64 0,.str [],.sl false 1 16 [],.sl false 4 72 []],some (.agg [.int .i64 0,.str [],.A9,.A9]),.struct [(0,1,false),(1,1,false),(2,1,false),(3,1,false)]⟩:=by kernel_rfl
theorem p7L:w8 Tryz.prog 28=⟨2,16,[.int .i64 0,.int .i64 0],[.int .i64 0,.int .i64 0],some (.agg [.int .i64 0,.int .i64 0]),.struct [(0,1,false),(1,1,false)]⟩:=by kernel_rfl
theorem p7M:w8 Tryz.prog 29=⟨2,16,[.int .i64 0,.int .i64 0],[.int .i64 0,.int .i64 0],some (.agg [.int .i64 0,.int .i64 0]),.struct [(0,1,false),(1,1,false)]⟩:=by kernel_rfl
theorem p7N:w8 Tryz.prog 30=⟨1,0,[.any],[.any],some (.any),.other⟩:=by kernel_rfl
theorem p7O:w8 Tryz.prog 32=⟨1,24,[.A9],[.sl false 2 16 []],some (.A9),.slice 42⟩:=by kernel_rfl
theorem p7P:w8 Tryz.prog 33=⟨1,0,[.any],[.any],some (.any),.other⟩:=by kernel_rfl
theorem p7Q:w8 Tryz.prog 37=⟨1,8,[.Q7],[.Q7],some (.Q7),.other⟩:=by kernel_rfl
theorem p7R:w8 Tryz.prog 38=⟨1,0,[.any],[.any],some (.any),.other⟩:=by kernel_rfl
theorem p7S:w8 Tryz.prog 41=⟨2,16,[.int .i64 0,.int .i64 0],[.int .i64 0,.int .i64 0],some (.agg [.int .i64 0,.int .i64 0]),.struct [(0,1,false),(1,1,false)]⟩:=by kernel_rfl
theorem p7T:w8 Tryz.prog 42=⟨2,16,[.int .i64 0,.int .i64 0],[.int .i64 0,.int .i64 0],some (.agg [.int .i64 0,.int .i64 0]),.struct [(0,1,false),(1,1,false)]⟩:=by kernel_rfl
theorem p7U:w8 Tryz.prog 45=⟨7,144,[.int .i64 0,.str [],.A9,.A9,.A9,.A9,.A9],[.int .i64 0,.str [],.sl false 1 16 [],.sl false 4 72 [],.sl false 1 16 [],.sl false 1 16 [],.sl false 1 16 []],some (.agg [.int .i64 0,.str [],.A9,.A9,.A9,.A9,.A9]),.struct [(0,4,true),(4,1,false),(5,1,false),(6,1,false)]⟩:=by kernel_rfl
theorem p7V:w8 Tryz.prog 46=⟨7,144,[.int .i64 0,.str [],.A9,.A9,.A9,.A9,.A9],[.int .i64 0,.str [],.sl false 1 16 [],.sl false 4 72 [],.sl false 1 16 [],.sl false 1 16 [],.sl false 1 16 []],some (.agg [.int .i64 0,.str [],.A9,.A9,.A9,.A9,.A9]),.struct [(0,4,true),(4,1,false),(5,1,false),(6,1,false)]⟩:=by kernel_rfl
theorem p7W:w8 Tryz.prog 48=⟨11,216,[.int .i64 0,.str [],.A9,.A9,.A9,.A9,.A9,.int .i64 0,.str [],.A9,.A9],[.int .i64 0,.str [],.sl false 1 16 [],.sl false 4 72 [],.sl false 1 16 [],.sl false 1 16 [],.sl false 1 16 [],.int .i64 0,.str [],.sl false 1 16 [],.sl false 4 72 []],some (.agg [.int .i64 0,.str [],.A9,.A9,.A9,.A9,.A9,.int .i64 0,.str [],.A9,.A9]),.struct [(0,7,true),(7,4,true)]⟩:=by kernel_rfl
theorem p7X:w8 Tryz.prog 49=⟨11,216,[.int .i64 0,.str [],.A9,.A9,.A9,.A9,.A9,.int .i64 0,.str [],.A9,.A9],[.int .i64 0,.str [],.sl false 1 16 [],.sl false 4 72 [],.sl false 1 16 [],.sl false 1 16 [],.sl false 1 16 [],.int .i64 0,.str [],.sl false 1 16 [],.sl false 4 72 []],some (.agg [.int .i64 0,.str [],.A9,.A9,.A9,.A9,.A9,.int .i64 0,.str [],.A9,.A9]),.struct [(0,7,true),(7,4,true)]⟩:=by kernel_rfl
theorem p7Y:w8 Tryz.prog 54=⟨1,24,[.A9],[.sl false 1 1 []],some (.A9),.slice 4⟩:=by kernel_rfl
theorem p7Z:w8 Tryz.prog 55=⟨5,80,[.int .i64 0,.str [],.A9,.A9,.int .i64 0],[.int .i64 0,.str [],.sl false 1 16 [],.sl false 1 1 [],.int .i64 0],some (.agg [.int .i64 0,.str [],.A9,.A9,.int .i64 0]),.struct [(0,1,false),(1,1,false),(2,1,false),(3,1,false),(4,1,false)]⟩:=by kernel_rfl
theorem p8a:w8 Tryz.prog 56=⟨5,80,[.int .i64 0,.str [],.A9,.A9,.int .i64 0],[.int .i64 0,.str [],.sl false 1 16 [],.sl false 1 1 [],.int .i64 0],some (.agg [.int .i64 0,.str [],.A9,.A9,.int .i64 0]),.struct [(0,1,false),(1,1,false),(2,1,false),(3,1,false),(4,1,false)]⟩:=by kernel_rfl
theorem p8b:w8 Tryz.prog 57=⟨1,24,[.A9],[.sl false 5 80 []],some (.A9),.slice 56⟩:=by kernel_rfl
theorem p8c:w8 Tryz.prog 62=⟨1,0,[.any],[.any],some (.any),.other⟩:=by kernel_rfl
theorem p8d:w8 Tryz.prog 64=⟨1,0,[.any],[.any],some (.any),.other⟩:=by kernel_rfl
theorem p8e:w8 Tryz.prog 71=⟨1,8,[.Z6],[.Z6],some (.Z6),.ptr 74⟩:=by kernel_rfl
theorem p8f:w8 Tryz.prog 72=⟨1,8,[.S8],[.S8],some (.S8),.map 9 3⟩:=by kernel_rfl
theorem p8g:w8 Tryz.prog 73=⟨4,64,[.A9,.S8,.A9,.int .i64 0],[.sl false 11 216 [],.S8,.sl false 2 16 [],.int .i64 0],some (.agg [.A9,.S8,.A9,.int .i64 0]),.struct [(0,1,false),(1,1,false),(2,1,false),(3,1,false)]⟩:=by kernel_rfl
theorem p8h:w8 Tryz.prog 74=⟨4,64,[.A9,.S8,.A9,.int .i64 0],[.sl false 11 216 [],.S8,.sl false 2 16 [],.int .i64 0],some (.agg [.A9,.S8,.A9,.int .i64 0]),.struct [(0,1,false),(1,1,false),(2,1,false),(3,1,false)]⟩:=by kernel_rfl
theorem p8i:w8 Tryz.prog 76=⟨1,8,[.Q7],[.Q7],some (.Q7),.other⟩:=by kernel_rfl
theorem p8j:w8 Tryz.prog 77=⟨6,88,[.int .i64 0,.str [],.A9,.A9,.int .i64 0,.int .i64 0],[.int .i64 0,.str [],.sl false 1 16 [],.sl false 4 72 [],.int .i64 0,.int .i64 0],some (.agg [.int .i64 0,.str [],.A9,.A9,.int .i64 0,.int .i64 0]),.struct [(0,4,true),(4,1,false),(5,1,false)]⟩:=by kernel_rfl
theorem p8k:w8 Tryz.prog 78=⟨6,88,[.int .i64 0,.str [],.A9,.A9,.int .i64 0,.int .i64 0],[.int .i64 0,.str [],.sl false 1 16 [],.sl false 4 72 [],.int .i64 0,.int .i64 0],some (.agg [.int .i64 0,.str [],.A9,.A9,.int .i64 0,.int .i64 0]),.struct [(0,4,true),(4,1,false),(5,1,false)]⟩:=by kernel_rfl
theorem p8l:w8 Tryz.prog 79=⟨1,0,[.any],[.any],some (.any),.other⟩:=by kernel_rfl
theorem p8m:w8 Tryz.prog 82=⟨1,8,[.Q7],[.Q7],some (.Q7),.other⟩:=by kernel_rfl
theorem p8n:w8 Tryz.prog 83=⟨1,8,[.Q7],[.Q7],some (.Q7),.other⟩:=by kernel_rfl
theorem p8o:w8 Tryz.prog 84=⟨1,24,[.A9],[.sl false 1 24 []],some (.A9),.slice 23⟩:=by kernel_rfl
theorem p8p:w8 Tryz.prog 86=⟨5,80,[.int .i64 0,.str [],.A9,.A9,.int .i64 0],[.int .i64 0,.str [],.sl false 1 16 [],.sl false 4 72 [],.int .i64 0],some (.agg [.int .i64 0,.str [],.A9,.A9,.int .i64 0]),.struct [(0,4,true),(4,1,false)]⟩:=by kernel_rfl
theorem p8q:w8 Tryz.prog 87=⟨5,80,[.int .i64 0,.str [],.A9,.A9,.int .i64 0],[.int .i64 0,.str [],.sl false 1 16 [],.sl false 4 72 [],.int .i64 0],some (.agg [.int .i64 0,.str [],.A9,.A9,.int .i64 0]),.struct [(0,4,true),(4,1,false)]⟩:=by kernel_rfl
theorem p8r:w8 Tryz.prog 88=⟨1,24,[.A9],[.sl false 5 80 []],some (.A9),.slice 87⟩:=by kernel_rfl
theorem p8s:w8 Tryz.prog 91=⟨1,24,[.A9],[.sl false 6 104 []],some (.A9),.slice 119⟩:=by kernel_rfl
theorem p8t:w8 Tryz.prog 92=⟨1,24,[.A9],[.sl false 1 8 []],some (.A9),.slice 3⟩:=by kernel_rfl
theorem p8u:w8 Tryz.prog 93=⟨1,0,[.any],[.any],some (.any),.other⟩:=by kernel_rfl
theorem p8v:w8 Tryz.prog 100=⟨1,8,[.S8],[.S8],some (.S8),.map 9 9⟩:=by kernel_rfl
theorem p8w:w8 Tryz.prog 101=⟨1,0,[.any],[.any],some (.any),.other⟩:=by kernel_rfl
theorem p8x:w8 Tryz.prog 102=⟨1,8,[.Q7],[.Q7],some (.Q7),.other⟩:=by kernel_rfl
theorem p8y:w8 Tryz.prog 103=⟨1,0,[.any],[.any],some (.any),.other⟩:=by kernel_rfl
theorem p8z:w8 Tryz.prog 106=⟨1,24,[.A9],[.sl false 6 88 []],some (.A9),.slice 78⟩:=by kernel_rfl
theorem p8A:w8 Tryz.prog 107=⟨1,0,[.any],[.any],some (.any),.other⟩:=by kernel_rfl
theorem p8B:w8 Tryz.prog 111=⟨1,8,[.int .u64 0],[.int .u64 0],some (.int .u64 0),.int .u64⟩:=by kernel_rfl
theorem p8C:w8 Tryz.prog 113=⟨1,8,[.int .u64 0],[.int .u64 0],some (.int .u64 0),.int .u64⟩:=by kernel_rfl
theorem p8D:w8 Tryz.prog 115=⟨1,24,[.A9],[.sl false 1 1 []],some (.A9),.slice 5⟩:=by kernel_rfl
theorem p8E:w8 Tryz.prog 118=⟨6,104,[.str [],.str [],.int .i64 0,.str [],.A9,.A9],[.str [],.str [],.int .i64 0,.str [],.sl false 1 16 [],.sl false 4 72 []],some (.agg [.str [],.str [],.int .i64 0,.str [],.A9,.A9]),.struct [(0,1,false),(1,1,false),(2,4,true)]⟩:=by kernel_rfl
theorem p8F:w8 Tryz.prog 119=⟨6,104,[.str [],.str [],.int .i64 0,.str [],.A9,.A9],[.str [],.str [],.int .i64 0,.str [],.sl false 1 16 [],.sl false 4 72 []],some (.agg [.str [],.str [],.int .i64 0,.str [],.A9,.A9]),.struct [(0,1,false),(1,1,false),(2,4,true)]⟩:=by kernel_rfl
theorem p8G:w8 Tryz.prog 120=⟨1,24,[.A9],[.sl false 1 24 []],some (.A9),.slice 57⟩:=by kernel_rfl
theorem p8H:w8 Tryz.prog 123=⟨1,8,[.Z6],[.Z6],some (.Z6),.ptr 3⟩:=by kernel_rfl
theorem p8I:w8 Tryz.prog 124=⟨1,0,[.any],[.any],some (.any),.other⟩:=by kernel_rfl
theorem p8J:w8 Tryz.prog 126=⟨1,8,[.S8],[.S8],some (.S8),.map 9 23⟩:=by kernel_rfl
theorem p8K:w8 Tryz.prog 128=⟨1,8,[.Q7],[.Q7],some (.Q7),.other⟩:=by kernel_rfl
theorem p8L:w8 Tryz.prog 131=⟨1,8,[.Q7],[.Q7],some (.Q7),.other⟩:=by kernel_rfl
theorem p8M:w8 Tryz.prog 132=⟨1,8,[.Q7],[.Q7],some (.Q7),.other⟩:=by kernel_rfl
theorem p8N:w8 Tryz.prog 133=⟨1,8,[.S8],[.S8],some (.S8),.map 9 119⟩:=by kernel_rfl
theorem p8O:w8 Tryz.prog 134=⟨1,8,[.S8],[.S8],some (.S8),.map 9 119⟩:=by kernel_rfl
theorem p8P:w8 Tryz.prog 138=⟨1,8,[.Q7],[.Q7],some (.Q7),.other⟩:=by kernel_rfl
theorem p8Q:w8 Tryz.prog 140=⟨1,8,[.S8],[.S8],some (.S8),.map 9 78⟩:=by kernel_rfl
theorem p8R:w8 Tryz.prog 141=⟨1,8,[.Q7],[.Q7],some (.Q7),.other⟩:=by kernel_rfl
theorem p8S:w8 Tryz.prog 143=⟨1,8,[.int .i64 0],[.int .i64 0],some (.int .i64 0),.int .i64⟩:=by kernel_rfl
theorem p8T:w8 Tryz.prog 144=⟨1,0,[.any],[.any],some (.any),.other⟩:=by kernel_rfl
theorem p8U:w8 Tryz.prog 148=⟨1,0,[.any],[.any],some (.any),.other⟩:=by kernel_rfl
theorem p8V:w8 Tryz.prog 151=⟨1,4,[.int .u32 0],[.int .u32 0],some (.int .u32 0),.int .u32⟩:=by kernel_rfl
theorem p8W:w8 Tryz.prog 153=⟨1,24,[.A9],[.sl false 2 32 []],some (.A9),.slice 155⟩:=by kernel_rfl
theorem p8X:w8 Tryz.prog 154=⟨2,32,[.str [],.str []],[.str [],.str []],some (.agg [.str [],.str []]),.struct [(0,1,false),(1,1,false)]⟩:=by kernel_rfl
theorem p8Y:w8 Tryz.prog 155=⟨2,32,[.str [],.str []],[.str [],.str []],some (.agg [.str [],.str []]),.struct [(0,1,false),(1,1,false)]⟩:=by kernel_rfl
theorem p8Z:w8 Tryz.prog 158=⟨1,8,[.Q7],[.Q7],some (.Q7),.other⟩:=by kernel_rfl
theorem p9a:w8 Tryz.prog 160=⟨1,0,[.any],[.any],some (.any),.other⟩:=by kernel_rfl
theorem p9b:w8 Tryz.prog 164=⟨1,8,[.Q7],[.Q7],some (.Q7),.other⟩:=by kernel_rfl
theorem p9c:w8 Tryz.prog 165=⟨1,8,[.Q7],[.Q7],some (.Q7),.other⟩:=by kernel_rfl
theorem p9d:w8 Tryz.prog 166=⟨1,0,[.any],[.any],some (.any),.other⟩:=by kernel_rfl
theorem p9e:w8 Tryz.prog 169=⟨1,8,[.int .u64 0],[.int .u64 0],some (.int .u64 0),.int .u64⟩:=by kernel_rfl
theorem p9f:w8 Tryz.prog 177=⟨24,24,[.int .u8 0,.int .u8 0,.int .u8 0,.int .u8 0,.int .u8 0,.int .u8 0,.int .u8 0,.int .u8 0,.int .u8 0,.int .u8 0,.int .u8 0,.int .u8 0,.int .u8 0,.int .u8 0,.int .u8 0,.int .u8 0,.int .u8 0,.int .u8 0,.int .u8 0,.int .u8 0,.int .u8 0,.int .u8 0,.int .u8 0,.int .u8 0],[.int .u8 0,.int .u8 0,.int .u8 0,.int .u8 0,.int .u8 0,.int .u8 0,.int .u8 0,.int .u8 0,.int .u8 0,.int .u8 0,.int .u8 0,.int .u8 0,.int .u8 0,.int .u8 0,.int .u8 0,.int .u8 0,.int .u8 0,.int .u8 0,.int .u8 0,.int .u8 0,.int .u8 0,.int .u8 0,.int .u8 0,.int .u8 0],some (.agg [.int .u8 0,.int .u8 0,.int .u8 0,.int .u8 0,.int .u8 0,.int .u8 0,.int .u8 0,.int .u8 0,.int .u8 0,.int .u8 0,.int .u8 0,.int .u8 0,.int .u8 0,.int .u8 0,.int .u8 0,.int .u8 0,.int .u8 0,.int .u8 0,.int .u8 0,.int .u8 0,.int .u8 0,.int .u8 0,.int .u8 0,.int .u8 0]),.arr 24 5⟩:=by kernel_rfl
theorem p9g:w8 Tryz.prog 179=⟨1,0,[.any],[.any],some (.any),.other⟩:=by kernel_rfl
theorem p9h:w8 Tryz.prog 181=⟨1,8,[.Z6],[.Z6],some (.Z6),.ptr 169⟩:=by kernel_rfl
theorem p9i:w8 Tryz.prog 182=⟨1,0,[.any],[.any],some (.any),.other⟩:=by kernel_rfl
theorem p9j:w8 Tryz.prog 190=⟨20,160,[.int .u64 0,.int .u64 0,.int .u64 0,.int .u64 0,.int .u64 0,.int .u64 0,.int .u64 0,.int .u64 0,.int .u64 0,.int .u64 0,.int .u64 0,.int .u64 0,.int .u64 0,.int .u64 0,.int .u64 0,.int .u64 0,.int .u64 0,.int .u64 0,.int .u64 0,.int .u64 0],[.int .u64 0,.int .u64 0,.int .u64 0,.int .u64 0,.int .u64 0,.int .u64 0,.int .u64 0,.int .u64 0,.int .u64 0,.int .u64 0,.int .u64 0,.int .u64 0,.int .u64 0,.int .u64 0,.int .u64 0,.int .u64 0,.int .u64 0,.int .u64 0,.int .u64 0,.int .u64 0],some (.agg [.int .u64 0,.int .u64 0,.int .u64 0,.int .u64 0,.int .u64 0,.int .u64 0,.int .u64 0,.int .u64 0,.int .u64 0,.int .u64 0,.int .u64 0,.int .u64 0,.int .u64 0,.int .u64 0,.int .u64 0,.int .u64 0,.int .u64 0,.int .u64 0,.int .u64 0,.int .u64 0]),.arr 20 113⟩:=by kernel_rfl
theorem p9k:w8 Tryz.prog 191=⟨65,65,[.int .u8 0,.int .u8 0,.int .u8 0,.int .u8 0,.int .u8 0,.int .u8 0,.int .u8 0,.int .u8 0,.int .u8 0,.int .u8 0,.int .u8 0,.int .u8 0,.int .u8 0,.int .u8 0,.int .u8 0,.int .u8 0,.int .u8 0,.int .u8 0,.int .u8 0,.int .u8 0,.int .u8 0,.int .u8 0,.int .u8 0,.int .u8 0,.int .u8 0,.int .u8 0,.int .u8 0,.int .u8 0,.int .u8 0,.int .u8 0,.int .u8 0,.int .u8 0,.int .u8 0,.int .u8 0,.int .u8 0,.int .u8 0,.int .u8 0,.int .u8 0,.int .u8 0,.int .u8 0,.int .u8 0,.int .u8 0,.int .u8 0,.int .u8 0,.int .u8 0,.int .u8 0,.int .u8 0,.int .u8 0,.int .u8 0,.int .u8 0,.int .u8 0,.int .u8 0,.int .u8 0,.int .u8 0,.int .u8 0,.int .u8 0,.int .u8 0,.int .u8 0,.int .u8 0,.int .u8 0,.int .u8 0,.int .u8 0,.int .u8 0,.int .u8 0,.int .u8 0],[],some (.agg [.int .u8 0,.int .u8 0,.int .u8 0,.int .u8 0,.int .u8 0,.int .u8 0,.int .u8 0,.int .u8 0,.int .u8 0,.int .u8 0,.int .u8 0,.int .u8 0,.int .u8 0,.int .u8 0,.int .u8 0,.int .u8 0,.int .u8 0,.int .u8 0,.int .u8 0,.int .u8 0,.int .u8 0,.int .u8 0,.int .u8 0,.int .u8 0,.int .u8 0,.int .u8 0,.int .u8 0,.int .u8 0,.int .u8 0,.int .u8 0,.int .u8 0,.int .u8 0,.int .u8 0,.int .u8 0,.int .u8 0,.int .u8 0,.int .u8 0,.int .u8 0,.int .u8 0,.int .u8 0,.int .u8 0,.int .u8 0,.int .u8 0,.int .u8 0,.int .u8 0,.int .u8 0,.int .u8 0,.int .u8 0,.int .u8 0,.int .u8 0,.int .u8 0,.int .u8 0,.int .u8 0,.int .u8 0,.int .u8 0,.int .u8 0,.int .u8 0,.int .u8 0,.int .u8 0,.int .u8 0,.int .u8 0,.int .u8 0,.int .u8 0,.int .u8 0,.int .u8 0]),.arr 65 5⟩:=by kernel_rfl
theorem p9l:w8 Tryz.prog 196=⟨32,32,[.int .u8 0,.int .u8 0,.int .u8 0,.int .u8 0,.int .u8 0,.int .u8 0,.int .u8 0,.int .u8 0,.int .u8 0,.int .u8 0,.int .u8 0,.int .u8 0,.int .u8 0,.int .u8 0,.int .u8 0,.int .u8 0,.int .u8 0,.int .u8 0,.int .u8 0,.int .u8 0,.int .u8 0,.int .u8 0,.int .u8 0,.int .u8 0,.int .u8 0,.int .u8 0,.int .u8 0,.int .u8 0,.int .u8 0,.int .u8 0,.int .u8 0,.int .u8 0],[.int .u8 0,.int .u8 0,.int .u8 0,.int .u8 0,.int .u8 0,.int .u8 0,.int .u8 0,.int .u8 0,.int .u8 0,.int .u8 0,.int .u8 0,.int .u8 0,.int .u8 0,.int .u8 0,.int .u8 0,.int .u8 0,.int .u8 0,.int .u8 0,.int .u8 0,.int .u8 0,.int .u8 0,.int .u8 0,.int .u8 0,.int .u8 0,.int .u8 0,.int .u8 0,.int .u8 0,.int .u8 0,.int .u8 0,.int .u8 0,.int .u8 0,.int .u8 0],some (.agg [.int .u8 0,.int .u8 0,.int .u8 0,.int .u8 0,.int .u8 0,.int .u8 0,.int .u8 0,.int .u8 0,.int .u8 0,.int .u8 0,.int .u8 0,.int .u8 0,.int .u8 0,.int .u8 0,.int .u8 0,.int .u8 0,.int .u8 0,.int .u8 0,.int .u8 0,.int .u8 0,.int .u8 0,.int .u8 0,.int .u8 0,.int .u8 0,.int .u8 0,.int .u8 0,.int .u8 0,.int .u8 0,.int .u8 0,.int .u8 0,.int .u8 0,.int .u8 0]),.arr 32 5⟩:=by kernel_rfl
theorem p9m:w8 Tryz.prog 197=⟨64,64,[.int .u8 0,.int .u8 0,.int .u8 0,.int .u8 0,.int .u8 0,.int .u8 0,.int .u8 0,.int .u8 0,.int .u8 0,.int .u8 0,.int .u8 0,.int .u8 0,.int .u8 0,.int .u8 0,.int .u8 0,.int .u8 0,.int .u8 0,.int .u8 0,.int .u8 0,.int .u8 0,.int .u8 0,.int .u8 0,.int .u8 0,.int .u8 0,.int .u8 0,.int .u8 0,.int .u8 0,.int .u8 0,.int .u8 0,.int .u8 0,.int .u8 0,.int .u8 0,.int .u8 0,.int .u8 0,.int .u8 0,.int .u8 0,.int .u8 0,.int .u8 0,.int .u8 0,.int .u8 0,.int .u8 0,.int .u8 0,.int .u8 0,.int .u8 0,.int .u8 0,.int .u8 0,.int .u8 0,.int .u8 0,.int .u8 0,.int .u8 0,.int .u8 0,.int .u8 0,.int .u8 0,.int .u8 0,.int .u8 0,.int .u8 0,.int .u8 0,.int .u8 0,.int .u8 0,.int .u8 0,.int .u8 0,.int .u8 0,.int .u8 0,.int .u8 0],[.int .u8 0,.int .u8 0,.int .u8 0,.int .u8 0,.int .u8 0,.int .u8 0,.int .u8 0,.int .u8 0,.int .u8 0,.int .u8 0,.int .u8 0,.int .u8 0,.int .u8 0,.int .u8 0,.int .u8 0,.int .u8 0,.int .u8 0,.int .u8 0,.int .u8 0,.int .u8 0,.int .u8 0,.int .u8 0,.int .u8 0,.int .u8 0,.int .u8 0,.int .u8 0,.int .u8 0,.int .u8 0,.int .u8 0,.int .u8 0,.int .u8 0,.int .u8 0,.int .u8 0,.int .u8 0,.int .u8 0,.int .u8 0,.int .u8 0,.int .u8 0,.int .u8 0,.int .u8 0,.int .u8 0,.int .u8 0,.int .u8 0,.int .u8 0,.int .u8 0,.int .u8 0,.int .u8 0,.int .u8 0,.int .u8 0,.int .u8 0,.int .u8 0,.int .u8 0,.int .u8 0,.int .u8 0,.int .u8 0,.int .u8 0,.int .u8 0,.int .u8 0,.int .u8 0,.int .u8 0,.int .u8 0,.int .u8 0,.int .u8 0,.int .u8 0],some (.agg [.int .u8 0,.int .u8 0,.int .u8 0,.int .u8 0,.int .u8 0,.int .u8 0,.int .u8 0,.int .u8 0,.int .u8 0,.int .u8 0,.int .u8 0,.int .u8 0,.int .u8 0,.int .u8 0,.int .u8 0,.int .u8 0,.int .u8 0,.int .u8 0,.int .u8 0,.int .u8 0,.int .u8 0,.int .u8 0,.int .u8 0,.int .u8 0,.int .u8 0,.int .u8 0,.int .u8 0,.int .u8 0,.int .u8 0,.int .u8 0,.int .u8 0,.int .u8 0,.int .u8 0,.int .u8 0,.int .u8 0,.int .u8 0,.int .u8 0,.int .u8 0,.int .u8 0,.int .u8 0,.int .u8 0,.int .u8 0,.int .u8 0,.int .u8 0,.int .u8 0,.int .u8 0,.int .u8 0,.int .u8 0,.int .u8 0,.int .u8 0,.int .u8 0,.int .u8 0,.int .u8 0,.int .u8 0,.int .u8 0,.int .u8 0,.int .u8 0,.int .u8 0,.int .u8 0,.int .u8 0,.int .u8 0,.int .u8 0,.int .u8 0,.int .u8 0]),.arr 64 5⟩:=by kernel_rfl
theorem p9n:w8 Tryz.prog 198=⟨4,40,[.Z6,.Z6,.Z6,.str []],[.Z6,.Z6,.Z6,.str []],some (.agg [.Z6,.Z6,.Z6,.str []]),.struct [(0,1,false),(1,1,false),(2,1,false),(3,1,false)]⟩:=by kernel_rfl
theorem p9o:w8 Tryz.prog 201=⟨0,0,[],[],some (.agg []),.struct [(0,0,true)]⟩:=by kernel_rfl
theorem p9p:w8 Tryz.prog 207=⟨1,8,[.Z6],[.Z6],some (.Z6),.ptr 5⟩:=by kernel_rfl
theorem p9q:w8 Tryz.prog 210=⟨11,48,[.int .u64 0,.int .u64 0,.int .u32 0,.int .u8 0,.int .u8 0,.int .u8 0,.int .u8 0,.Q7,.Z6,.int .i32 0,.int .i32 0],[.int .u64 0,.int .u64 0,.int .u32 0,.int .u8 0,.int .u8 0,.int .u8 0,.int .u8 0,.Q7,.Z6,.int .i32 0,.int .i32 0],some (.agg [.int .u64 0,.int .u64 0,.int .u32 0,.int .u8 0,.int .u8 0,.int .u8 0,.int .u8 0,.Q7,.Z6,.int .i32 0,.int .i32 0]),.struct [(0,1,false),(1,1,false),(2,1,false),(3,1,false),(4,1,false),(5,1,false),(6,1,false),(7,1,false),(8,1,false),(9,1,false),(10,1,false)]⟩:=by kernel_rfl
theorem fk7:bF Tryz.prog 7=some [1,1,3,1]:=by kernel_rfl
theorem p9s:bF Tryz.prog 25=some [1,2,0,0]:=by kernel_rfl
theorem p9t:bF Tryz.prog 26=some [1,2,0,0]:=by kernel_rfl
theorem p9u:bF Tryz.prog 28=some [1,1]:=by kernel_rfl
theorem p9v:bF Tryz.prog 29=some [1,1]:=by kernel_rfl
theorem p9w:bF Tryz.prog 41=some [1,1]:=by kernel_rfl
theorem p9x:bF Tryz.prog 42=some [1,1]:=by kernel_rfl
theorem p9y:bF Tryz.prog 55=some [1,2,0,0,1]:=by kernel_rfl
theorem p9z:bF Tryz.prog 56=some [1,2,0,0,1]:=by kernel_rfl
theorem p9A:bF Tryz.prog 73=some [0,0,0,1]:=by kernel_rfl
theorem p9B:bF Tryz.prog 74=some [0,0,0,1]:=by kernel_rfl
theorem p9C:bF Tryz.prog 118=some [2,2,0]:=by kernel_rfl
theorem p9D:bF Tryz.prog 119=some [2,2,0]:=by kernel_rfl
theorem p9E:bF Tryz.prog 154=some [2,2]:=by kernel_rfl
theorem p9F:bF Tryz.prog 155=some [2,2]:=by kernel_rfl
attribute [go_sem] ty0 rK Ez ty4 ty5 ty7 ty9 p7D p7E p7F p7G p7H d3f p7I p7J p7K p7L p7M p7N p7O p7P p7Q p7R p7S p7T p7U p7V p7W p7X p7Y p7Z p8a p8b p8c p8d p8e p8f p8g p8h p8i p8j p8k p8l p8m p8n p8o p8p p8q p8r p8s p8t p8u p8v p8w p8x p8y p8z p8A p8B p8C p8D p8E p8F p8G p8H p8I p8J p8K p8L p8M p8N p8O p8P p8Q p8R p8S p8T p8U p8V p8W p8X p8Y p8Z p9a p9b p9c p9d p9e p9f p9g p9h p9i p9j p9k p9l p9m p9n p9o p9p p9q fk7 p9s p9t p9u p9v p9w p9x p9y p9z p9A p9B p9C p9D p9E p9F
def gl:Gl where
 tab:=fun _=>none
 M7:=fun t=>wb t 23||wb t 54||wb t 84||wb t 92||wb t 115
 whole:=fun g=>if g=0 then some (Lib.pow10Tab.map fun z=>Value.int .u64 z).toArray else none
@[go_sem] theorem p9G:gl.M7 22=false:=rfl
@[go_sem] theorem p9H:gl.M7 23=true:=rfl
@[go_sem] theorem p9I:gl.M7 24=false:=rfl
@[go_sem] theorem p9J:gl.M7 32=false:=rfl
@[go_sem] theorem p9K:gl.M7 54=true:=rfl
@[go_sem] theorem p9L:gl.M7 57=false:=rfl
@[go_sem] theorem p9M:gl.M7 84=true:=rfl
@[go_sem] theorem p9N:gl.M7 88=false:=rfl
@[go_sem] theorem p9O:gl.M7 91=false:=rfl
@[go_sem] theorem p9P:gl.M7 92=true:=rfl
@[go_sem] theorem p9Q:gl.M7 106=false:=rfl
@[go_sem] theorem p9R:gl.M7 115=true:=rfl
@[go_sem] theorem p9S:gl.M7 153=false:=rfl
def EU:Gl where
 tab:=gl.tab
 M7:=fun _=>false
 whole:=gl.whole
@[go_sem] theorem p9T(t:TypeId):EU.M7 t=false:=rfl
@[go_sem] theorem p9U(t:Nat):EU.tab t=gl.tab t:=rfl
theorem mM{f:FuncId}{st:St}{R:D->St->Prop}(h:Am.Spec P EU f args st R):Am.Spec P gl f args st R:=h
theorem vH{f:FuncId}{st:St}{R:D->St->Prop}(h:Am.Spec P gl f args st R):Am.Spec P EU f args st R:=h
theorem aP{f:FuncId}{r:D}(h:Pure P gl f args r):Pure P EU f args r:=h
def lA:Gl where
 tab:=gl.tab
 M7:=fun t=>wb t 115
 whole:=gl.whole
@[go_sem] theorem p9V(t:Nat):lA.tab t=gl.tab t:=rfl
@[go_sem] theorem p9W:lA.M7 22=false:=rfl
@[go_sem] theorem p9X:lA.M7 23=false:=rfl
@[go_sem] theorem p9Y:lA.M7 24=false:=rfl
@[go_sem] theorem p9Z:lA.M7 32=false:=rfl
@[go_sem] theorem r0a:lA.M7 54=false:=rfl
@[go_sem] theorem r0b:lA.M7 57=false:=rfl
@[go_sem] theorem r0c:lA.M7 84=false:=rfl
@[go_sem] theorem r0d:lA.M7 88=false:=rfl
@[go_sem] theorem r0e:lA.M7 91=false:=rfl
@[go_sem] theorem r0f:lA.M7 92=false:=rfl
@[go_sem] theorem r0g:lA.M7 106=false:=rfl
@[go_sem] theorem r0h:lA.M7 115=true:=rfl
@[go_sem] theorem r0i:lA.M7 153=false:=rfl
@[go_sem] theorem r0j{fs:List (Nat×Nat×Bool)}(o:Option K1):jV ⟨a,b,z,[.int .i64 0,.str [],.sl false 1 16 [],.sl false 4 72 [],.int .i64 0,.int .i64 0],some (.agg [.int .i64 0,.str [],.A9,.A9,.int .i64 0,.int .i64 0]),.struct fs⟩ (o.map K1.cells)= .agg (K1.cells (o.getD default)):=by cases o<;>rfl
@[go_sem] theorem r0k{fs:List (Nat×Nat×Bool)}(o:Option C4):jV ⟨a,b,z,[.str [],.str [],.int .i64 0,.str [],.sl false 1 16 [],.sl false 4 72 []],some (.agg [.str [],.str [],.int .i64 0,.str [],.A9,.A9]),.struct fs⟩ (o.map C4.cells)= .agg (C4.cells (o.getD default)):=by cases o<;>rfl
@[go_sem] theorem r0l{e:Nat}(o:Option (List J)):jV ⟨a,b,z,[.sl false 1 16 []],some .A9,.slice e⟩ (o.map (slc 1 16 B2))= .sl false 1 16 (rows B2 (o.getD default)):=by cases o<;>rfl
@[go_sem] theorem r0m:jV ⟨a,b,z,dd,some (.str []),.str⟩ none= .str []:=rfl
@[go_sem] theorem r0n:jV ⟨a,b,z,dd,some (.int .i64 0),.int .i64⟩ none= .int .i64 0:=rfl
@[go_sem] theorem r0o:jV ⟨a,b,z,dd,some (.bool false),.bool⟩ none= .bool false:=rfl
theorem follows:(Tryz.prog).follows .mixedOrders=true:=by kernel_rfl
end Go.Proofs.YtchbmngmmdeenaaGreatDoor
namespace Go.Proofs.YtchbmngmmdeenaaGreatDoor
open Go Go.Am Go.Shelf
theorem jh{P:Program}{f:FuncId}{AD B':Func}(h:P.funcs[f]? =some B')(hn:(B'.name== "runtime.NumGoroutine")=false)(e:B'= { AD with name:=B'.name }):Go.Proofs.Bears P f AD:=⟨B'.name,hn,h.trans (congrArg some e)⟩
def i5N:Ren:=⟨fun x=>if x=4 then 118 else x,
 fun x=>if x=22 then 23 else if x=25 then 9 else x,fun x=>x⟩
theorem i5O:Go.Proofs.Lays8.n4 Tryz.prog i5N where
 mixed:=follows
 f4:=jh Tryz.func118 (by kernel_rfl) (by kernel_rfl)
 t0:=Tryz.underlying0
 a0:=Tryz.isAgg0
 z0:=Tryz.sizeOf0
 v0:=Tryz.zeroValue0
 t3:=Tryz.underlying3
 a3:=Tryz.isAgg3
 z3:=Tryz.sizeOf3
 v3:=Tryz.zeroValue3
 t4:=Tryz.underlying4
 a4:=Tryz.isAgg4
 z4:=Tryz.sizeOf4
 v4:=Tryz.zeroValue4
 t9:=Tryz.underlying9
 a9:=Tryz.isAgg9
 z9:=Tryz.sizeOf9
 v9:=Tryz.zeroValue9
 t20:=Tryz.underlying20
 a20:=Tryz.isAgg20
 z20:=Tryz.sizeOf20
 v20:=Tryz.zeroValue20
 t22:=Tryz.underlying23
 a22:=Tryz.isAgg23
 z22:=Tryz.sizeOf23
 v22:=Tryz.zeroValue23
def BH(ls:List (List J)):Option (List J):=w6 (ls.length<=8000000/\ls.flatten.length<=8000000) (some ls.flatten)
def Z7(ls:List (List J))(k:Nat):List J:=(ls.take k).flatten
theorem d3g{ls:List (List J)}{k:Nat}(h:k<ls.length):Z7 ls (k+1)=Z7 ls k++Am.get ls k:=by unfold Z7;rw[List.take_add_one,List.getElem?_eq_getElem h,zr];simp[Am.get,h]
theorem d3h(ls:List (List J))(k:Nat):(Z7 ls k).length<=ls.flatten.length:=by
 have:ls.flatten.length=(Z7 ls k).length+(ls.drop k).flatten.length:=by unfold Z7;rw[<-aa, <-zr,List.take_append_drop]
 omega
theorem d3i(ls:List (List J))(r:List J)(h:BH ls=some r):Pure Tryz.prog gl 88 [.sl false 1 24 (rows (slc 1 16 B2) ls)] (.sl false 1 16 (rows B2 r)):=by
 intro st;have⟨⟨hn,hL⟩,h⟩:=oT h;obtain rfl:=dj h;have V:=trivial;refine fb 36 [.tmp 2] [0,2,3,5,6,8,9,10,11,12,20,25,26,27,28] Tryz.func88 fun hsc=>?_;refine rn ?_;refine rW (fr':=[(0,.sl false 1 24 (rows (slc 1 16 B2) ls)),(3,.int .i64 ((Z7 ls 0).length:Int)),(9,.sl false 1 24 (rows (slc 1 16 B2) ls)),(10,.int .i64 (ls.length:Int)),(11,.int .i64 ((0:Nat):Int))]) ⟨rfl,rfl,rfl,rfl,rfl,trivial⟩ ?_;refine JR (ρ:=Unit) (n:=ls.length) (body:=fun _ (s:Unit)=>some (.B7 s)) (kk:=fun s=>some s) (Y:=()) (e:=())
  (fun(k:Nat) (_:Unit) B' yk=>B'=[(0,.sl false 1 24 (rows (slc 1 16 B2) ls)),(3,.int .i64 ((Z7 ls k).length:Int)),(9,.sl false 1 24 (rows (slc 1 16 B2) ls)),(10,.int .i64 (ls.length:Int)),(11,.int .i64 (k:Int))]/\st=yk)
  (fun(_:Unit) B' yk=>B'=[(0,.sl false 1 24 (rows (slc 1 16 B2) ls)),(3,.int .i64 (ls.flatten.length:Int))]/\st=yk)
  (fun k s b H=>⟨s,(dj H).symm⟩) (JQ _ _) ⟨rfl,rfl⟩
  (fun k s s' fr yk S H u=>?_) (fun s fr yk u=>?_) (fun s B' fr yk hkk L hF=>?_)
 ·obtain⟨rfl,rfl⟩:=u;have U:=d3h ls (k+1);have X:=d3g S;have h3:(Z7 ls (k+1)).length=(Z7 ls k).length+(Am.get ls k).length:=by rw[X,aa]
  have hw:wr .i64 ((k:Int)+1)=((k+1:Nat):Int):=Bc S M;have sF:wr .i64 (((Z7 ls k).length:Int)+((Am.get ls k).length:Int))=((Z7 ls (k+1)).length:Int):=by rw[F9 M M,h3];rfl
  have V:=fa V (fa hw (fa sF S));refine ct ?_;refine rn ?_;refine cf ?_;refine rn ?_;exact⟨[(0,.sl false 1 24 (rows (slc 1 16 B2) ls)),(3,.int .i64 ((Z7 ls (k+1)).length:Int)),(9,.sl false 1 24 (rows (slc 1 16 B2) ls)),(10,.int .i64 (ls.length:Int)),(11,.int .i64 ((k+1:Nat):Int))],⟨rfl,rfl,rfl,rfl,rfl,trivial⟩,rfl⟩
 ·obtain⟨rfl,rfl⟩:=u;refine cf ?_;refine uL ?_;refine⟨rfl,[(0,.sl false 1 24 (rows (slc 1 16 B2) ls)),(3,.int .i64 (ls.flatten.length:Int))],⟨rfl,?_,trivial⟩,rfl,rfl⟩;have e:Z7 ls ls.length=ls.flatten:=by unfold Z7;rw[cj]
  rw[<-e];rfl
 obtain⟨rfl,rfl⟩:=L;try simp only[go_sem]
 refine rW hF ?_;refine rn ?_;have fj:((Tryz.prog.info? 9).bind fun i=>i.zero.map fun z=>(z.cells.size,i.size,i.bytes))=some (1,1,16):=by kernel_rfl
 have⟨i0,hi0,fj⟩:=Option.bind_eq_some_iff.1 fj;have⟨z,hz0,fj⟩:=Option.map_eq_some_iff.1 fj;obtain⟨Ar,bT,Kq⟩:z.cells.size=1/\i0.size=1/\i0.bytes=16:=by simpa using fj
 refine(i4E (z:=z) i5O hi0 hz0 (by rw[Ar,bT]) M (by kernel_rfl) (n:=ls.flatten.length) (by rw[Kq];unfold top;omega) M).mono ?_;rintro d1 st1 ⟨rfl,rfl⟩;rw[bT,Kq];try simp only[go_sem]
 refine rn ?_;refine rW (fr':=[(6,.ref false st.length 0 0 0),(25,.sl false 1 24 (rows (slc 1 16 B2) ls)),(26,.int .i64 (ls.length:Int)),(27,.int .i64 ((0:Nat):Int))]) ⟨rfl,rfl,rfl,rfl,trivial⟩ ?_;refine JR (ρ:=Unit) (n:=ls.length) (body:=fun _ (s:Unit)=>some (.B7 s)) (kk:=fun s=>some s) (Y:=()) (e:=())
  (fun(k:Nat) (_:Unit) B' yk=>∃N o g,B'=[(6,.ref false o g 0 (Z7 ls k).length),(25,.sl false 1 24 (rows (slc 1 16 B2) ls)),(26,.int .i64 (ls.length:Int)),(27,.int .i64 (k:Int))]/\yk=st++N/\st.length<=o/\Am.look (st++N) o=some (.arr g 1 16 (rows B2 (Z7 ls k))))
  (fun(_:Unit) B' yk=>∃N o g,B'=[(6,.ref false o g 0 ls.flatten.length)]/\yk=st++N/\st.length<=o/\Am.look (st++N) o=some (.arr g 1 16 (rows B2 ls.flatten)))
  (fun k s b H=>⟨s,(dj H).symm⟩) (JQ _ _) ⟨[some (.arr 0 1 16 [])],st.length,0,rfl,rfl,ae _,?_⟩
  (fun k s s' fr yk S H u=>?_) (fun s fr yk u=>?_) (fun s B' fr yk hkk L hF=>?_)
 ·exact uN.trans rfl
 ·obtain⟨N,o,g,rfl,rfl,hge,hlk⟩:=u;have U:=d3h ls (k+1);have X:=d3g S;have h3:(Z7 ls (k+1)).length=(Z7 ls k).length+(Am.get ls k).length:=by rw[X,aa]
  have hw:wr .i64 ((k:Int)+1)=((k+1:Nat):Int):=Bc S M;have ha1:rows B2 (Z7 ls k)++rows B2 (Am.get ls k)=rows B2 (Z7 ls (k+1)):=by rw[X];exact Rj (E:=B2) _ _
  have ha2:(rows B2 (Z7 ls k)).length=(Z7 ls k).length:=av _;have ha3:(rows B2 (Z7 ls k)).take (Z7 ls k).length=rows B2 (Z7 ls k):=by rw[<-ha2,cj]
  have hb1:((Z7 ls k).length+(Am.get ls k).length)*16<=top:=by unfold top;omega
  have gR:(Z7 ls k).length+(Am.get ls k).length<=top:=by unfold top;omega
  obtain⟨yk,hS⟩:∃x,x=st++N:=⟨_,rfl⟩;refine sv hS ?_;rw[<-hS]at hlk;have V:=fa V (fa hw (fa S (fa (H7 (E2 hlk)) (fa ha1 (fa ha2 (fa ha3 (fa hb1 (fa gR h3.symm))))))));refine sv (s':=C2 yk [(o,.arr g 1 16 (rows B2 (Z7 ls k)))]) (lu (by simp[hlk])) ?_;refine ct ?_;refine rn ?_;refine⟨⟨by omega,by omega⟩,?_⟩;refine rn ?_;have ga:C2 yk [(o,Ob.arr (g+1) 1 16 (rows B2 (Z7 ls (k+1))))]=st++N.set (o-st.length) (some (Ob.arr (g+1) 1 16 (rows B2 (Z7 ls (k+1))))):=by show yk.set o _=_;rw[hS,List.set_append_right _ _ hge]
  refine⟨[(6,.ref false o (g+1) 0 (Z7 ls (k+1)).length),(25,.sl false 1 24 (rows (slc 1 16 B2) ls)),(26,.int .i64 (ls.length:Int)),(27,.int .i64 ((k+1:Nat):Int))],⟨rfl,rfl,rfl,rfl,trivial⟩,N.set (o-st.length) (some (Ob.arr (g+1) 1 16 (rows B2 (Z7 ls (k+1))))),o,g+1,rfl,ga,hge,?_⟩;rw[<-ga];show Am.look (yk.set o _) o=_;unfold Am.look;rw[List.getElem?_set_self (E2 hlk)];rfl
 ·obtain⟨N,o,g,rfl,rfl,hge,hlk⟩:=u;have e:Z7 ls ls.length=ls.flatten:=by unfold Z7;rw[cj]
  rw[e]at hlk;refine cf ?_;refine uL ?_;refine⟨rfl,[(6,.ref false o g 0 ls.flatten.length)],⟨?_,trivial⟩,N,o,g,rfl,rfl,hge,hlk⟩;rw[<-e];rfl
 obtain⟨N,o,g,rfl,rfl,hge,hlk⟩:=L;try simp only[go_sem]
 refine rW hF ?_;refine rr ?_;refine⟨st,.sl false 1 16 (rows B2 ls.flatten),ae _,uU hsc,.ref _ _ _ _ _ 1 16 _ _ (V7 hlk) ?_ D5 (br _) ?_,?_,rfl,rfl⟩
 ·unfold Am.look;rw[List.getElem?_eq_none hge];rfl
 ·rw[List.drop_zero, <-av (E:=B2) ls.flatten,cj]
 ·simp
def Sb:Ren:=⟨fun x=>if x=125 then 60 else if x=128 then 101 else if x=129 then 102 else if x=171 then 55 else if x=190 then 107 else if x=194 then 108 else if x=243 then 85 else if x=246 then 113 else if x=258 then 126 else if x=283 then 128 else if x=284 then 129 else if x=285 then 130 else if x=286 then 131 else if x=302 then 134 else if x=303 then 135 else if x=304 then 136 else if x=305 then 137 else if x=306 then 138 else if x=307 then 139 else if x=308 then 140 else if x=309 then 141 else if x=310 then 142 else if x=317 then 143 else if x=318 then 144 else if x=319 then 145 else if x=320 then 146 else if x=329 then 121 else if x=330 then 122 else if x=333 then 147 else if x=334 then 148 else if x=335 then 149 else if x=336 then 150 else if x=337 then 151 else if x=338 then 152 else if x=344 then 153 else x,
 fun x=>if x=31 then 23 else if x=37 then 115 else if x=46 then 111 else if x=51 then 151 else if x=53 then 113 else if x=131 then 148 else if x=171 then 177 else if x=173 then 179 else if x=182 then 143 else if x=183 then 144 else if x=212 then 190 else if x=213 then 191 else if x=218 then 169 else if x=222 then 123 else if x=228 then 181 else if x=229 then 182 else if x=232 then 196 else if x=233 then 197 else x,fun x=>if x=17 then 0 else if x=18 then 1 else if x=19 then 2 else x⟩
theorem i5R:Go.Proofs.Lays.n190 Tryz.prog Sb where
 mixed:=follows
 f125:=Tryz.func60.trans (by kernel_rfl)
 f128:=Tryz.func101.trans (by kernel_rfl)
 f129:=Tryz.func102.trans (by kernel_rfl)
 f190:=Tryz.func107.trans (by kernel_rfl)
 f258:=Tryz.func126.trans (by kernel_rfl)
 f302:=Tryz.func134.trans (by kernel_rfl)
 f303:=Tryz.func135.trans (by kernel_rfl)
 f304:=Tryz.func136.trans (by kernel_rfl)
 f305:=Tryz.func137.trans (by kernel_rfl)
 f306:=Tryz.func138.trans (by kernel_rfl)
 f307:=Tryz.func139.trans (by kernel_rfl)
 f308:=Tryz.func140.trans (by kernel_rfl)
 f309:=Tryz.func141.trans (by kernel_rfl)
 f310:=Tryz.func142.trans (by kernel_rfl)
 f329:=Tryz.func121.trans (by kernel_rfl)
 f330:=Tryz.func122.trans (by kernel_rfl)
 f333:=Tryz.func147.trans (by kernel_rfl)
 f334:=Tryz.func148.trans (by kernel_rfl)
 f335:=Tryz.func149.trans (by kernel_rfl)
 f336:=Tryz.func150.trans (by kernel_rfl)
 f344:=Tryz.func153.trans (by kernel_rfl)
 t0:=Tryz.underlying0
 a0:=Tryz.isAgg0
 z0:=Tryz.sizeOf0
 v0:=Tryz.zeroValue0
 t3:=Tryz.underlying3
 a3:=Tryz.isAgg3
 z3:=Tryz.sizeOf3
 v3:=Tryz.zeroValue3
 t4:=Tryz.underlying4
 a4:=Tryz.isAgg4
 z4:=Tryz.sizeOf4
 v4:=Tryz.zeroValue4
 t5:=Tryz.underlying5
 a5:=Tryz.isAgg5
 z5:=Tryz.sizeOf5
 v5:=Tryz.zeroValue5
 t9:=Tryz.underlying9
 a9:=Tryz.isAgg9
 z9:=Tryz.sizeOf9
 v9:=Tryz.zeroValue9
 t31:=Tryz.underlying23
 a31:=Tryz.isAgg23
 z31:=Tryz.sizeOf23
 v31:=Tryz.zeroValue23
 t46:=Tryz.underlying111
 a46:=Tryz.isAgg111
 z46:=Tryz.sizeOf111
 v46:=Tryz.zeroValue111
 t51:=Tryz.underlying151
 a51:=Tryz.isAgg151
 z51:=Tryz.sizeOf151
 v51:=Tryz.zeroValue151
 t53:=Tryz.underlying113
 a53:=Tryz.isAgg113
 z53:=Tryz.sizeOf113
 v53:=Tryz.zeroValue113
 t131:=Tryz.underlying148
 a131:=Tryz.isAgg148
 z131:=Tryz.sizeOf148
 v131:=Tryz.zeroValue148
 t182:=Tryz.underlying143
 a182:=Tryz.isAgg143
 z182:=Tryz.sizeOf143
 v182:=Tryz.zeroValue143
 t183:=Tryz.underlying144
 a183:=Tryz.isAgg144
 z183:=Tryz.sizeOf144
 v183:=Tryz.zeroValue144
 t218:=Tryz.underlying169
 a218:=Tryz.isAgg169
 z218:=Tryz.sizeOf169
 v218:=Tryz.zeroValue169
 t222:=Tryz.underlying123
 a222:=Tryz.isAgg123
 z222:=Tryz.sizeOf123
 v222:=Tryz.zeroValue123
 t228:=Tryz.underlying181
 a228:=Tryz.isAgg181
 z228:=Tryz.sizeOf181
 v228:=Tryz.zeroValue181
 t229:=Tryz.underlying182
 a229:=Tryz.isAgg182
 z229:=Tryz.sizeOf182
 v229:=Tryz.zeroValue182
theorem i5S:Go.Proofs.Lays.n194 Tryz.prog Sb where
 mixed:=follows
 f194:=Tryz.func108.trans (by kernel_rfl)
 t0:=Tryz.underlying0
 a0:=Tryz.isAgg0
 z0:=Tryz.sizeOf0
 v0:=Tryz.zeroValue0
 t3:=Tryz.underlying3
 a3:=Tryz.isAgg3
 z3:=Tryz.sizeOf3
 v3:=Tryz.zeroValue3
 t4:=Tryz.underlying4
 a4:=Tryz.isAgg4
 z4:=Tryz.sizeOf4
 v4:=Tryz.zeroValue4
 t9:=Tryz.underlying9
 a9:=Tryz.isAgg9
 z9:=Tryz.sizeOf9
 v9:=Tryz.zeroValue9
 t31:=Tryz.underlying23
 a31:=Tryz.isAgg23
 z31:=Tryz.sizeOf23
 v31:=Tryz.zeroValue23
theorem i5T:Go.Proofs.LaysM.n171 Tryz.prog Sb where
 mixed:=follows
 f129:=Tryz.func102.trans (by kernel_rfl)
 f171:=Tryz.func55.trans (by kernel_rfl)
 f243:=Tryz.func85.trans (by kernel_rfl)
 f246:=Tryz.func113.trans (by kernel_rfl)
 f283:=Tryz.func128.trans (by kernel_rfl)
 f284:=Tryz.func129.trans (by kernel_rfl)
 f285:=Tryz.func130.trans (by kernel_rfl)
 f286:=Tryz.func131.trans (by kernel_rfl)
 f317:=Tryz.func143.trans (by kernel_rfl)
 f318:=Tryz.func144.trans (by kernel_rfl)
 f319:=Tryz.func145.trans (by kernel_rfl)
 f320:=Tryz.func146.trans (by kernel_rfl)
 f337:=Tryz.func151.trans (by kernel_rfl)
 f338:=Tryz.func152.trans (by kernel_rfl)
 t0:=Tryz.underlying0
 a0:=Tryz.isAgg0
 z0:=Tryz.sizeOf0
 v0:=Tryz.zeroValue0
 t2:=Tryz.underlying2
 a2:=Tryz.isAgg2
 z2:=Tryz.sizeOf2
 v2:=Tryz.zeroValue2
 t3:=Tryz.underlying3
 a3:=Tryz.isAgg3
 z3:=Tryz.sizeOf3
 v3:=Tryz.zeroValue3
 t4:=Tryz.underlying4
 a4:=Tryz.isAgg4
 z4:=Tryz.sizeOf4
 v4:=Tryz.zeroValue4
 t5:=Tryz.underlying5
 a5:=Tryz.isAgg5
 z5:=Tryz.sizeOf5
 v5:=Tryz.zeroValue5
 t9:=Tryz.underlying9
 a9:=Tryz.isAgg9
 z9:=Tryz.sizeOf9
 v9:=Tryz.zeroValue9
 t20:=Tryz.underlying20
 a20:=Tryz.isAgg20
 z20:=Tryz.sizeOf20
 v20:=Tryz.zeroValue20
 t37:=Tryz.underlying115
 a37:=Tryz.isAgg115
 z37:=Tryz.sizeOf115
 v37:=Tryz.zeroValue115
 t46:=Tryz.underlying111
 a46:=Tryz.isAgg111
 z46:=Tryz.sizeOf111
 v46:=Tryz.zeroValue111
 t51:=Tryz.underlying151
 a51:=Tryz.isAgg151
 z51:=Tryz.sizeOf151
 v51:=Tryz.zeroValue151
 t53:=Tryz.underlying113
 a53:=Tryz.isAgg113
 z53:=Tryz.sizeOf113
 v53:=Tryz.zeroValue113
 t171:=Tryz.underlying177
 a171:=Tryz.isAgg177
 z171:=Tryz.sizeOf177
 v171:=Tryz.zeroValue177
 t173:=Tryz.underlying179
 a173:=Tryz.isAgg179
 z173:=Tryz.sizeOf179
 v173:=Tryz.zeroValue179
 t212:=Tryz.underlying190
 a212:=Tryz.isAgg190
 z212:=Tryz.sizeOf190
 v212:=Tryz.zeroValue190
 t213:=Tryz.underlying191
 a213:=Tryz.isAgg191
 z213:=Tryz.sizeOf191
 t232:=Tryz.underlying196
 a232:=Tryz.isAgg196
 z232:=Tryz.sizeOf196
 v232:=Tryz.zeroValue196
 t233:=Tryz.underlying197
 a233:=Tryz.isAgg197
 z233:=Tryz.sizeOf197
 v233:=Tryz.zeroValue197
 g17:=by kernel_rfl
 g18:=by kernel_rfl
 g19:=by kernel_rfl
 i0:=by kernel_rfl
 i2:=by kernel_rfl
 i3:=by kernel_rfl
 i4:=by kernel_rfl
 i5:=by kernel_rfl
 i9:=by kernel_rfl
 i20:=by kernel_rfl
 i37:=by kernel_rfl
 i46:=by kernel_rfl
 i51:=by kernel_rfl
 i53:=by kernel_rfl
 i171:=by kernel_rfl
 i173:=by kernel_rfl
 i212:=by kernel_rfl
 i232:=by kernel_rfl
 i233:=by kernel_rfl
 m17:=by kernel_rfl
 m18:=by kernel_rfl
 m19:=by kernel_rfl
def itoa(a0:Int):Option J:=w6 (-9223372036854775808<=a0/\a0<=9223372036854775807) (some (Lib.itoa a0))
theorem i5U{w:World}{μ:Mu}{st:St}(hg:Glob gl w μ st):Lib.TabIs Tryz.prog w "internal/strconv.uint64pow10" .u64 Lib.pow10Tab:=by
 have⟨_,_,ty,fr,h⟩:=hg.all 0 _ rfl;unfold Lib.TabIs World.var?;rw[show Tryz.prog.globalNamed "internal/strconv.uint64pow10" =some 0 by kernel_rfl]
 show(match w.heap[0]? with|some (.cells cs _ _)=>some cs| _=>none)=_
 rw[h]
theorem EV(a0:Int)(r:J)(h:itoa a0=some r):Pure Tryz.prog gl 55 [.int .i64 a0] (.str r):=by
 intro st;have⟨⟨h0,U⟩,h⟩:=oT h;cases h;refine⟨trivial,fun w μ vs hs hg hn Q=>?_⟩;have e0:=dy (Q 0 B5);obtain⟨v,rfl⟩:=JU (show vs.size=1 by simpa using hn);obtain rfl:v= .int .i64 a0:=e0;refine .inl ⟨by unfold iZ;rw[Tryz.func55];kernel_rfl,?_⟩;refine(Any.strconv_Itoa i5T a0 h0 U w (i5U hg)).mono fun e w' ⟨U,k,os,X⟩=>?_;subst X;have g:=PE (w':=Sort.grow (w.drewN k) os) hs (by simp[Sort.grow,World.drewN]) rfl rfl ⟨rfl,Dr.le (by simp[Sort.grow,World.drewN])⟩ (fun j L=>by show(w.heap++os)[j]? =_;rw[Array.getElem?_append_left L])
 refine⟨_,_,st,μ,U,⟨rfl,rfl⟩,g.1,g.2,?_⟩;exact xQ _ _ _ (Lib.itoa a0)
end Go.Proofs.YtchbmngmmdeenaaGreatDoor
namespace Go.Proofs.YtchbmngmmdeenaaGreatDoor
open Go Go.Am
def gu(a b:C6):Int:=a.at_-b.at_
def Kr(l:List C6):Prop:=(∀x∈l,0<=x.at_/\x.at_<=1000000)/\(l.map (·.at_)).Nodup
instance(l:List C6):Decidable (Kr l):=inferInstanceAs (Decidable (_/\_))
