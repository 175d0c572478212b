import Derived.Test.YtdjnbjnlnjhllaaDoorProg
import Derived.Test.YtdjnbjnlnjhllaaDoorFBAm3
set_option linter.unusedVariables false
set_option linter.unusedSimpArgs false
namespace Go.Proofs.YtdjnbjnlnjhllaaDoor
open Go Go.Am
theorem ty0:Mc Tryd.prog 0=⟨1,0,[.any],[.any],some (.any),.other⟩:=by kernel_rfl
theorem ty2:Mc Tryd.prog 2=⟨1,8,[.int .i64 0],[.int .i64 0],some (.int .i64 0),.int .i64⟩:=by kernel_rfl
theorem ty3:Mc Tryd.prog 3=⟨1,8,[.int .i64 0],[.int .i64 0],some (.int .i64 0),.int .i64⟩:=by kernel_rfl
theorem ty4:Mc Tryd.prog 4=⟨1,1,[.bool false],[.bool false],some (.bool false),.bool⟩:=by kernel_rfl
theorem ty5:Mc Tryd.prog 5=⟨1,1,[.int .u8 0],[.int .u8 0],some (.int .u8 0),.int .u8⟩:=by kernel_rfl
theorem ty7:Mc Tryd.prog 7=⟨4,24,[.int .i64 0,.int .i64 0,.bool false,.int .u8 0],[.int .i64 0,.int .i64 0,.bool false,.int .u8 0],some (.agg [.int .i64 0,.int .i64 0,.bool false,.int .u8 0]),.struct [(0,1,false),(1,1,false),(2,1,false),(3,1,false)]⟩:=by kernel_rfl
theorem ty9:Mc Tryd.prog 9=⟨1,16,[.str []],[.str []],some (.str []),.str⟩:=by kernel_rfl
theorem i7D:Mc Tryd.prog 12=⟨1,8,[.int .u64 0],[.int .u64 0],some (.int .u64 0),.int .u64⟩:=by kernel_rfl
theorem i7E:Mc Tryd.prog 13=⟨2,24,[.str [],.int .u64 0],[.str [],.int .u64 0],some (.agg [.str [],.int .u64 0]),.struct [(0,1,false),(1,1,false)]⟩:=by kernel_rfl
theorem i7F:Mc Tryd.prog 18=⟨1,8,[.VT],[.VT],some (.agg [.VT]),.struct [(0,1,false)]⟩:=by kernel_rfl
theorem i7G:Mc Tryd.prog 21=⟨1,4,[.int .i32 0],[.int .i32 0],some (.int .i32 0),.int .i32⟩:=by kernel_rfl
theorem i5S:Mc Tryd.prog 22=⟨1,24,[.Mk],[.sl false 1 16 []],some (.Mk),.slice 9⟩:=by kernel_rfl
theorem i7H:Mc Tryd.prog 23=⟨1,24,[.Mk],[.sl false 4 72 []],some (.Mk),.slice 25⟩:=by kernel_rfl
theorem i7I:Mc Tryd.prog 24=⟨4,72,[.int .i64 0,.str [],.Mk,.Mk],[.int .i64 0,.str [],.sl false 1 16 [],.sl false 4 72 []],some (.agg [.int .i64 0,.str [],.Mk,.Mk]),.struct [(0,1,false),(1,1,false),(2,1,false),(3,1,false)]⟩:=by kernel_rfl
theorem i7J:Mc Tryd.prog 25=⟨4,72,[.int .i64 0,.str [],.Mk,.Mk],[.int .i64 0,.str [],.sl false 1 16 [],.sl false 4 72 []],some (.agg [.int .i64 0,.str [],.Mk,.Mk]),.struct [(0,1,false),(1,1,false),(2,1,false),(3,1,false)]⟩:=by kernel_rfl
theorem i7K:Mc Tryd.prog 26=⟨7,144,[.int .i64 0,.str [],.Mk,.Mk,.Mk,.Mk,.Mk],[.int .i64 0,.str [],.sl false 1 16 [],.sl false 4 72 [],.sl false 1 16 [],.sl false 1 16 [],.sl false 1 16 []],some (.agg [.int .i64 0,.str [],.Mk,.Mk,.Mk,.Mk,.Mk]),.struct [(0,4,true),(4,1,false),(5,1,false),(6,1,false)]⟩:=by kernel_rfl
theorem i7L:Mc Tryd.prog 27=⟨7,144,[.int .i64 0,.str [],.Mk,.Mk,.Mk,.Mk,.Mk],[.int .i64 0,.str [],.sl false 1 16 [],.sl false 4 72 [],.sl false 1 16 [],.sl false 1 16 [],.sl false 1 16 []],some (.agg [.int .i64 0,.str [],.Mk,.Mk,.Mk,.Mk,.Mk]),.struct [(0,4,true),(4,1,false),(5,1,false),(6,1,false)]⟩:=by kernel_rfl
theorem i7M:Mc Tryd.prog 29=⟨2,16,[.int .i64 0,.int .i64 0],[.int .i64 0,.int .i64 0],some (.agg [.int .i64 0,.int .i64 0]),.struct [(0,1,false),(1,1,false)]⟩:=by kernel_rfl
theorem i7N:Mc Tryd.prog 30=⟨2,16,[.int .i64 0,.int .i64 0],[.int .i64 0,.int .i64 0],some (.agg [.int .i64 0,.int .i64 0]),.struct [(0,1,false),(1,1,false)]⟩:=by kernel_rfl
theorem i7O:Mc Tryd.prog 33=⟨1,24,[.Mk],[.sl false 2 32 []],some (.Mk),.slice 38⟩:=by kernel_rfl
theorem i7P:Mc Tryd.prog 34=⟨1,0,[.any],[.any],some (.any),.other⟩:=by kernel_rfl
theorem i7Q:Mc Tryd.prog 36=⟨1,24,[.Mk],[.sl false 6 104 []],some (.Mk),.slice 50⟩:=by kernel_rfl
theorem i7R:Mc Tryd.prog 37=⟨2,32,[.int .i64 0,.Mk],[.int .i64 0,.sl false 6 104 []],some (.agg [.int .i64 0,.Mk]),.struct [(0,1,false),(1,1,false)]⟩:=by kernel_rfl
theorem i7S:Mc Tryd.prog 38=⟨2,32,[.int .i64 0,.Mk],[.int .i64 0,.sl false 6 104 []],some (.agg [.int .i64 0,.Mk]),.struct [(0,1,false),(1,1,false)]⟩:=by kernel_rfl
theorem i7T:Mc Tryd.prog 41=⟨1,0,[.any],[.any],some (.any),.other⟩:=by kernel_rfl
theorem i7U:Mc Tryd.prog 43=⟨1,0,[.any],[.any],some (.any),.other⟩:=by kernel_rfl
theorem i7V:Mc Tryd.prog 49=⟨6,104,[.str [],.str [],.int .i64 0,.str [],.Mk,.Mk],[.str [],.str [],.int .i64 0,.str [],.sl false 1 16 [],.sl false 4 72 []],some (.agg [.str [],.str [],.int .i64 0,.str [],.Mk,.Mk]),.struct [(0,1,false),(1,1,false),(2,4,true)]⟩:=by kernel_rfl
theorem i7W:Mc Tryd.prog 50=⟨6,104,[.str [],.str [],.int .i64 0,.str [],.Mk,.Mk],[.str [],.str [],.int .i64 0,.str [],.sl false 1 16 [],.sl false 4 72 []],some (.agg [.str [],.str [],.int .i64 0,.str [],.Mk,.Mk]),.struct [(0,1,false),(1,1,false),(2,4,true)]⟩:=by kernel_rfl
theorem i7X:Mc Tryd.prog 57=⟨1,0,[.any],[.any],some (.any),.other⟩:=by kernel_rfl
theorem i7Y:Mc Tryd.prog 59=⟨1,24,[.Mk],[.sl false 5 80 []],some (.Mk),.slice 63⟩:=by kernel_rfl
theorem i7Z:Mc Tryd.prog 61=⟨1,24,[.Mk],[.sl false 1 1 []],some (.Mk),.slice 4⟩:=by kernel_rfl
theorem i8a:Mc Tryd.prog 62=⟨5,80,[.int .i64 0,.str [],.Mk,.Mk,.int .i64 0],[.int .i64 0,.str [],.sl false 1 16 [],.sl false 1 1 [],.int .i64 0],some (.agg [.int .i64 0,.str [],.Mk,.Mk,.int .i64 0]),.struct [(0,1,false),(1,1,false),(2,1,false),(3,1,false),(4,1,false)]⟩:=by kernel_rfl
theorem i8b:Mc Tryd.prog 63=⟨5,80,[.int .i64 0,.str [],.Mk,.Mk,.int .i64 0],[.int .i64 0,.str [],.sl false 1 16 [],.sl false 1 1 [],.int .i64 0],some (.agg [.int .i64 0,.str [],.Mk,.Mk,.int .i64 0]),.struct [(0,1,false),(1,1,false),(2,1,false),(3,1,false),(4,1,false)]⟩:=by kernel_rfl
theorem i8c:Mc Tryd.prog 65=⟨1,8,[.UJ],[.UJ],some (.UJ),.other⟩:=by kernel_rfl
theorem i8d:Mc Tryd.prog 66=⟨1,0,[.any],[.any],some (.any),.other⟩:=by kernel_rfl
theorem i8e:Mc Tryd.prog 70=⟨1,8,[.UJ],[.UJ],some (.UJ),.other⟩:=by kernel_rfl
theorem i8f:Mc Tryd.prog 71=⟨1,8,[.UJ],[.UJ],some (.UJ),.other⟩:=by kernel_rfl
theorem i8g:Mc Tryd.prog 72=⟨1,0,[.any],[.any],some (.any),.other⟩:=by kernel_rfl
theorem i8h:Mc Tryd.prog 76=⟨1,0,[.any],[.any],some (.any),.other⟩:=by kernel_rfl
theorem i8i:Mc Tryd.prog 79=⟨1,8,[.UJ],[.UJ],some (.UJ),.other⟩:=by kernel_rfl
theorem i8j:Mc Tryd.prog 81=⟨1,8,[.d1o],[.d1o],some (.d1o),.map 9 50⟩:=by kernel_rfl
theorem i8k:Mc Tryd.prog 82=⟨1,8,[.d1o],[.d1o],some (.d1o),.map 9 50⟩:=by kernel_rfl
theorem i8l:Mc Tryd.prog 86=⟨1,24,[.Mk],[.sl false 1 24 []],some (.Mk),.slice 22⟩:=by kernel_rfl
theorem i8m:Mc Tryd.prog 88=⟨1,8,[.UJ],[.UJ],some (.UJ),.other⟩:=by kernel_rfl
theorem i8n:Mc Tryd.prog 89=⟨1,8,[.UJ],[.UJ],some (.UJ),.other⟩:=by kernel_rfl
theorem i8o:Mc Tryd.prog 93=⟨1,8,[.int .u64 0],[.int .u64 0],some (.int .u64 0),.int .u64⟩:=by kernel_rfl
theorem i8p:Mc Tryd.prog 94=⟨5,80,[.int .i64 0,.str [],.Mk,.Mk,.int .i64 0],[.int .i64 0,.str [],.sl false 1 16 [],.sl false 4 72 [],.int .i64 0],some (.agg [.int .i64 0,.str [],.Mk,.Mk,.int .i64 0]),.struct [(0,4,true),(4,1,false)]⟩:=by kernel_rfl
theorem i8q:Mc Tryd.prog 95=⟨5,80,[.int .i64 0,.str [],.Mk,.Mk,.int .i64 0],[.int .i64 0,.str [],.sl false 1 16 [],.sl false 4 72 [],.int .i64 0],some (.agg [.int .i64 0,.str [],.Mk,.Mk,.int .i64 0]),.struct [(0,4,true),(4,1,false)]⟩:=by kernel_rfl
theorem i8r:Mc Tryd.prog 96=⟨1,24,[.Mk],[.sl false 5 80 []],some (.Mk),.slice 95⟩:=by kernel_rfl
theorem i8s:Mc Tryd.prog 97=⟨1,8,[.UJ],[.UJ],some (.UJ),.other⟩:=by kernel_rfl
theorem i8t:Mc Tryd.prog 98=⟨1,8,[.UJ],[.UJ],some (.UJ),.other⟩:=by kernel_rfl
theorem i8u:Mc Tryd.prog 99=⟨1,0,[.any],[.any],some (.any),.other⟩:=by kernel_rfl
theorem i6U:Mc Tryd.prog 101=⟨1,24,[.Mk],[.sl false 2 32 []],some (.Mk),.slice 103⟩:=by kernel_rfl
theorem i6V:Mc Tryd.prog 102=⟨2,32,[.str [],.str []],[.str [],.str []],some (.agg [.str [],.str []]),.struct [(0,1,false),(1,1,false)]⟩:=by kernel_rfl
theorem i6W:Mc Tryd.prog 103=⟨2,32,[.str [],.str []],[.str [],.str []],some (.agg [.str [],.str []]),.struct [(0,1,false),(1,1,false)]⟩:=by kernel_rfl
theorem i6X:Mc Tryd.prog 105=⟨1,8,[.UJ],[.UJ],some (.UJ),.other⟩:=by kernel_rfl
theorem i6Y:Mc Tryd.prog 108=⟨1,8,[.int .i64 0],[.int .i64 0],some (.int .i64 0),.int .i64⟩:=by kernel_rfl
theorem i6Z:Mc Tryd.prog 109=⟨1,0,[.any],[.any],some (.any),.other⟩:=by kernel_rfl
theorem i7a:Mc Tryd.prog 113=⟨1,0,[.any],[.any],some (.any),.other⟩:=by kernel_rfl
theorem i7b:Mc Tryd.prog 116=⟨1,4,[.int .u32 0],[.int .u32 0],some (.int .u32 0),.int .u32⟩:=by kernel_rfl
theorem i7c:Mc Tryd.prog 118=⟨1,8,[.int .u64 0],[.int .u64 0],some (.int .u64 0),.int .u64⟩:=by kernel_rfl
theorem i7d:Mc Tryd.prog 119=⟨1,24,[.Mk],[.sl false 1 8 []],some (.Mk),.slice 3⟩:=by kernel_rfl
theorem i7e:Mc Tryd.prog 120=⟨1,8,[.int .u64 0],[.int .u64 0],some (.int .u64 0),.int .u64⟩:=by kernel_rfl
theorem i7f:Mc Tryd.prog 124=⟨1,8,[.VT],[.VT],some (.VT),.ptr 3⟩:=by kernel_rfl
theorem i7g:Mc Tryd.prog 127=⟨1,8,[.VT],[.VT],some (.VT),.ptr 120⟩:=by kernel_rfl
theorem i7h:Mc Tryd.prog 129=⟨24,24,[.int .u8 0,.int .u8 0,.int .u8 0,.int .u8 0,.int .u8 0,.int .u8 0,.int .u8 0,.int .u8 0,.int .u8 0,.int .u8 0,.int .u8 0,.int .u8 0,.int .u8 0,.int .u8 0,.int .u8 0,.int .u8 0,.int .u8 0,.int .u8 0,.int .u8 0,.int .u8 0,.int .u8 0,.int .u8 0,.int .u8 0,.int .u8 0],[.int .u8 0,.int .u8 0,.int .u8 0,.int .u8 0,.int .u8 0,.int .u8 0,.int .u8 0,.int .u8 0,.int .u8 0,.int .u8 0,.int .u8 0,.int .u8 0,.int .u8 0,.int .u8 0,.int .u8 0,.int .u8 0,.int .u8 0,.int .u8 0,.int .u8 0,.int .u8 0,.int .u8 0,.int .u8 0,.int .u8 0,.int .u8 0],some (.agg [.int .u8 0,.int .u8 0,.int .u8 0,.int .u8 0,.int .u8 0,.int .u8 0,.int .u8 0,.int .u8 0,.int .u8 0,.int .u8 0,.int .u8 0,.int .u8 0,.int .u8 0,.int .u8 0,.int .u8 0,.int .u8 0,.int .u8 0,.int .u8 0,.int .u8 0,.int .u8 0,.int .u8 0,.int .u8 0,.int .u8 0,.int .u8 0]),.arr 24 5⟩:=by kernel_rfl
theorem i7i:Mc Tryd.prog 131=⟨1,24,[.Mk],[.sl false 1 1 []],some (.Mk),.slice 5⟩:=by kernel_rfl
theorem i7j:Mc Tryd.prog 132=⟨1,0,[.any],[.any],some (.any),.other⟩:=by kernel_rfl
theorem i7k:Mc Tryd.prog 135=⟨20,160,[.int .u64 0,.int .u64 0,.int .u64 0,.int .u64 0,.int .u64 0,.int .u64 0,.int .u64 0,.int .u64 0,.int .u64 0,.int .u64 0,.int .u64 0,.int .u64 0,.int .u64 0,.int .u64 0,.int .u64 0,.int .u64 0,.int .u64 0,.int .u64 0,.int .u64 0,.int .u64 0],[.int .u64 0,.int .u64 0,.int .u64 0,.int .u64 0,.int .u64 0,.int .u64 0,.int .u64 0,.int .u64 0,.int .u64 0,.int .u64 0,.int .u64 0,.int .u64 0,.int .u64 0,.int .u64 0,.int .u64 0,.int .u64 0,.int .u64 0,.int .u64 0,.int .u64 0,.int .u64 0],some (.agg [.int .u64 0,.int .u64 0,.int .u64 0,.int .u64 0,.int .u64 0,.int .u64 0,.int .u64 0,.int .u64 0,.int .u64 0,.int .u64 0,.int .u64 0,.int .u64 0,.int .u64 0,.int .u64 0,.int .u64 0,.int .u64 0,.int .u64 0,.int .u64 0,.int .u64 0,.int .u64 0]),.arr 20 118⟩:=by kernel_rfl
theorem i7l:Mc Tryd.prog 136=⟨65,65,[.int .u8 0,.int .u8 0,.int .u8 0,.int .u8 0,.int .u8 0,.int .u8 0,.int .u8 0,.int .u8 0,.int .u8 0,.int .u8 0,.int .u8 0,.int .u8 0,.int .u8 0,.int .u8 0,.int .u8 0,.int .u8 0,.int .u8 0,.int .u8 0,.int .u8 0,.int .u8 0,.int .u8 0,.int .u8 0,.int .u8 0,.int .u8 0,.int .u8 0,.int .u8 0,.int .u8 0,.int .u8 0,.int .u8 0,.int .u8 0,.int .u8 0,.int .u8 0,.int .u8 0,.int .u8 0,.int .u8 0,.int .u8 0,.int .u8 0,.int .u8 0,.int .u8 0,.int .u8 0,.int .u8 0,.int .u8 0,.int .u8 0,.int .u8 0,.int .u8 0,.int .u8 0,.int .u8 0,.int .u8 0,.int .u8 0,.int .u8 0,.int .u8 0,.int .u8 0,.int .u8 0,.int .u8 0,.int .u8 0,.int .u8 0,.int .u8 0,.int .u8 0,.int .u8 0,.int .u8 0,.int .u8 0,.int .u8 0,.int .u8 0,.int .u8 0,.int .u8 0],[],some (.agg [.int .u8 0,.int .u8 0,.int .u8 0,.int .u8 0,.int .u8 0,.int .u8 0,.int .u8 0,.int .u8 0,.int .u8 0,.int .u8 0,.int .u8 0,.int .u8 0,.int .u8 0,.int .u8 0,.int .u8 0,.int .u8 0,.int .u8 0,.int .u8 0,.int .u8 0,.int .u8 0,.int .u8 0,.int .u8 0,.int .u8 0,.int .u8 0,.int .u8 0,.int .u8 0,.int .u8 0,.int .u8 0,.int .u8 0,.int .u8 0,.int .u8 0,.int .u8 0,.int .u8 0,.int .u8 0,.int .u8 0,.int .u8 0,.int .u8 0,.int .u8 0,.int .u8 0,.int .u8 0,.int .u8 0,.int .u8 0,.int .u8 0,.int .u8 0,.int .u8 0,.int .u8 0,.int .u8 0,.int .u8 0,.int .u8 0,.int .u8 0,.int .u8 0,.int .u8 0,.int .u8 0,.int .u8 0,.int .u8 0,.int .u8 0,.int .u8 0,.int .u8 0,.int .u8 0,.int .u8 0,.int .u8 0,.int .u8 0,.int .u8 0,.int .u8 0,.int .u8 0]),.arr 65 5⟩:=by kernel_rfl
theorem i7m:Mc Tryd.prog 138=⟨32,32,[.int .u8 0,.int .u8 0,.int .u8 0,.int .u8 0,.int .u8 0,.int .u8 0,.int .u8 0,.int .u8 0,.int .u8 0,.int .u8 0,.int .u8 0,.int .u8 0,.int .u8 0,.int .u8 0,.int .u8 0,.int .u8 0,.int .u8 0,.int .u8 0,.int .u8 0,.int .u8 0,.int .u8 0,.int .u8 0,.int .u8 0,.int .u8 0,.int .u8 0,.int .u8 0,.int .u8 0,.int .u8 0,.int .u8 0,.int .u8 0,.int .u8 0,.int .u8 0],[.int .u8 0,.int .u8 0,.int .u8 0,.int .u8 0,.int .u8 0,.int .u8 0,.int .u8 0,.int .u8 0,.int .u8 0,.int .u8 0,.int .u8 0,.int .u8 0,.int .u8 0,.int .u8 0,.int .u8 0,.int .u8 0,.int .u8 0,.int .u8 0,.int .u8 0,.int .u8 0,.int .u8 0,.int .u8 0,.int .u8 0,.int .u8 0,.int .u8 0,.int .u8 0,.int .u8 0,.int .u8 0,.int .u8 0,.int .u8 0,.int .u8 0,.int .u8 0],some (.agg [.int .u8 0,.int .u8 0,.int .u8 0,.int .u8 0,.int .u8 0,.int .u8 0,.int .u8 0,.int .u8 0,.int .u8 0,.int .u8 0,.int .u8 0,.int .u8 0,.int .u8 0,.int .u8 0,.int .u8 0,.int .u8 0,.int .u8 0,.int .u8 0,.int .u8 0,.int .u8 0,.int .u8 0,.int .u8 0,.int .u8 0,.int .u8 0,.int .u8 0,.int .u8 0,.int .u8 0,.int .u8 0,.int .u8 0,.int .u8 0,.int .u8 0,.int .u8 0]),.arr 32 5⟩:=by kernel_rfl
theorem i7n:Mc Tryd.prog 139=⟨64,64,[.int .u8 0,.int .u8 0,.int .u8 0,.int .u8 0,.int .u8 0,.int .u8 0,.int .u8 0,.int .u8 0,.int .u8 0,.int .u8 0,.int .u8 0,.int .u8 0,.int .u8 0,.int .u8 0,.int .u8 0,.int .u8 0,.int .u8 0,.int .u8 0,.int .u8 0,.int .u8 0,.int .u8 0,.int .u8 0,.int .u8 0,.int .u8 0,.int .u8 0,.int .u8 0,.int .u8 0,.int .u8 0,.int .u8 0,.int .u8 0,.int .u8 0,.int .u8 0,.int .u8 0,.int .u8 0,.int .u8 0,.int .u8 0,.int .u8 0,.int .u8 0,.int .u8 0,.int .u8 0,.int .u8 0,.int .u8 0,.int .u8 0,.int .u8 0,.int .u8 0,.int .u8 0,.int .u8 0,.int .u8 0,.int .u8 0,.int .u8 0,.int .u8 0,.int .u8 0,.int .u8 0,.int .u8 0,.int .u8 0,.int .u8 0,.int .u8 0,.int .u8 0,.int .u8 0,.int .u8 0,.int .u8 0,.int .u8 0,.int .u8 0,.int .u8 0],[.int .u8 0,.int .u8 0,.int .u8 0,.int .u8 0,.int .u8 0,.int .u8 0,.int .u8 0,.int .u8 0,.int .u8 0,.int .u8 0,.int .u8 0,.int .u8 0,.int .u8 0,.int .u8 0,.int .u8 0,.int .u8 0,.int .u8 0,.int .u8 0,.int .u8 0,.int .u8 0,.int .u8 0,.int .u8 0,.int .u8 0,.int .u8 0,.int .u8 0,.int .u8 0,.int .u8 0,.int .u8 0,.int .u8 0,.int .u8 0,.int .u8 0,.int .u8 0,.int .u8 0,.int .u8 0,.int .u8 0,.int .u8 0,.int .u8 0,.int .u8 0,.int .u8 0,.int .u8 0,.int .u8 0,.int .u8 0,.int .u8 0,.int .u8 0,.int .u8 0,.int .u8 0,.int .u8 0,.int .u8 0,.int .u8 0,.int .u8 0,.int .u8 0,.int .u8 0,.int .u8 0,.int .u8 0,.int .u8 0,.int .u8 0,.int .u8 0,.int .u8 0,.int .u8 0,.int .u8 0,.int .u8 0,.int .u8 0,.int .u8 0,.int .u8 0],some (.agg [.int .u8 0,.int .u8 0,.int .u8 0,.int .u8 0,.int .u8 0,.int .u8 0,.int .u8 0,.int .u8 0,.int .u8 0,.int .u8 0,.int .u8 0,.int .u8 0,.int .u8 0,.int .u8 0,.int .u8 0,.int .u8 0,.int .u8 0,.int .u8 0,.int .u8 0,.int .u8 0,.int .u8 0,.int .u8 0,.int .u8 0,.int .u8 0,.int .u8 0,.int .u8 0,.int .u8 0,.int .u8 0,.int .u8 0,.int .u8 0,.int .u8 0,.int .u8 0,.int .u8 0,.int .u8 0,.int .u8 0,.int .u8 0,.int .u8 0,.int .u8 0,.int .u8 0,.int .u8 0,.int .u8 0,.int .u8 0,.int .u8 0,.int .u8 0,.int .u8 0,.int .u8 0,.int .u8 0,.int .u8 0,.int .u8 0,.int .u8 0,.int .u8 0,.int .u8 0,.int .u8 0,.int .u8 0,.int .u8 0,.int .u8 0,.int .u8 0,.int .u8 0,.int .u8 0,.int .u8 0,.int .u8 0,.int .u8 0,.int .u8 0,.int .u8 0]),.arr 64 5⟩:=by kernel_rfl
theorem i7o:Mc Tryd.prog 140=⟨4,40,[.VT,.VT,.VT,.str []],[.VT,.VT,.VT,.str []],some (.agg [.VT,.VT,.VT,.str []]),.struct [(0,1,false),(1,1,false),(2,1,false),(3,1,false)]⟩:=by kernel_rfl
theorem i7p:Mc Tryd.prog 143=⟨0,0,[],[],some (.agg []),.struct [(0,0,true)]⟩:=by kernel_rfl
theorem i7q:Mc Tryd.prog 149=⟨1,8,[.VT],[.VT],some (.VT),.ptr 5⟩:=by kernel_rfl
theorem i7r:Mc Tryd.prog 152=⟨11,48,[.int .u64 0,.int .u64 0,.int .u32 0,.int .u8 0,.int .u8 0,.int .u8 0,.int .u8 0,.UJ,.VT,.int .i32 0,.int .i32 0],[.int .u64 0,.int .u64 0,.int .u32 0,.int .u8 0,.int .u8 0,.int .u8 0,.int .u8 0,.UJ,.VT,.int .i32 0,.int .i32 0],some (.agg [.int .u64 0,.int .u64 0,.int .u32 0,.int .u8 0,.int .u8 0,.int .u8 0,.int .u8 0,.UJ,.VT,.int .i32 0,.int .i32 0]),.struct [(0,1,false),(1,1,false),(2,1,false),(3,1,false),(4,1,false),(5,1,false),(6,1,false),(7,1,false),(8,1,false),(9,1,false),(10,1,false)]⟩:=by kernel_rfl
theorem fk7:MF Tryd.prog 7=some [1,1,3,1]:=by kernel_rfl
theorem i8v:MF Tryd.prog 24=some [1,2,0,0]:=by kernel_rfl
theorem i8w:MF Tryd.prog 25=some [1,2,0,0]:=by kernel_rfl
theorem i8x:MF Tryd.prog 29=some [1,1]:=by kernel_rfl
theorem i8y:MF Tryd.prog 30=some [1,1]:=by kernel_rfl
theorem i8z:MF Tryd.prog 37=some [1,0]:=by kernel_rfl
theorem i8A:MF Tryd.prog 38=some [1,0]:=by kernel_rfl
theorem i8B:MF Tryd.prog 49=some [2,2,0]:=by kernel_rfl
theorem i8C:MF Tryd.prog 50=some [2,2,0]:=by kernel_rfl
theorem i8D:MF Tryd.prog 62=some [1,2,0,0,1]:=by kernel_rfl
theorem i8E:MF Tryd.prog 63=some [1,2,0,0,1]:=by kernel_rfl
theorem i7s:MF Tryd.prog 102=some [2,2]:=by kernel_rfl
theorem i7t:MF Tryd.prog 103=some [2,2]:=by kernel_rfl
attribute [go_sem] ty0 ty2 ty3 ty4 ty5 ty7 ty9 i7D i7E i7F i7G i5S i7H i7I i7J i7K i7L i7M i7N i7O i7P i7Q i7R i7S i7T i7U i7V i7W i7X i7Y i7Z i8a i8b i8c i8d i8e i8f i8g i8h i8i i8j i8k i8l i8m i8n i8o i8p i8q i8r i8s i8t i8u i6U i6V i6W i6X i6Y i6Z i7a i7b i7c i7d i7e i7f i7g i7h i7i i7j i7k i7l i7m i7n i7o i7p i7q i7r fk7 i8v i8w i8x i8y i8z i8A i8B i8C i8D i8E i7s i7t
end Go.Proofs.YtdjnbjnlnjhllaaDoor
